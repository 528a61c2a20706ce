import PyProof.Rows.All
import Wide.All
import OpenK.AllK
import Wide.FinOn
import HandS.ForMost
import HandS.Conv
import HandS.DictComp
import HandS.Property
import KE.GoesEnumKw
import KE.KDictLaws
import HandS.HeadHook2
import HandS.HeadHook4
import HandS.Head2
import HandS.HeadEnd
import HandS.Codes
import HandS.Defaults
import HandS.RaiseMore
import KE.GoesMore
import KE.GoesEnum
import KE.KDictList
import PyProof.DictUpdate
import HandS.Walk
import HandS.Text
import HandS.Style
import PyProof.ReprRoads
import HandS.Zip
import HandS.IsInst
import HandS.SortInts
import HandS.ExcInit
import HandS.ExcSuper
import HandS.ExcIs
import HandS.ExcOwn
import HandS.ExcField
import HandS.TryMany
import HandS.TryOnly
import KE.KExcIs
import PyProof.NeKinds
import KE.KTryMore
import PyProof.Rows.CatchTuple
import HandS.TupLe
import HandS.FStr
import OpenK.KOps
import PyProof.EqKinds
import PySem.Challenge.RW_bothlanes_k02_uneven_towns
set_option Elab.async false
set_option linter.all false
set_option maxRecDepth 100000
namespace BL
open PySem PySem.Spec PyProof.Rows L2

section
variable {X : Cx}

structure PM (X : Cx) (cs : List MatchCase) (t : V → TS) : Prop where
  run : ∀ (first : Bool) (pins : List (Addr × Obj)) (s : Shared) (σ : L2.St) (H : Hp) (D : Ends) (x : V) (u : Value), Inv X pins σ H s → RelV x u → t x D σ H →
    wpAny (model X.prog X.w) X.A (matchCases cs X.env u first) (SP X pins D) X.xe s
theorem pm_never {cs : List MatchCase} : PM X cs (fun _ _ _ _ => False) := ⟨fun _ _ _ _ _ _ _ _ _ _ h => h.elim⟩
/-- case 'c' if g: body -/
def tCase (c : Str) (tg : TT) (tb : TS) (tr : V → TS) : V → TS := fun x D σ H => ∃ z, x = .str z ∧ ((z = c → tg σ H fun k H1 => if k = true then tb D σ H1 else tr x D σ H1) ∧ (z ≠ c → tr x D σ H))
theorem pm_case {c : Str} {j : Nat} {p1 p2 : Pos} {g : Expr} {body : List Stmt} {rest : List MatchCase} {tg : TT} {tb : TS} {tr : V → TS} (hg : PT X g tg) (hb : PSs X body tb) (hr : PM X rest tr) :
    PM X (⟨.MatchValue (.Constant (.str c) j p1) p2, some g, body⟩ :: rest) (tCase c tg tb tr) := by
  refine ⟨fun first pins s σ H D x u I rx h => ?_⟩
  obtain ⟨z, rfl, h1, h2⟩ := h
  obtain ⟨t, rfl⟩ := rx
  show wpAny _ _ (do
    match ← holding [Value.str z t] (do
      let v ← eval (.Constant (.str c) j p1) X.env
      standAt p2
      if ← truthy (← compareOp .Eq (Value.str z t) v) then pure (some ([] : List (Str × Value))) else pure none) with
    | none => matchCases rest X.env (Value.str z t) false
    | some bs => do
      holding _ (assignInOrder (bs.map fun (n, _) => bindName X.env n) (bs.map (·.2)))
      let ok ← holding _ (isTrue g X.env (eval g X.env))
      if ok then execs body X.env else matchCases rest X.env (Value.str z t) false) _ _ _
  refine wpAny_bind (wpAny_holding (wpAny_bind (Calls.Constant_str (wpAny_bind (wpAny_standAt (wpAny_bind ?_))))))
  refine thn (op_eq pins _ σ H (.str z) (.str c) _ _ (fun v H' => H' = H ∧ v = .bl (decide (z = c))) (I.tok _) ⟨t, rfl⟩ ⟨_, rfl⟩ ⟨rfl, rfl, ?_⟩) fun v s1 ⟨v', H', I1, r1, e1, e2⟩ => ?_
  · by_cases e : z = c
    · rw [decide_eq_true e, decide_eq_true (congrArg V.str e)]
    · rw [decide_eq_false e, decide_eq_false fun q => e (V.str.inj q)]
  · subst e1 e2
    cases r1
    refine wpAny_bind (wpAny_truthy_bool ?_)
    by_cases e : z = c
    · rw [decide_eq_true e]
      refine wpAny_pure ?_
      refine wpAny_bind (wpAny_holding (wpAny_pure (wpAny_bind (wpAny_holding ?_))))
      refine thn (hg.run pins s1 σ _ _ I1 (h1 e)) fun k s2 ⟨H2, I2, q2⟩ => ?_
      cases k with
      | true => exact hb.run pins s2 σ H2 D I2 q2
      | false => exact hr.run false pins s2 σ H2 D (.str z) _ I2 ⟨t, rfl⟩ q2
    · rw [decide_eq_false e]
      refine wpAny_pure ?_
      exact hr.run false pins s1 σ _ D (.str z) _ I1 ⟨t, rfl⟩ (h2 e)
/-- match subject: cases -/
def tMatch (te : TE) (t : V → TS) : TS := fun D σ H => te σ H fun x H1 => t x D σ H1
theorem ps_match {e : Expr} {cs : List MatchCase} {pos : Pos} {te : TE} {t : V → TS} (he : PE X e te) (hc : PM X cs t) : PS X (.Match e cs pos) (tMatch te t) := by
  refine ⟨fun pins s σ H D I h => ?_⟩
  show wpAny _ _ (do
    standAt pos
    let v ← eval e X.env
    matchCases cs X.env v true) _ _ _
  refine wpAny_bind (wpAny_standAt (wpAny_bind ?_))
  refine thn (he.run pins s σ H _ I h) fun u s1 ⟨x, H1, I1, r1, q1⟩ => ?_
  exact hc.run true pins s1 σ H1 D x u I1 r1 q1
end
end BL
set_option maxRecDepth 100000
set_option maxHeartbeats 2000000
namespace BL
open PySem PySem.Spec PyProof.Rows L2 He

/-- one def, wherever it stands -/
structure DefA where
  ad : PySem.W.Frag → Addr
  name : Str
  qual : Str
  params : Arguments
  body : List Stmt
  scope : Scope
  dn : Nat
/-- a default as a value -/
def toV : Value → Option V
  | .none => some .non
  | .bool b => some (.bl b)
  | .int i _ => some (.int i)
  | .str z _ => some (.str z)
  | .ref a => some (.ref a)
  | _ => none
def dflN (K : PySem.W.Frag) (dV : Value) (n : Nat) : Bool := match dV with
  | .ref T => (match K.lookup T with
    | some ⟨_, _, .seq its _, _⟩ => decide (its.size = n) && its.toList.all fun u => (toV u).isSome
    | _ => false)
  | _ => false
def fnA (K : PySem.W.Frag) (a : Addr) : FnW := match K.lookup a with
  | some ⟨_, _, .func fd, _⟩ => some (fd.name, fd.qualname, fd.params, fd.body, fd.scope, fd.globals, fd.closure, fd.builtins)
  | _ => none
def DefA.val (d : DefA) : FnW := some (d.name, d.qual, d.params, .stmts d.body, d.scope, mainGlobals, [], builtinsNs)
def DefA.ok (K : PySem.W.Frag) (d : DefA) : Bool := PySem.W.keepIn K (.ref (d.ad K)) && (match K.lookup (d.ad K) with
  | some ⟨_, _, .func fd, _⟩ => PySem.W.codeIn K fd.code d.qual && ((if d.dn = 0 then dflB K fd.defaults [] else dflN K fd.defaults d.dn) && kwdB K fd.kwdefaults [])
  | _ => false)
theorem DefA.funD {K : PySem.W.Frag} {d : DefA} (e : fnA K (d.ad K) = d.val) (c : d.ok K = true) (h0 : d.dn = 0) : ∃ fd, FunD K d.name d.qual d.params d.body d.scope [] [] (d.ad K) fd := by
  obtain ⟨kp, c2⟩ := ba c
  unfold fnA at e
  cases q : K.lookup (d.ad K) with
  | none =>
    rw [q] at c2
    cases c2
  | some o =>
    obtain ⟨oc, od, dt, osl⟩ := o
    rw [q] at c2 e
    cases dt with
    | func fd =>
      obtain ⟨n1, n2, n3, n4, n5, n6, n7, n8, n9, n10, n11, n12, n13, n14, n15⟩ := fd
      have e2 : (some (n1, n2, n3, n4, n5, n6, n7, n15) : FnW) = some (d.name, d.qual, d.params, .stmts d.body, d.scope, mainGlobals, [], builtinsNs) := e
      simp only [Option.some.injEq, Prod.mk.injEq] at e2
      obtain ⟨h1, h2, h3, h4, h5, h6, h7, h8⟩ := e2
      subst h1 h2 h3 h4 h5 h6 h7 h8
      have c3 : (PySem.W.codeIn K n13 d.qual && (dflB K n8 [] && kwdB K n9 [])) = true := by
        have c2 : (PySem.W.codeIn K n13 d.qual && ((if d.dn = 0 then dflB K n8 [] else dflN K n8 d.dn) && kwdB K n9 [])) = true := c2
        rw [if_pos h0] at c2
        exact c2
      obtain ⟨k1, k2⟩ := ba c3
      obtain ⟨k3, k4⟩ := ba k2
      exact ⟨_, ⟨oc, od, n8, n9, n10, n11, n12, n13, n14, osl, rfl, q, k1, dflB_ok k3, kwdB_ok k4⟩, kp⟩
    | _ => cases c2

/-- a property's object, its getter -/
def pAd (C f : Str) (K : PySem.W.Frag) : Addr := ma K (ga K C) f
def gAd (C f : Str) (K : PySem.W.Frag) : Addr := match PySem.W.recIn K (pAd C f K) "property" with
  | some (.ref g :: _) => g
  | _ => 0
def propB (C f : Str) (K : PySem.W.Frag) : Bool := eqO (PySem.W.findIn K (.ref (ga K C)) f) (some (some (.ref (pAd C f K)))) &&
  (eqO (PySem.W.specialIn K (.ref (pAd C f K)) "__get__") (some (some (.builtin "property.__get__"))) &&
  (decide (PySem.W.takesIn K (.ref (pAd C f K)) = some true) && (match PySem.W.recIn K (pAd C f K) "property" with
  | some (.ref g :: _) => true
  | _ => false)))
theorem propB_ok {K : PySem.W.Frag} {C f : Str} (h : propB C f K = true) : PropOf K (ga K C) f (pAd C f K) (gAd C f K) := by
  obtain ⟨h1, h⟩ := ba h
  obtain ⟨h2, h⟩ := ba h
  obtain ⟨h3, h4⟩ := ba h
  refine ⟨eqO_ok h1, eqO_ok h2, of_decide_eq_true h3, ?_⟩
  unfold gAd
  split at h4
  · rename_i g r q
    rw [q]
    exact ⟨r, rfl⟩
  · cases h4

abbrev AlQ : Type := Bool × List FnW
def obsQ (fa : List Fa) (fn : List DefA) (ex : PySem.W.Frag → Bool) (K : PySem.W.Frag) : AlQ := ((fa.all fun f => f.ok K) && (fn.all fun d => d.ok K) && ex K, fn.map fun d => fnA K (d.ad K))
def valQ (fn : List DefA) : AlQ := (true, fn.map DefA.val)
def SaysQ (fa : List Fa) (fn : List DefA) (ex : PySem.W.Frag → Bool) (K : PySem.W.Frag) : Prop := obsQ fa fn ex K = valQ fn
section
variable {fa : List Fa} {fn : List DefA} {ex : PySem.W.Frag → Bool} {K : PySem.W.Frag}
theorem SaysQ.all (c : SaysQ fa fn ex K) : (fa.all fun f => f.ok K) = true ∧ (fn.all fun d => d.ok K) = true ∧ ex K = true := by
  have c1 : ((fa.all fun f => f.ok K) && (fn.all fun d => d.ok K) && ex K) = true := congrArg (fun z : AlQ => z.1) c
  obtain ⟨c2, c3⟩ := ba c1
  obtain ⟨c4, c5⟩ := ba c2
  exact ⟨c4, c5, c3⟩
theorem SaysQ.fact (c : SaysQ fa fn ex K) (i : Nat) {f : Fa} (h : fa[i]? = some f := by rfl) : f.ok K = true :=
  List.all_eq_true.mp c.all.1 f (List.mem_of_getElem? h)
theorem SaysQ.exq (c : SaysQ fa fn ex K) : ex K = true := c.all.2.2
theorem SaysQ.def_ (c : SaysQ fa fn ex K) (i : Nat) {d : DefA} (h : fn[i]? = some d := by rfl) (h0 : d.dn = 0 := by rfl) : ∃ fd, FunD K d.name d.qual d.params d.body d.scope [] [] (d.ad K) fd := by
  have e : fn.map (fun d => fnA K (d.ad K)) = fn.map DefA.val := congrArg (fun z : AlQ => z.2) c
  have e2 : (fn.map fun d => fnA K (d.ad K))[i]? = (fn.map DefA.val)[i]? := by rw [e]
  rw [List.getElem?_map, List.getElem?_map, h] at e2
  exact DefA.funD (Option.some.inj e2) (List.all_eq_true.mp c.all.2.1 d (List.mem_of_getElem? h)) h0
end

/-- the module as the walks see it -/
structure Md (fa : List Fa) (fn : List DefA) (ex : PySem.W.Frag → Bool) (K : PySem.W.Frag) (mg : Str → Option Value) : Prop where
  hp : ∃ h : Heap, K.In h ∧ h.Ns mainGlobals mg
  c : SaysQ fa fn ex K
section
variable {fa : List Fa} {fn : List DefA} {ex : PySem.W.Frag → Bool} {K : PySem.W.Frag} {mg : Str → Option Value}
theorem Md.glo (M : Md fa fn ex K mg) (i : Nat) {x : Str} (h : fa[i]? = some (.glo x) := by rfl) : mg x = some (.ref (ga K x)) :=
  let ⟨_, X, G⟩ := M.hp
  glo_ok X G (M.c.fact i h)
theorem Md.free (M : Md fa fn ex K mg) (i : Nat) {x : Str} (h : fa[i]? = some (.free x) := by rfl) : mg x = none :=
  let ⟨_, X, G⟩ := M.hp
  free_ok X G (M.c.fact i h)
theorem Md.int (M : Md fa fn ex K mg) (i : Nat) {x : Str} {z : Int} (h : fa[i]? = some (.int x z) := by rfl) : ∃ u, mg x = some u ∧ RelV (.int z) u :=
  let ⟨_, X, G⟩ := M.hp
  let ⟨t, e⟩ := int_ok X G (M.c.fact i h)
  ⟨_, e, t, rfl⟩
theorem Md.str (M : Md fa fn ex K mg) (i : Nat) {x z : Str} (h : fa[i]? = some (.str x z) := by rfl) : ∃ u, mg x = some u ∧ RelV (.str z) u :=
  let ⟨_, X, G⟩ := M.hp
  let ⟨t, e⟩ := str_ok X G (M.c.fact i h)
  ⟨_, e, t, rfl⟩
end
variable {P : Program} {w : World} {K : PySem.W.Frag} {mg : Str → Option Value} {base : Heap}
/-- a def's promise, by its body -/
theorem cal_of {x : Str} {st : Stmt} {f : Addr} {N ps : List Str} {k : Nat} {sp : Sp} (F : ∃ fd, FunD K x x (defArgs st) (defBody st) (defScope st) [] [] f fd) (hm : mg x = some (.ref f)) (S : FnScope N ps (defScope st))
    (hb : ∀ (kV doc pm : Value) (an : Option Addr) (cdv ct : Value) (us : List Value), us.length = ps.length → bindArgs (PySem.W.fnOf x x (defArgs st) (defBody st) (defScope st) .none kV doc pm an cdv ct) ⟨us, []⟩ = pure (ps.zip us))
    (len : ∀ vs H Q E, sp vs H Q E → vs.length = ps.length)
    (hbody : ∀ (cdv : Value) (A : Around) (outer : List Env) (s : Shared) (H : Hp) (vs : List V) (Q : VK) (E : XK), Room k (A.deeper (envOfC x (defScope st) s.heap.objs.size f cdv)) → sp vs H Q E →
      ∃ t, PSs (cxOf C8.CX0 P w K mg base N x (defScope st) f cdv A outer s H E).nox (defBody st) t ∧ t { nx := fun _ H' => Q .non H', rt := Q } (start N vs) H) : C8.Cal P w K mg base (k + 1) x sp [] := by
  obtain ⟨fd, F⟩ := F
  exact ⟨f, fd, ps, [], F.ok S len (fun cdv A outer s H vs Q E hr h => let ⟨t, p, q⟩ := hbody cdv A outer s H vs Q E hr h; ⟨t, p.nox, q⟩), hm, F.kp, F.bindsN hb, .nil⟩
theorem met_of {m qual : Str} {C : Addr} {st : Stmt} {f : Addr} {N ps : List Str} {k : Nat} {sp : Sp} (c : Cls K C) (me : Meth K C m f) (F : ∃ fd, FunD K m qual (defArgs st) (defBody st) (defScope st) [] [] f fd) (S : FnScope N ps (defScope st))
    (hb : ∀ (kV doc pm : Value) (an : Option Addr) (cdv ct : Value) (us : List Value), us.length = ps.length → bindArgs (PySem.W.fnOf m qual (defArgs st) (defBody st) (defScope st) .none kV doc pm an cdv ct) ⟨us, []⟩ = pure (ps.zip us))
    (len : ∀ vs H Q E, sp vs H Q E → vs.length = ps.length)
    (hbody : ∀ (cdv : Value) (A : Around) (outer : List Env) (s : Shared) (H : Hp) (vs : List V) (Q : VK) (E : XK), Room k (A.deeper (envOfC qual (defScope st) s.heap.objs.size f cdv)) → sp vs H Q E →
      ∃ t, PSs (cxOf C8.CX0 P w K mg base N qual (defScope st) f cdv A outer s H E).nox (defBody st) t ∧ t { nx := fun _ H' => Q .non H', rt := Q } (start N vs) H) : C8.Met P w K mg base (k + 1) C m sp [] := by
  obtain ⟨fd, F⟩ := F
  exact ⟨f, fd, ps, [], c, me, F.ok S len (fun cdv A outer s H vs Q E hr h => let ⟨t, p, q⟩ := hbody cdv A outer s H vs Q E hr h; ⟨t, p.nox, q⟩), F.bindsN hb, .nil⟩
theorem mak_of {x qual : Str} {C : Addr} {st : Stmt} {f : Addr} {N ps : List Str} {k : Nat} {sp : Sp} (Mm : Mk K C f) (hm : mg x = some (.ref C)) (F : ∃ fd, FunD K "__init__" qual (defArgs st) (defBody st) (defScope st) [] [] f fd) (S : FnScope N ps (defScope st))
    (hb : ∀ (kV doc pm : Value) (an : Option Addr) (cdv ct : Value) (us : List Value), us.length = ps.length → bindArgs (PySem.W.fnOf "__init__" qual (defArgs st) (defBody st) (defScope st) .none kV doc pm an cdv ct) ⟨us, []⟩ = pure (ps.zip us))
    (len : ∀ vs H Q E, sp vs H Q E → vs.length = ps.length)
    (hbody : ∀ (cdv : Value) (A : Around) (outer : List Env) (s : Shared) (H : Hp) (vs : List V) (Q : VK) (E : XK), Room k (A.deeper (envOfC qual (defScope st) s.heap.objs.size f cdv)) → sp vs H Q E →
      ∃ t, PSs (cxOf C8.CX0 P w K mg base N qual (defScope st) f cdv A outer s H E).nox (defBody st) t ∧ t { nx := fun _ H' => Q .non H', rt := Q } (start N vs) H) : C8.Mak P w K mg base (k + 1) x C sp [] := by
  obtain ⟨fd, F⟩ := F
  exact ⟨f, fd, ps, [], Mm, F.ok S len (fun cdv A outer s H vs Q E hr h => let ⟨t, p, q⟩ := hbody cdv A outer s H vs Q E hr h; ⟨t, p.nox, q⟩), hm, F.bindsN hb, .nil⟩
/-- a property's promise -/
structure Prp (P : Program) (w : World) (K : PySem.W.Frag) (mg : Str → Option Value) (base : Heap) (k : Nat) (C : Addr) (f : Str) (sp : Sp) : Prop where
  ex : ∃ (p g : Addr) (fd : FuncData) (ps : List Str), Cls K C ∧ PropOf K C f p g ∧ FnOk P w K mg base C8.CX0 k g fd ps sp ∧ Binds K fd ps []
theorem prp_of {m qual : Str} {C p f : Addr} {st : Stmt} {N ps : List Str} {k : Nat} {sp : Sp} (c : Cls K C) (hp : PropOf K C m p f) (F : ∃ fd, FunD K m qual (defArgs st) (defBody st) (defScope st) [] [] f fd) (S : FnScope N ps (defScope st))
    (hb : ∀ (kV doc pm : Value) (an : Option Addr) (cdv ct : Value) (us : List Value), us.length = ps.length → bindArgs (PySem.W.fnOf m qual (defArgs st) (defBody st) (defScope st) .none kV doc pm an cdv ct) ⟨us, []⟩ = pure (ps.zip us))
    (len : ∀ vs H Q E, sp vs H Q E → vs.length = ps.length)
    (hbody : ∀ (cdv : Value) (A : Around) (outer : List Env) (s : Shared) (H : Hp) (vs : List V) (Q : VK) (E : XK), Room k (A.deeper (envOfC qual (defScope st) s.heap.objs.size f cdv)) → sp vs H Q E →
      ∃ t, PSs (cxOf C8.CX0 P w K mg base N qual (defScope st) f cdv A outer s H E).nox (defBody st) t ∧ t { nx := fun _ H' => Q .non H', rt := Q } (start N vs) H) : Prp P w K mg base (k + 1) C m sp := by
  obtain ⟨fd, F⟩ := F
  exact ⟨p, f, fd, ps, c, hp, F.ok S len (fun cdv A outer s H vs Q E hr h => let ⟨t, p, q⟩ := hbody cdv A outer s H vs Q E hr h; ⟨t, p.nox, q⟩), F.bindsN hb⟩
section
variable {X : Cx} {k j : Nat} {C : Addr} {x m : Str} {sp : Sp} {dvs : List V} {p pos apos : Pos} {e o : Expr} {es : List Expr} {ta : TE} {t : TA}
theorem pe_pr {f : Str} (c : Prp X.prog X.w X.K X.mg X.base k C f sp) (hr : Room j X.A) (hk : k + 1 ≤ j) (he : PE X e ta) (hab : attributeBase e f X.env (eval e X.env) = eval e X.env) : PE X (.Attribute e f pos) (tProp C sp [] E0 ta) := by
  obtain ⟨p, g, fd, ps, hc, hp, F, b⟩ := c.ex
  exact pe_prop he hc hp F (hr.mono hk) b .nil pass0 hab
theorem pe_c0 (c : C8.Cal X.prog X.w X.K X.mg X.base k x sp dvs) (hr : Room j X.A) (hk : k ≤ j) (hg : Gl X x) (hdb : (x == ("__debug__" : Str)) = false := by decide) : PE X (.Call (.Name x p) [] [] pos) (tCall sp dvs E0 tNil) := by
  obtain ⟨f, fd, ps, ds, F, hm, kp, b, d⟩ := c.ex
  exact pe_call0 F (hr.mono hk) hg hm kp b d pass0 hdb
theorem pe_mk0 (c : C8.Mak X.prog X.w X.K X.mg X.base k x C sp dvs) (hr : Room j X.A) (hk : k + 1 ≤ j) (hg : Gl X x) (hdb : (x == ("__debug__" : Str)) = false := by decide) : PE X (.Call (.Name x p) [] [] pos) (tMake C sp dvs E0 tNil) := by
  obtain ⟨f, fd, ps, ds, M, F, hm, b, d⟩ := c.ex
  exact pe_make0 M F (hr.mono hk) hg hm b d pass0 hdb
end
end BL
set_option maxRecDepth 100000
set_option maxHeartbeats 2000000
namespace BL
open PySem PySem.Spec PyProof.Rows L2

section
variable {prog : Program} {w : World} {A : Around} {E : Value → Shared → Prop} {s : Shared}
theorem enum_endAny {e it l : Addr} {i : Nat} {c : Int} {items : Array Value} {old : Value} {Q : Option Value → Shared → Prop} (hh : A.handled = none)
    (he : IsEnum s.heap e it c old) (hit : s.heap.IsListIter it l i) (hl : s.heap.IsList l items) (hx : items[i]? = none)
    (hQ : ∀ h', Heap.ExtBut it s.heap h' → Q none { s with heap := h' }) : wpAny (model prog w) A (pyNext (.ref e)) Q E s := by
  have hT : s.TypeIs (.ref e) "enumerate" := ⟨_, he, rfl⟩
  unfold pyNext
  refine wpAny_bind (wpAny_attempt (wpAny_callSpecial?_slot (name := Str.ofString "__next__") hT F.slot_enumerate_next
    (wpAny_call_entry F.slot_enumerate_next hT F.entry_enumerate_next ?_ (F.args_enumerate_next_1 _))))
  show wpAny _ _ (field (.ref e) 2 >>= _) _ _ _
  refine wpAny_bind (wpAny_field he rfl (x := .ref it) rfl ?_)
  refine wpAny_bind (wpAny_nextOf_list_end hh hit hl hx fun h' x he' hx' => ?_)
  obtain ⟨o, ho, hc⟩ := hx'
  refine wpAny_bind (wpAny_isInstance (T := "StopIteration") (b := true) ⟨o, ho, hc⟩ isSubtype_stop ?_)
  exact wpAny_pure (hQ _ he')
end
section
variable {X : Cx}
def IteK (K : PySem.W.Frag) (a : Addr) (k : Int) : It :=
  ⟨fun i H => ∃ (xs : List V) (x : V), SqL K H a xs ∧ xs[i]? = some x, fun i H v H' => ∃ T x, v = .ref T ∧ H T = none ∧ H' = upd H T (.tup [.int (k + (i : Nat)), x]) ∧ ∀ xs, SqL K H a xs → xs[i]? = some x, fun i H => ∃ xs : List V, SqL K H a xs ∧ xs.length ≤ i⟩
theorem turn_enumK {P : Program} {w : World} {K : PySem.W.Frag} {elts : List Expr} {kk : Nat} {tpos : Pos} {k : Int} (a e it : Addr) :
    Turn P w K (.Tuple elts kk tpos) (IteK K a k) [e, it] e (fun i h => (∃ old, IsEnum h e it (k + (i : Nat)) old) ∧ h.IsListIter it a i ∧ e ≠ it) where
  mem := by simp
  obj := fun i h st b hb => by
    obtain ⟨⟨old, he⟩, ⟨o, ho, hc, hd⟩, _⟩ := st
    have e' : b = e ∨ b = it := by simpa using hb
    rcases e' with z | z
    · rw [z]; exact ⟨_, he, fun v q => nomatch q⟩
    · rw [z]; exact ⟨o, ho, fun v q => by rw [hd] at q; cases q⟩
  keep := fun i h h' st kp => let ⟨⟨old, he⟩, hi, hne⟩ := st; ⟨⟨old, kp e (by simp) _ he⟩, hi.at fun o q => kp it (by simp) o q, hne⟩
  item := by
    intro X hP hw hK hc i pins s σ H E I hf st hg
    subst hP hw hK
    obtain ⟨⟨old, he⟩, hit, hne⟩ := st
    obtain ⟨xs, x, hq, hx⟩ := hg
    obtain ⟨its, rv, p, hz⟩ := I.list hq
    obtain ⟨u, hu, ru⟩ := rv.get hx
    have hel : e < s.heap.objs.size := Heap.lt_size he
    have hil : it < s.heap.objs.size := by obtain ⟨_, q, _⟩ := hit; exact Heap.lt_size q
    have hlt : i < its.toArray.size := by
      have e1 : i < its.length := (List.getElem?_eq_some_iff.mp hu).1
      simpa using e1
    have hnl : e ≠ a := by
      rintro rfl
      obtain ⟨o, ho, hc', _⟩ := p.isList
      have he' : s.heap.get? e = some _ := he
      rw [ho] at he'
      cases he'
      simp at hc'
    have hnl2 : a ≠ it := by
      rintro rfl
      obtain ⟨o, ho, hc', _⟩ := p.isList
      obtain ⟨o2, ho2, hc2, _⟩ := hit
      rw [ho] at ho2
      cases ho2
      rw [hc'] at hc2
      simp at hc2
    have hh : X.A.in1.handled = none := I.ok.hd hc
    refine wpAny_pyNext_enum_itemC (P := fun i v => its.toArray[i]? = some v) (St := fun i h => h.IsListIter it a i ∧ h.IsList a its.toArray) (Draws.list hh it a hnl2 its.toArray) he ⟨hit, p.isList⟩ hlt hne (by simp [hne, hnl]) fun x' h' tk hx' ho st' hT hsz hk => ?_
    have ex : x' = u := by
      have e1 : its[i]? = some x' := by simpa using hx'
      rw [hu] at e1
      exact (Option.some.inj e1).symm
    subst ex
    refine ⟨_, rfl, wpAny_letOwnedTupleGo_enum (s := { s with heap := h', toks := tk + 1 }) ho fun h'' he' sb => ?_⟩
    have hT2 : h''.get? s.heap.objs.size = some { cls := .type "tuple", data := .seq #[.int (k + (i : Nat)) tk, x'] } := (sb.2 _ (Nat.ne_of_gt hel)).trans hT
    have new : ObjOk X.prog X.w (upd H s.heap.objs.size (.tup [.int (k + (i : Nat)), x])) h'' s.heap.objs.size (.tup [.int (k + (i : Nat)), x]) :=
      ⟨by show 2 ≤ sizeLine; decide, [.int (k + (i : Nat)) tk, x'], .cons ⟨_, rfl⟩ (.cons ru .nil), ⟨_, hT2, rfl, _, rfl⟩⟩
    have I1 : Inv X pins σ (upd H s.heap.objs.size (.tup [.int (k + (i : Nat)), x])) { s with heap := h'', toks := tk + 1 } :=
      I.turnedNew (ch := [e, it]) (fun b ob hb q => (sb.2 b (fun z => hb (by simp [z]))).trans (hk b ob (fun z => hb (by simp [z])) (fun z => hb (by simp [z])) q)) hf (Nat.le_refl _) new
    refine ⟨.ref s.heap.objs.size, _, I1, rfl, ⟨_, x, rfl, I.hok.fresh (Nat.le_refl _), rfl, fun ys hy => by rw [I.list_inj hy hq]; exact hx⟩, ⟨⟨x', ?_⟩, st'.1.at fun o q => (sb.2 it (Ne.symm hne)).trans q, hne⟩, fun b hb => ?_⟩
    · have e1 : k + ((i + 1 : Nat) : Int) = k + (i : Nat) + 1 := by omega
      rw [e1]; exact he'
    · have hb' : b < s.heap.objs.size := by
        have e' : b = e ∨ b = it := by simpa using hb
        rcases e' with z | z
        · rw [z]; exact hel
        · rw [z]; exact hil
      rw [upd_ne (Nat.ne_of_lt hb')]
      exact (hf b hb).1
  done := by
    intro X hP hw hK hc i pins s σ H E I hf st hg
    subst hP hw hK
    obtain ⟨⟨old, he⟩, hit, hne⟩ := st
    obtain ⟨xs, hq, hx⟩ := hg
    obtain ⟨its, rv, p, hz⟩ := I.list hq
    obtain ⟨f0, f1, f2, f3, f4, f5⟩ := hf it (by simp)
    have hl := rv.length
    have hle : its.length ≤ i := by omega
    have hh : X.A.in1.handled = none := I.ok.hd hc
    have hnl2 : a ≠ it := by
      rintro rfl
      obtain ⟨o, ho, hc', _⟩ := p.isList
      obtain ⟨o2, ho2, hc2, _⟩ := hit
      rw [ho] at ho2
      cases ho2
      rw [hc'] at hc2
      simp at hc2
    exact enum_endAny hh he hit p.isList (by simp; omega) fun h' eb => ⟨rfl, I.turned (t' := s.toks) (fun b o hb q => eb b o hb q) f0 f1 f3 f4 f5⟩
  self := fun A i s Q E st h => let ⟨⟨_, he⟩, _⟩ := st; wpAny_pyIter_enum he h
theorem callWith_tyKw {M : Model} {A : Around} {E : Value → Shared → Prop} {s : Shared} {env : Env} {pos : Pos} {T : String} {e : Expr} {rest : List Expr} {kws : List Keyword} {Q : Value → Shared → Prop}
    (h : wpAny M A (spliced (backTo pos (starEach (e :: rest) env))) (fun vs s₁ => wpAny M A (evalAll ((backToKw pos (keywordEach kws env)).map (·.2)))
      (fun kvs s₂ => wpAny M A (call (.type T) vs (((backToKw pos (keywordEach kws env)).filterMap (·.1)).zip kvs)) Q E s₂) E s₁) E s)
    (he : backTo pos (starEach (e :: rest) env) = (false, eval e env) :: backTo pos (starEach rest env) := by rfl)
    (hplain : (backTo pos (starEach (e :: rest) env)).any (·.1) = false := by rfl)
    (hall : (backToKw pos (keywordEach kws env)).all (·.1.isSome) = true := by rfl)
    (hkw : (backToKw pos (keywordEach kws env)).any (·.1.isNone) = false := by rfl) :
    wpAny M A (callWith pos (.type T) [] (backTo pos (starEach (e :: rest) env)) (backToKw pos (keywordEach kws env))) Q E s := by
  have h2 : wpAny M A (evalArgs (.type T) true (backTo pos (starEach (e :: rest) env)) (backToKw pos (keywordEach kws env))) (fun a s₁ => wpAny M A (call (.type T) ([] ++ a.pos) a.kw) Q E s₁) E s := by
    rw [he] at h ⊢
    exact evalArgs_kwB hall h
  unfold callWith
  refine wpAny_bind (wpAny_holding (wpAny_mono h2 (fun a s₁ h₁ => wpAny_bind (wpAny_standAt ?_)) fun _ _ x => x))
  simp only [hplain, hkw, Bool.or_false]
  refine wpAny_bind (wpAny_pure ?_)
  exact wpAny_bind (wpAny_mono h₁ (fun r s₂ hr => wpAny_bind (wpAny_holding (wpAny_point (wpAny_pure hr)))) fun _ _ x => x)
def iEnumK (K : PySem.W.Frag) (ta tk : TA) : TI := fun σ H R => ta σ H fun vs H1 => tk σ H1 fun zs H2 => ∃ a xs k, vs = [.ref a] ∧ zs = [.int k] ∧ (-(2 ^ 63) ≤ k ∧ k < 2 ^ 63) ∧ SqL K H2 a xs ∧ R (IteK K a k) H2
theorem pi_enumK {e : Expr} {ta tk : TA} {p pos tpos kpos : Pos} {ke : Expr} {elts : List Expr} {kk : Nat} (hg : Gl X "enumerate") (hm : X.mg "enumerate" = none) (ha : PA X [e] ta) (hk : PK X [⟨some "start", ke, kpos⟩] tk)
    (he : backTo pos (starEach [e] X.env) = (false, eval e X.env) :: backTo pos (starEach [] X.env) := by rfl) (hpl : (backTo pos (starEach [e] X.env)).any (·.1) = false := by rfl) :
    PI X (.Tuple elts kk tpos) (.Call (.Name "enumerate" p) [e] [⟨some "start", ke, kpos⟩] pos) (iEnumK X.K ta tk) := by
  refine ⟨fun pins s σ H R I h => ?_⟩
  refine wpAny_Call_Name_kw (ld_blt I hg hm boot_enumerate (callWith_tyKw (thn (ha.run pos pins s σ H _ I h) fun us s1 ⟨vs, H1, I1, r1, q1⟩ => thn (hk.run pos pins s1 σ H1 _ I1 q1) fun ws s2 ⟨zs, H2, I2, r2, q2⟩ => ?_) he hpl))
  obtain ⟨a, xs, k, ex, ez, ⟨k1, k2⟩, hq, q⟩ := q2
  subst ex ez
  obtain ⟨u, rfl, ru⟩ := vals1 r1
  obtain ⟨u2, rfl, t, rfl⟩ := vals1 r2
  cases ru
  obtain ⟨its, rv, p', hz⟩ := I2.list hq
  show wpAny _ _ (call (.type "enumerate") [.ref a] [(Str.ofString "start", .int k t)]) _ _ _
  refine enum_begins_start (begins_list a its.toArray) p'.isList k1 k2 fun h' he' hit hsz hkp => wpAny_pyIter_enum he' ?_
  have I3 : Inv X pins σ H2 { s2 with heap := h' } := I2.kept (t' := s2.toks) hkp
  have e0 : k + ((0 : Nat) : Int) = k := by simp
  refine ⟨s2.heap.objs.size + 1, [s2.heap.objs.size + 1, s2.heap.objs.size], _, _, H2, rfl, I3, turn_enumK a (s2.heap.objs.size + 1) s2.heap.objs.size, ⟨⟨.none, by rw [e0]; exact he'⟩, ⟨_, hit, rfl, rfl⟩, Nat.succ_ne_self _⟩, fun b hb => ?_, q⟩
  have e' : b = s2.heap.objs.size + 1 ∨ b = s2.heap.objs.size := by simpa using hb
  have hle : s2.heap.objs.size ≤ b := by
    rcases e' with z | z
    · rw [z]; exact Nat.le_add_right _ _
    · rw [z]; exact Nat.le_refl _
  exact I2.fpOk hle (I2.hok.fresh hle)

theorem pget_list : PGet X (rIxL X.K) := by
  intro pins s σ H o i ov iv Q I ro ri h
  obtain ⟨p, xs, j, z, rfl, rfl, hq, he, q⟩ := h
  cases ro
  obtain ⟨t, rfl⟩ := ri
  obtain ⟨its, r, pl, hz⟩ := I.list hq
  obtain ⟨j', h1, h2, h3, h4, h5⟩ := atI_get he
  obtain ⟨w, ew, rw'⟩ := r.get h2
  have hl := r.length
  have hn := line63
  have fin : EP X pins σ Q w s := ⟨z, H, I, rw', q⟩
  by_cases h0 : 0 ≤ j
  · have hj : j.toNat = j' := by
      rw [seqIndex_of h0 h5] at h1
      exact Option.some.inj h1
    exact wpAny_getItem_list pl.isList h0 (by omega) (by rw [hj]; simpa using ew) fin
  · have hj : (j + (its.toArray.size : Int)).toNat = j' := by
      rw [seqIndex_neg (by omega) h4] at h1
      rw [List.size_toArray, ← hl]
      exact Option.some.inj h1
    exact wpAny_getItem_list_neg pl.isList (by omega) (by rw [List.size_toArray] <;> omega) (by omega) (by rw [hj]; simpa using ew) fin

def tListValues (te : TE) : TE := fun σ H Q => te σ H fun x H1 => ∃ (d : Addr) (kvs : List (Key × V)), x = .ref d ∧ Rd H1 d (.dK kvs) ∧ ∀ p, H1 p = none → Q (.ref p) (upd H1 p (.lst (kvs.map (·.2))))
theorem vals_at : ∀ {kvs : List (Key × V)} {vs : List (Key × Value)} {acc : List Value}, KV kvs vs → acc.length = vs.length → (∀ (j : Nat) (v : Value), acc[j]? = some v → ∃ k : Key, vs[j]? = some (k, v)) → Vals (kvs.map (·.2)) acc
  | [], _, acc, .nil, hl, _ => by
    cases acc with
    | nil => exact .nil
    | cons a r => cases hl
  | p :: r, q :: vs, acc, .cons h t, hl, hv => by
    cases acc with
    | nil => cases hl
    | cons a acc =>
      obtain ⟨k, e⟩ := hv 0 a rfl
      have e' : q = (k, a) := Option.some.inj e
      subst e'
      exact .cons h.2 (vals_at t (Nat.succ.inj hl) fun j v e => hv (j + 1) v e)
section
variable {e : Expr} {te : TE} {p pos apos cpos : Pos}
theorem pe_listValues (hc : X.calm = true) (hg : Gl X "list") (hm : X.mg "list" = none) (he : PE X e te) (hv : bootBuiltins "list" = some (.type "list") := by decide +kernel) (hbase : attributeBase e "values" X.env (eval e X.env) = eval e X.env := by rfl) (hline : (apos.endLine == cpos.line) = true := by rfl)
    (hs : starEach [.Call (.Attribute e "values" apos) [] [] cpos] X.env = (false, eval (.Call (.Attribute e "values" apos) [] [] cpos) X.env) :: starEach [] X.env := by rfl) :
    PE X (.Call (.Name "list" p) [.Call (.Attribute e "values" apos) [] [] cpos] [] pos) (tListValues te) := by
  refine ⟨fun pins s σ H Q I hq => ?_⟩
  refine wpAny_Call_Name_kw (ld_blt I hg hm hv ?_)
  refine PyProof.Rows.callWith_type1 ?_ hs rfl
  rw [hs]
  show wpAny _ _ (spliced ((false, eval (.Call (.Attribute e "values" apos) [] [] cpos) X.env) :: backTo pos (starEach [] X.env))) _ _ s
  refine Calls.spliced_cons ?_
  refine wpAny_Call_method (T := "dict") (id := "dict.values") hbase rfl hline F.plainAttrs_dict F.slot_dict_values F.type_dict_values (thn (he.run pins s σ H _ I hq) fun u s1 ⟨x, H1, I1, rx, d, kvs, ex, hd, q⟩ => ?_)
  subst ex
  obtain rfl : u = Value.ref d := rx
  obtain ⟨hz, hs0, vs, kv, hdo⟩ := dk_rd I1.hok hd
  obtain ⟨ep, hat⟩ := hdo.dictAt
  have lk : kvs.length = vs.length := Paired.length kv
  have I2 : Inv X pins σ H1 { s1 with heap := s1.heap.push { cls := .type "dict_values", data := .fields #[.ref d] } } := I1.kept (t' := s1.toks) fun b ob q => Heap.get?_push_of_some _ q
  refine ⟨hdo.typeIs, hdo.mapOf.noDict, ?_⟩
  show wpAny _ _ (callWith cpos (.builtin "dict.values") [.ref d] [] []) _ X.xe s1
  refine method_meetsIn F.slot_dict_values F.entry_dict_values rfl (PySem.evalArgs_none ⟨rfl, hdo.typeIs, F.args_dict_values_1 _, _, meets_dict_values (mixKind X.prog X.w) d hs0, ⟨vs, hdo⟩, ?_⟩)
  refine Calls.spliced_nil ?_
  refine PySem.W.kdl_call (PySem.W.kdl_values (prog := X.prog) (w := X.w) (knd := mixKind X.prog X.w) (r := s1.heap.objs.size) (d := d) (kvs := vs) (ep := ep)) (I1.ok.hd hc) ⟨⟨_, Heap.get?_push_size _ rfl, rfl, rfl⟩, hat.push _⟩ (by omega) fun h' tk acc c hk hS hacc => ?_
  have hvs : Vals (kvs.map (·.2)) acc.toList := vals_at kv (by rw [Array.length_toList]; exact hacc.1) fun j v e => hacc.2 j v (by rw [← Array.getElem?_toList]; exact e)
  refine ⟨.ref _, _, I2.laid (t' := tk) hk (Nat.le_refl _)
    (show ObjOk X.prog X.w _ _ _ (.lst (kvs.map (·.2))) from ⟨by rw [List.length_map]; exact hz, acc.toList, c, hvs, by rw [Array.toArray_toList]; exact hS⟩), rfl, q _ (I2.hok.fresh (Nat.le_refl _))⟩
end

def rUpdate : V → List V → Hp → VK → Prop := fun x vs H Q => ∃ (a b : Addr) (ks ls : List (Key × V)), x = .ref a ∧ vs = [.ref b] ∧ a ≠ b ∧ H a = some (.dK ks) ∧ H b = some (.dK ls) ∧ ks.length + ls.length ≤ sizeLine ∧ Q .non (upd H a (.dK (mergeK ks ls)))
theorem mt_update : MtR X "dict.update" rUpdate := by
  intro pins s σ H x vs v us Q I rx rv h
  obtain ⟨a, b, ks, ls, rfl, rfl, ne, ha, hb, hz, q⟩ := h
  obtain ⟨u, rfl, ru⟩ := vals1 rv
  cases rx
  cases ru
  obtain ⟨z1, lo1, ws1, kv1, d1⟩ := dk_of I.hok ha
  obtain ⟨z2, lo2, ws2, kv2, d2⟩ := dk_of I.hok hb
  have l1 : ks.length = ws1.length := Paired.length kv1
  have l2 : ls.length = ws2.length := Paired.length kv2
  refine call_meetsIn PySem.F.slot_dict_update d1.typeIs PySem.F.entry_dict_update (PySem.F.args_dict_update_2 _ _) (meets_dict_update (mixKind X.prog X.w) a b ne lo2)
    ⟨ws1, ws2, d1, d2, (by omega), fun h' hm _ hs => ?_⟩
  have he : ∃ o, h'.get? a = some o := let ⟨o, _, _, ho, _⟩ := hm; ⟨o, ho⟩
  have hl : (mergeK ks ls).length ≤ sizeLine := Nat.le_trans (length_mergeK ls ks) hz
  exact ⟨.non, _, d_write I (by rw [ha]; exact True.intro) hs he (dk_new hl lo1 (KV.merge kv2 kv1) hm), rfl, q⟩

def rStrInt : List V → Hp → VK → Prop := fun xs H Q => ∃ i, xs = [.int i] ∧ i.natAbs.log2 < 1920 ∧ Q (.str (toString i)) H
def rStrAny : List V → Hp → VK → Prop := fun xs H Q => (∃ i, xs = [.int i] ∧ i.natAbs.log2 < 1920 ∧ Q (.str (toString i)) H) ∨ ∃ a, xs = [.str a] ∧ Q (.str a) H
theorem call_str_any : CallR X (.type "str") rStrAny := CallR.or call_str_int SkE.call_str_str
end
end BL
set_option maxRecDepth 100000
namespace BL
open PySem PySem.Spec PyProof.Rows L2
/-- all but b stays -/
def Kp (b : Addr) (H H' : Hp) : Prop := ∀ a o, H a = some o → a ≠ b → H' a = some o
theorem Kp.refl (b : Addr) (H : Hp) : Kp b H H := fun _ _ h _ => h
theorem Kp.trans {b : Addr} {H H1 H2 : Hp} (h : Kp b H H1) (k : Kp b H1 H2) : Kp b H H2 := fun a o e n => k a o (h a o e n) n
theorem Kp.of {b : Addr} {H H1 : Hp} (h : L2.Same H H1) : Kp b H H1 := fun a o e _ => h a o e
theorem Kp.at {b a : Addr} {H H1 : Hp} {o : HO} (h : Kp b H H1) (e : H a = some o) (n : a ≠ b) : H1 a = some o := h a o e n
theorem Same.at {a : Addr} {H H1 : Hp} {o : HO} (h : L2.Same H H1) (e : H a = some o) : H1 a = some o := h a o e
theorem Kp.upd {b : Addr} {H : Hp} {o : HO} : Kp b H (upd H b o) := fun a u e n => (upd_ne n).trans e
theorem Kp.new {b p : Addr} {H : Hp} {o : HO} (n : H p = none) : Kp b H (L2.upd H p o) := fun a u e _ => (upd_ne (ne_of_none e n)).trans e
theorem Kp.free {b p : Addr} {H H1 : Hp} (h : Kp b H H1) (n : H1 p = none) (ne : p ≠ b) : H p = none := by
  cases q : H p with
  | none => rfl
  | some o => rw [h p o q ne] at n; cases n
theorem Same.new {p : Addr} {H : Hp} {o : HO} (n : H p = none) : L2.Same H (L2.upd H p o) := fun a u e => (upd_ne (ne_of_none e n)).trans e
theorem upd_free {H : Hp} {p a : Addr} {o : HO} (h : L2.upd H p o a = none) : H a = none := by
  by_cases e : a = p
  · subst e; rw [upd_same] at h; cases h
  · rw [upd_ne e] at h; exact h
theorem p18 : (0 : Int) ≤ 10 ^ Int.toNat 18 := by decide
/-- what a value's reading says is taken up once: P -/
theorem via {te : TE} {σ : L2.St} {H : Hp} {Q : VK} (P : V → Hp → Prop) (h : ∀ Q : VK, (∀ x H1, P x H1 → Q x H1) → te σ H Q) (hk : ∀ x H1, P x H1 → Q x H1) : te σ H Q := h Q hk
theorem viaT {tt : TT} {σ : L2.St} {H : Hp} {Q : Bool → Hp → Prop} (P : Bool → Hp → Prop) (h : ∀ Q : Bool → Hp → Prop, (∀ x H1, P x H1 → Q x H1) → tt σ H Q) (hk : ∀ x H1, P x H1 → Q x H1) : tt σ H Q := h Q hk
theorem iteD {p A B : Prop} [Decidable p] (h1 : p → A) (h2 : ¬ p → B) : if decide p = true then A else B := by
  by_cases h : p
  · rw [if_pos (decide_eq_true h)]; exact h1 h
  · rw [if_neg (by simp [h])]; exact h2 h
theorem iteDN {p A B : Prop} [Decidable p] (h1 : ¬ p → A) (h2 : p → B) : if (!decide p) = true then A else B := by
  by_cases h : p
  · rw [if_neg (by simp [h])]; exact h2 h
  · rw [if_pos (by simp [h])]; exact h1 h
theorem iteI {i j : Int} {A B : Prop} (h1 : i = j → A) (h2 : i ≠ j → B) : if decide (V.int i = V.int j) = true then A else B :=
  iteD (fun e => h1 (V.int.inj e)) fun n => h2 fun e => n (congrArg V.int e)
theorem iteIN {i j : Int} {A B : Prop} (h1 : i ≠ j → A) (h2 : i = j → B) : if (!decide (V.int i = V.int j)) = true then A else B :=
  iteDN (fun n => h1 fun e => n (congrArg V.int e)) fun e => h2 (V.int.inj e)
theorem iteS {i j : Str} {A B : Prop} (h1 : i = j → A) (h2 : i ≠ j → B) : if decide (V.str i = V.str j) = true then A else B :=
  iteD (fun e => h1 (V.str.inj e)) fun n => h2 fun e => n (congrArg V.str e)
theorem iteSN {i j : Str} {A B : Prop} (h1 : i ≠ j → A) (h2 : i = j → B) : if (!decide (V.str i = V.str j)) = true then A else B :=
  iteDN (fun n => h1 fun e => n (congrArg V.str e)) fun e => h2 (V.str.inj e)
theorem iteB {c : Bool} {A B : Prop} (h1 : c = true → A) (h2 : c = false → B) : if c = true then A else B := by
  cases c with
  | true => rw [if_pos rfl]; exact h1 rfl
  | false => rw [if_neg Bool.false_ne_true]; exact h2 rfl
/-- the bag of draws: cells, the next one's index, the rest of a great one, a mixed number, how many draws -/
def BagAt (H : Hp) (b c : Addr) : Prop := c ≠ b ∧ ∃ (cs : List Int) (i g m n : Int), H b = some (.lst [.ref c, .int i, .int g, .int m, .int n]) ∧ H c = some (.lst (cs.map .int)) ∧ 0 ≤ i ∧ 0 ≤ g ∧ 0 ≤ m ∧ m < 2147483647
theorem BagAt.strs {H : Hp} {b c a : Addr} {ns : List Str} (h : BagAt H b c) (e : H a = some (.lst (ns.map .str))) : a ≠ b := by
  obtain ⟨ncb, cs, i, g, m, n, h1, _⟩ := h
  rintro rfl
  rw [e] at h1
  cases ns with
  | nil => cases h1
  | cons x r => simp at h1
theorem BagAt.tup {H : Hp} {b c a : Addr} {xs : List V} (h : BagAt H b c) (e : H a = some (.tup xs)) : a ≠ b := by
  obtain ⟨ncb, cs, i, g, m, n, h1, _⟩ := h
  rintro rfl
  rw [e] at h1
  cases h1
theorem BagAt.kept {H H1 : Hp} {b c : Addr} (h : BagAt H b c) (k : L2.Same H H1) : BagAt H1 b c := by
  obtain ⟨ncb, cs, i, g, m, n, h1, h2, h3⟩ := h
  exact ⟨ncb, cs, i, g, m, n, k _ _ h1, k _ _ h2, h3⟩
/-- a new address is neither of the bag's -/
theorem BagAt.nb {H : Hp} {b c p : Addr} (h : BagAt H b c) (n : H p = none) : p ≠ b := by
  obtain ⟨ncb, cs, i, g, m, _, h1, _⟩ := h
  exact (ne_of_none h1 n).symm
theorem BagAt.nc {H : Hp} {b c p : Addr} (h : BagAt H b c) (n : H p = none) : p ≠ c := by
  obtain ⟨ncb, cs, i, g, m, _, _, h2, _⟩ := h
  exact (ne_of_none h2 n).symm
theorem BagAt.put {H : Hp} {b c p : Addr} {o : HO} (h : BagAt H b c) (n1 : p ≠ b) (n2 : p ≠ c) : BagAt (L2.upd H p o) b c := by
  obtain ⟨ncb, cs, i, g, m, n, h1, h2, h3⟩ := h
  exact ⟨ncb, cs, i, g, m, n, (upd_ne n1.symm).trans h1, (upd_ne n2.symm).trans h2, h3⟩
theorem BagAt.new {H : Hp} {b c p : Addr} {o : HO} (h : BagAt H b c) (n : H p = none) : BagAt (L2.upd H p o) b c := h.put (h.nb n) (h.nc n)
/-- a list is stored to that was new once: what stood ahead of it stays -/
theorem Kp.put {b p : Addr} {H H1 : Hp} {o : HO} (k : Kp b H H1) (n : H p = none) : Kp b H (L2.upd H1 p o) := fun a u e ne => (upd_ne (ne_of_none e n)).trans (k a u e ne)
end BL
set_option maxRecDepth 100000
namespace BL
open PySem PySem.Spec PyProof.Rows L2
theorem cut63 (ns : List Int) : cutV (ns.map V.int) none (some 63) = (ns.take 63).map V.int := by
  have e0 : HT.sIx (ns.map V.int).length 0 none = 0 := rfl
  have e1 : HT.sIx (ns.map V.int).length (ns.map V.int).length (some 63) = min 63 (ns.map V.int).length := HT.sIx_nat _ _ 63
  unfold cutV
  rw [e0, e1, List.drop_zero, List.map_take, Nat.sub_zero]
  by_cases h : (ns.map V.int).length ≤ 63
  · rw [Nat.min_eq_right h, List.take_of_length_le (Nat.le_refl _), List.take_of_length_le h]
  · rw [Nat.min_eq_left (by omega)]
theorem int_at {ns : List Int} {i : Nat} {x : V} (h : (ns.map V.int)[i]? = some x) : ∃ z, x = .int z := by
  rw [List.getElem?_map] at h
  cases e : ns[i]? with
  | none => rw [e] at h; cases h
  | some z => rw [e] at h; exact ⟨z, (Option.some.inj h).symm⟩
theorem atT_of {α : Type} {xs : List α} {z : Int} {j : Nat} {v : α} (e : z = (j : Int)) (h : xs[j]? = some v) : atI xs z = some v := by
  rw [e]
  exact atI_nat h
end BL
set_option maxRecDepth 100000
set_option maxHeartbeats 1000000
namespace BL
open PySem PySem.Spec PyProof.Rows L2 SX
def keptW : List Str := ["as", "apart", "bill", "bound", "cross", "deal", "depot", "done", "drive", "fall", "heap", "height", "ladder", "never", "none", "oneway", "place", "plan", "salt", "share", "shares", "storm", "street", "together", "town"]
def isLet (c : Nat) : Prop := 97 ≤ c ∧ c ≤ 122
def isDig (c : Nat) : Prop := 48 ≤ c ∧ c ≤ 57
instance (c : Nat) : Decidable (isLet c) := inferInstanceAs (Decidable (_ ∧ _))
instance (c : Nat) : Decidable (isDig c) := inferInstanceAs (Decidable (_ ∧ _))
/-- a name -/
def NameOk (z : Str) : Prop := ∃ (c : Nat) (r : List Nat), z = S (c :: r) ∧ isLet c ∧ r.length ≤ 7 ∧ (∀ d ∈ r, isLet d ∨ isDig d) ∧ z ∉ keptW
/-- a crossing's kind as a value: a price, never, place -/
def KindV (v : V) : Prop := (∃ n : Int, v = .int n ∧ 0 ≤ n ∧ n ≤ 40) ∨ v = .str "never" ∨ v = .str "place"
theorem lets_mem : ∀ c ∈ ("abcdefghijklmnopqrstuvwxyz" : Str).cps.toList, isLet c := by decide +kernel
theorem sgn_mem : ∀ c ∈ (("abcdefghijklmnopqrstuvwxyz" : Str) ++ ("0123456789" : Str)).cps.toList, isLet c ∨ isDig c := by decide +kernel
theorem kept_no0 : ∀ z ∈ keptW, ∀ d ∈ z.cps.toList, ¬ isDig d := by decide +kernel
theorem inV_str {z : Str} : ∀ {l : List Str}, inV (.str z) (l.map V.str) = decide (z ∈ l)
  | [] => rfl
  | y :: r => by
    have ih := inV_str (z := z) (l := r)
    unfold inV at ih ⊢
    rw [List.map_cons, List.any_cons, ih]
    show ((y == z) || decide (z ∈ r)) = decide (z ∈ y :: r)
    by_cases e : y = z
    · subst e; simp
    · have e2 : (y == z) = false := beq_eq_false_iff_ne.mpr e
      rw [e2, Bool.false_or]
      have : (z ∈ y :: r) ↔ z ∈ r := ⟨fun h => (List.mem_cons.mp h).resolve_left fun q => e q.symm, List.mem_cons_of_mem _⟩
      exact (decide_eq_decide.mpr this).symm
theorem inV_int {z : Int} : ∀ {l : List Int}, inV (.int z) (l.map V.int) = decide (z ∈ l)
  | [] => rfl
  | y :: r => by
    have ih := inV_int (z := z) (l := r)
    unfold inV at ih ⊢
    rw [List.map_cons, List.any_cons, ih]
    show ((y == z) || decide (z ∈ r)) = decide (z ∈ y :: r)
    by_cases e : y = z
    · subst e; simp
    · have e2 : (y == z) = false := beq_eq_false_iff_ne.mpr e
      rw [e2, Bool.false_or]
      have : (z ∈ y :: r) ↔ z ∈ r := ⟨fun h => (List.mem_cons.mp h).resolve_left fun q => e q.symm, List.mem_cons_of_mem _⟩
      exact (decide_eq_decide.mpr this).symm
theorem flat_strs (l : List Str) : (l.map V.str).all flatV = true := by
  rw [List.all_eq_true]
  intro v hv
  obtain ⟨z, _, rfl⟩ := List.mem_map.mp hv
  rfl
theorem flat_ints (l : List Int) : (l.map V.int).all flatV = true := by
  rw [List.all_eq_true]
  intro v hv
  obtain ⟨z, _, rfl⟩ := List.mem_map.mp hv
  rfl
theorem join_signs (cs : List Nat) : Txt.join (S []) (cs.map fun c => S [c]) = S cs := by
  have e : (cs.map fun c => S [c]) = (cs.map fun c => [c]).map S := by rw [List.map_map]; rfl
  rw [e, join_S]
  congr 1
  have go : ∀ cs : List Nat, TL.joinL [] (cs.map fun c => [c]) = cs := by
    intro cs
    induction cs with
    | nil => rfl
    | cons c r ih =>
      cases r with
      | nil => rfl
      | cons d r =>
        have : TL.joinL [] ((c :: d :: r).map fun c => [c]) = [c] ++ ([] ++ TL.joinL [] ((d :: r).map fun c => [c])) := rfl
        rw [this, ih]
        rfl
  exact go cs
/-- a name that was one of the words gets another end -/
theorem name_end {c : Nat} {r : List Nat} (hc : isLet c) (hr : ∀ d ∈ r, isLet d ∨ isDig d) (k : Nat) (hk : k ≤ 6) {t : List Nat} (ht : ∀ d ∈ t, isDig d) (hne : t ≠ []) (hlen : k + t.length ≤ 7) : NameOk (S (c :: (r.take k ++ t))) := by
  refine ⟨c, r.take k ++ t, rfl, hc, ?_, fun d hd => ?_, fun hm => ?_⟩
  · rw [List.length_append, List.length_take]; omega
  · rcases List.mem_append.mp hd with h | h
    · exact hr d (List.mem_of_mem_take h)
    · exact .inr (ht d h)
  · obtain ⟨d, t', rfl⟩ := List.exists_cons_of_ne_nil hne
    have h1 := kept_no0 _ hm d (by simp)
    exact h1 (ht d (by simp))
theorem ins_perm {xs ys : List V} {i : Nat} {x : V} (h : ys.Perm (xs.take i)) (hx : xs[i]? = some x) (r : Nat) : (ys.take r ++ [x] ++ ys.drop r).Perm (xs.take (i + 1)) := by
  have e : xs.take (i + 1) = xs.take i ++ [x] := by rw [List.take_add_one, hx]; rfl
  rw [e]
  refine List.Perm.trans ?_ (h.append_right [x])
  have h1 : (ys.take r ++ [x] ++ ys.drop r).Perm (ys.take r ++ (ys.drop r ++ [x])) := by
    rw [List.append_assoc]
    exact List.perm_append_comm.append_left _
  rw [← List.append_assoc, List.take_append_drop] at h1
  exact h1
theorem NameOk.len {z : Str} (h : NameOk z) : z.length ≤ 8 ∧ 1 ≤ z.length := by
  obtain ⟨c, r, rfl, _, hl, _⟩ := h
  rw [S_len]
  simp
  omega
end BL
namespace BL
open PySem PySem.Spec PyProof.Rows L2 SX
def nameB (l : List Nat) : Bool := match l with
  | [] => false
  | c :: r => decide (isLet c) && (decide (r.length ≤ 7) && (r.all fun d => decide (isLet d) || decide (isDig d))) && !decide (S (c :: r) ∈ keptW)
theorem nameB_ok {l : List Nat} : nameB l = true ↔ NameOk (S l) := by
  cases l with
  | nil =>
    refine ⟨fun h => (by cases h), fun ⟨c, r, e, _⟩ => ?_⟩
    have := S_inj e
    cases this
  | cons c r =>
    unfold nameB
    simp only [Bool.and_eq_true, decide_eq_true_eq, Bool.not_eq_true', decide_eq_false_iff_not, List.all_eq_true, Bool.or_eq_true]
    constructor
    · rintro ⟨⟨h1, h2, h3⟩, h4⟩
      exact ⟨c, r, rfl, h1, h2, h3, h4⟩
    · rintro ⟨c', r', e, h1, h2, h3, h4⟩
      have := S_inj e
      cases this
      exact ⟨⟨h1, h2, h3⟩, h4⟩
theorem menu_ok : ∀ z ∈ (["a", "b", "c", "s", "s2", "s10", "r", "t1", "places", "town1", "zz", "kk", "nevera"] : List Str), NameOk z := by
  have go : ∀ z ∈ (["a", "b", "c", "s", "s2", "s10", "r", "t1", "places", "town1", "zz", "kk", "nevera"] : List Str), nameB z.cps.toList = true := by
    decide +kernel
  intro z hz
  have h := nameB_ok.mp (go z hz)
  rw [S_tl] at h
  exact h
end BL
set_option maxRecDepth 100000
set_option maxHeartbeats 1000000
namespace BL
open PySem PySem.Spec PyProof.Rows L2 SX
theorem pigeon {α : Type} [DecidableEq α] : ∀ {L T : List α}, L.Nodup → T.length < L.length → ∃ x ∈ L, x ∉ T
  | [], T, _, h => absurd h (Nat.not_lt_zero _)
  | a :: L, T, hn, h => by
    obtain ⟨h1, h2⟩ := List.nodup_cons.mp hn
    by_cases e : a ∈ T
    · have hl := List.length_erase_of_mem e
      have hp : 0 < T.length := List.length_pos_of_mem e
      obtain ⟨x, hx, hx2⟩ := pigeon (L := L) (T := T.erase a) h2 (by rw [hl]; rw [List.length_cons] at h; omega)
      refine ⟨x, List.mem_cons_of_mem _ hx, fun hm => hx2 ?_⟩
      have ne : x ≠ a := fun q => h1 (q ▸ hx)
      exact (List.mem_erase_of_ne ne).mpr hm
    · exact ⟨a, List.mem_cons_self, e⟩
theorem small_log {i : Int} (h : i.natAbs < 1000000) : i.natAbs.log2 < 1920 := by
  by_cases e : i.natAbs = 0
  · rw [e]; decide
  · rw [Nat.log2_lt e]
    exact Nat.lt_of_lt_of_le h (by decide)
theorem num2 : ∀ n, n < 100 → 10 ≤ n → TL.numL n = [48 + n / 10, 48 + n % 10] := by decide +kernel
def candL (l : List Nat) (n : Nat) : List Nat := l.take 6 ++ TL.numL n
theorem cand_inj {l : List Nat} {n m : Nat} (hn : n < 100) (hn' : 10 ≤ n) (hm : m < 100) (hm' : 10 ≤ m) (h : candL l n = candL l m) : n = m := by
  unfold candL at h
  have e := List.append_cancel_left h
  rw [num2 n hn hn', num2 m hm hm'] at e
  simp at e
  omega
theorem cand_ok {l : List Nat} (h : NameOk (S l)) {n : Nat} (hn : n < 100) (hn' : 10 ≤ n) : NameOk (S (candL l n)) := by
  obtain ⟨c, r, e, hc, hl, hr, _⟩ := h
  have e := S_inj e
  subst e
  unfold candL
  rw [num2 n hn hn']
  exact name_end hc hr 5 (by decide) (t := [48 + n / 10, 48 + n % 10]) (fun d hd => by
    rcases List.mem_cons.mp hd with q | q
    · rw [q]; exact ⟨by omega, by omega⟩
    · rw [List.mem_singleton.mp q]; exact ⟨by omega, by omega⟩) (by simp) (by simp)
theorem nodup_mapI {α β : Type} {f : α → β} : ∀ {l : List α}, l.Nodup → (∀ a ∈ l, ∀ b ∈ l, f a = f b → a = b) → (l.map f).Nodup
  | [], _, _ => List.nodup_nil
  | a :: r, hn, h => by
    obtain ⟨h1, h2⟩ := List.nodup_cons.mp hn
    refine List.nodup_cons.mpr ⟨fun hm => ?_, nodup_mapI h2 fun x hx y hy => h x (List.mem_cons_of_mem _ hx) y (List.mem_cons_of_mem _ hy)⟩
    obtain ⟨x, hx, e⟩ := List.mem_map.mp hm
    have := h x (List.mem_cons_of_mem _ hx) a List.mem_cons_self e
    exact h1 (this ▸ hx)
/-- the candidates -/
def cands (l : List Nat) : List Str := S l :: (List.range 90).map fun i => S (candL l (10 + i))
theorem cands_ok {l : List Nat} (h : NameOk (S l)) : ∀ z ∈ cands l, NameOk z := by
  intro z hz
  rcases List.mem_cons.mp hz with q | q
  · rw [q]; exact h
  · obtain ⟨i, hi, rfl⟩ := List.mem_map.mp q
    have := List.mem_range.mp hi
    exact cand_ok h (by omega) (by omega)
theorem cands_free {l : List Nat} {T : List Str} (h : T.length < 90) : ∃ x ∈ cands l, x ∉ T := by
  obtain ⟨x, hx, hx2⟩ := pigeon (L := (List.range 90).map fun i => S (candL l (10 + i))) (T := T) (by
    refine nodup_mapI List.nodup_range fun a ha b hb e => ?_
    have ha := List.mem_range.mp ha
    have hb := List.mem_range.mp hb
    have := cand_inj (l := l) (n := 10 + a) (m := 10 + b) (by omega) (by omega) (by omega) (by omega) (S_inj e)
    omega) (by simpa using h)
  exact ⟨x, List.mem_cons_of_mem _ hx, hx2⟩
theorem take_filter {α : Type} {L : List α} {p : α → Bool} {i : Nat} {x : α} (h : L[i]? = some x) : (L.take (i + 1)).filter p = (L.take i).filter p ++ (if p x = true then [x] else []) := by
  rw [List.take_add_one, h, List.filter_append]
  congr 1
  cases e : p x <;> simp [e]
end BL
namespace BL
open PySem PySem.Spec PyProof.Rows L2 SX
theorem cut_from (ts rs : List Str) : cutV ((ts ++ rs).map V.str) (some (ts.length : Int)) none = rs.map V.str := by
  have e0 : HT.sIx ((ts ++ rs).map V.str).length 0 (some (ts.length : Int)) = min ts.length ((ts ++ rs).map V.str).length := HT.sIx_nat _ _ _
  have e1 : HT.sIx ((ts ++ rs).map V.str).length ((ts ++ rs).map V.str).length none = ((ts ++ rs).map V.str).length := rfl
  unfold cutV
  rw [e0, e1, List.length_map, List.length_append, Nat.min_eq_left (Nat.le_add_right _ _), List.map_append, List.drop_append_of_le_length (by simp), List.drop_of_length_le (by simp), List.nil_append, Nat.add_sub_cancel_left, List.take_of_length_le (by simp)]
end BL
set_option maxRecDepth 100000
set_option maxHeartbeats 1000000
namespace BL
open PySem PySem.Spec PyProof.Rows L2 SX
/-- the pairs of streets as they stand in the heap -/
def JoinsAt (H : Hp) (js : List (Addr × Nat × Nat)) : Prop := ∀ j ∈ js, H j.1 = some (.tup [.int (j.2.1 : Nat), .int (j.2.2 : Nat)])
/-- the rings as they stand in the heap -/
def RingsAt (b : Addr) (H : Hp) (rs : List (Addr × List Nat)) : Prop := ∀ r ∈ rs, r.1 ≠ b ∧ H r.1 = some (.lst (r.2.map fun x => V.int (x : Nat)))
def JTch (js : List (Addr × Nat × Nat)) (x : Nat) : Prop := ∃ j ∈ js, x = j.2.1 ∨ x = j.2.2
def JEnds (m : Nat) (js : List (Addr × Nat × Nat)) : Prop := ∀ j ∈ js, j.2.1 < m ∧ j.2.2 < m ∧ j.2.1 ≠ j.2.2
def REnds (m : Nat) (rs : List (Addr × List Nat)) : Prop := ∀ r ∈ rs, 2 ≤ r.2.length ∧ r.2.length ≤ 4 ∧ r.2.Nodup ∧ ∀ x ∈ r.2, x < m
structure ShapeOk (many : Nat) (js : List (Addr × Nat × Nat)) (rs : List (Addr × List Nat)) : Prop where
  lo : 2 ≤ many
  hi : many ≤ 24
  jn : js.length ≤ 36
  je : JEnds many js
  rn : rs.length ≤ 2
  re : REnds many rs
  tch : ∀ x, x < many → JTch js x ∨ ∃ r ∈ rs, x ∈ r.2
theorem set_fn {n i : Nat} {f : Nat → Int} {z : Int} : ((List.range n).map fun j => V.int (f j)).set i (.int z) = (List.range n).map fun j => V.int (if j = i then z else f j) := by
  apply List.ext_getElem
  · simp
  · intro m h1 h2
    rw [List.getElem_set]
    simp only [List.getElem_map, List.getElem_range]
    by_cases e : i = m
    · subst e; simp
    · rw [if_neg e, if_neg (Ne.symm e)]
theorem get_fn {n i : Nat} {f : Nat → Int} (hi : i < n) : ((List.range n).map fun j => V.int (f j))[i]? = some (.int (f i)) := by
  rw [List.getElem?_map, List.getElem?_range hi]
  rfl
theorem ne_of_ob {H : Hp} {a b : Addr} {o o' : HO} (h : H a = some o) (h' : H b = some o') (n : o ≠ o') : a ≠ b := by
  rintro rfl
  exact n (Option.some.inj (h.symm.trans h'))
/-- the lists of the shape as they stand -/
structure ShSt (H H1 : Hp) (b c pj pm pr : Addr) (m : Nat) (js : List (Addr × Nat × Nat)) (f : Nat → Int) (rs : List (Addr × List Nat)) : Prop where
  kp : Kp b H H1
  bag : BagAt H1 b c
  bj : pj ≠ b
  bm : pm ≠ b
  br : pr ≠ b
  cj : pj ≠ c
  cm : pm ≠ c
  cr : pr ≠ c
  nj : H pj = none
  nm : H pm = none
  nr : H pr = none
  jm : pj ≠ pm
  jr : pj ≠ pr
  mr : pm ≠ pr
  hj : H1 pj = some (.lst (js.map fun j => .ref j.1))
  hm : H1 pm = some (.lst ((List.range m).map fun j => V.int (f j)))
  hr : H1 pr = some (.lst (rs.map fun r => .ref r.1))
  ja : JoinsAt H1 js
  ra : RingsAt b H1 rs
  rr : ∀ r ∈ rs, r.1 ≠ pr
section
variable {H H1 H2 : Hp} {b c pj pm pr : Addr} {m : Nat} {js : List (Addr × Nat × Nat)} {f : Nat → Int} {rs : List (Addr × List Nat)}
theorem ShSt.step (h : ShSt H H1 b c pj pm pr m js f rs) (k : Kp b H1 H2) (g : BagAt H2 b c) : ShSt H H2 b c pj pm pr m js f rs where
  kp := h.kp.trans k
  bag := g
  bj := h.bj
  bm := h.bm
  br := h.br
  cj := h.cj
  cm := h.cm
  cr := h.cr
  nj := h.nj
  nm := h.nm
  nr := h.nr
  jm := h.jm
  jr := h.jr
  mr := h.mr
  hj := k _ _ h.hj h.bj
  hm := k _ _ h.hm h.bm
  hr := k _ _ h.hr h.br
  ja := fun j hj => k _ _ (h.ja j hj) (h.bag.tup (h.ja j hj))
  ra := fun r hr => ⟨(h.ra r hr).1, k _ _ (h.ra r hr).2 (h.ra r hr).1⟩
  rr := h.rr
theorem ShSt.new {p : Addr} {o : HO} (h : ShSt H H1 b c pj pm pr m js f rs) (n : H1 p = none) : ShSt H (L2.upd H1 p o) b c pj pm pr m js f rs := h.step (Kp.new n) (h.bag.new n)
theorem ShSt.join {q : Addr} {x y : Nat} (h : ShSt H H1 b c pj pm pr m js f []) (hq : H1 q = some (.tup [.int (x : Nat), .int (y : Nat)])) :
    ShSt H (L2.upd H1 pj (.lst ((js.map fun j => V.ref j.1) ++ [.ref q]))) b c pj pm pr m (js ++ [(q, x, y)]) f [] where
  kp := h.kp.put h.nj
  bag := h.bag.put h.bj h.cj
  bj := h.bj
  bm := h.bm
  br := h.br
  cj := h.cj
  cm := h.cm
  cr := h.cr
  nj := h.nj
  nm := h.nm
  nr := h.nr
  jm := h.jm
  jr := h.jr
  mr := h.mr
  hj := by rw [upd_same, List.map_append]; rfl
  hm := (upd_ne h.jm.symm).trans h.hm
  hr := (upd_ne h.jr.symm).trans h.hr
  ja := by
    intro j hj
    rcases List.mem_append.mp hj with e | e
    · exact (upd_ne (ne_of_ob (h.ja j e) h.hj (by simp))).trans (h.ja j e)
    · have e := List.mem_singleton.mp e
      subst e
      exact (upd_ne (ne_of_ob hq h.hj (by simp))).trans hq
  ra := fun r hr => absurd hr List.not_mem_nil
  rr := fun r hr => absurd hr List.not_mem_nil
theorem ShSt.mark {i : Nat} {z : Int} (h : ShSt H H1 b c pj pm pr m js f []) :
    ShSt H (L2.upd H1 pm (.lst ((List.range m).map fun j => V.int (if j = i then z else f j)))) b c pj pm pr m js (fun j => if j = i then z else f j) [] where
  kp := h.kp.put h.nm
  bag := h.bag.put h.bm h.cm
  bj := h.bj
  bm := h.bm
  br := h.br
  cj := h.cj
  cm := h.cm
  cr := h.cr
  nj := h.nj
  nm := h.nm
  nr := h.nr
  jm := h.jm
  jr := h.jr
  mr := h.mr
  hj := (upd_ne h.jm).trans h.hj
  hm := upd_same
  hr := (upd_ne h.mr.symm).trans h.hr
  ja := fun j hj => (upd_ne (ne_of_ob (h.ja j hj) h.hm (by simp))).trans (h.ja j hj)
  ra := fun r hr => absurd hr List.not_mem_nil
  rr := fun r hr => absurd hr List.not_mem_nil
theorem ShSt.ring {a : Addr} {l : List Nat} (h : ShSt H H1 b c pj pm pr m js f rs) (ha : H1 a = some (.lst (l.map fun x => V.int (x : Nat)))) (nb : a ≠ b) (n : a ≠ pr) :
    ShSt H (L2.upd H1 pr (.lst ((rs.map fun r => V.ref r.1) ++ [.ref a]))) b c pj pm pr m js f (rs ++ [(a, l)]) where
  kp := h.kp.put h.nr
  bag := h.bag.put h.br h.cr
  bj := h.bj
  bm := h.bm
  br := h.br
  cj := h.cj
  cm := h.cm
  cr := h.cr
  nj := h.nj
  nm := h.nm
  nr := h.nr
  jm := h.jm
  jr := h.jr
  mr := h.mr
  hj := (upd_ne h.jr).trans h.hj
  hm := (upd_ne h.mr).trans h.hm
  hr := by rw [upd_same, List.map_append]; rfl
  ja := fun j hj => (upd_ne (ne_of_ob (h.ja j hj) h.hr (by simp))).trans (h.ja j hj)
  ra := by
    intro r hr
    rcases List.mem_append.mp hr with e | e
    · exact ⟨(h.ra r e).1, (upd_ne (h.rr r e)).trans (h.ra r e).2⟩
    · have e := List.mem_singleton.mp e
      subst e
      exact ⟨nb, (upd_ne n).trans ha⟩
  rr := by
    intro r hr
    rcases List.mem_append.mp hr with e | e
    · exact h.rr r e
    · have e := List.mem_singleton.mp e
      subst e
      exact n
end
structure L1 (m g k : Nat) (js : List (Addr × Nat × Nat)) (f : Nat → Int) : Prop where
  je : JEnds m js
  ln : js.length + g = k
  t1 : ∀ x, g ≤ x → x < k → JTch js x
  t2 : ∀ x, x < g → x + g < k → JTch js x
  z : ∀ j, k ≤ j → f j = 0
  o : ∀ j, k ≤ j + g → f j ≤ 1
theorem JTch.app {js : List (Addr × Nat × Nat)} {x : Nat} {q : Addr × Nat × Nat} (h : JTch js x) : JTch (js ++ [q]) x := by
  obtain ⟨j, hj, e⟩ := h
  exact ⟨j, List.mem_append_left _ hj, e⟩
theorem JTch.l {js : List (Addr × Nat × Nat)} {q : Addr} {x y : Nat} : JTch (js ++ [(q, x, y)]) x := ⟨_, List.mem_append_right _ (List.mem_singleton.mpr rfl), .inl rfl⟩
theorem JTch.r {js : List (Addr × Nat × Nat)} {q : Addr} {x y : Nat} : JTch (js ++ [(q, x, y)]) y := ⟨_, List.mem_append_right _ (List.mem_singleton.mpr rfl), .inr rfl⟩
theorem JEnds.app {m : Nat} {js : List (Addr × Nat × Nat)} {q : Addr} {x y : Nat} (h : JEnds m js) (hx : x < m) (hy : y < m) (n : x ≠ y) : JEnds m (js ++ [(q, x, y)]) := by
  intro j hj
  rcases List.mem_append.mp hj with e | e
  · exact h j e
  · have e := List.mem_singleton.mp e
    subst e
    exact ⟨hx, hy, n⟩
theorem far_lt {k g t : Nat} (h1 : 1 ≤ g) (h3 : g ≤ 3) (ht : t < k / g) : k % g + t * g + g ≤ k := by
  match g, h1, h3 with
  | 1, _, _ => omega
  | 2, _, _ => omega
  | 3, _, _ => omega
theorem L1.add {m g k t : Nat} {js : List (Addr × Nat × Nat)} {f : Nat → Int} {q : Addr} {x y : Nat} (h : L1 m g k js f) (h1 : 1 ≤ g) (h3 : g ≤ 3) (hk : k < m) (gk : g ≤ k) (ht : t < k / g)
    (e : (x = k % g + t * g ∧ y = k) ∨ (x = k ∧ y = k % g + t * g)) : L1 m g (k + 1) (js ++ [(q, x, y)]) (fun j => if j = k then f k + 1 else if j = k % g + t * g then f (k % g + t * g) + 1 else f j) := by
  have hf := far_lt h1 h3 ht
  have tk : JTch (js ++ [(q, x, y)]) k := by
    rcases e with ⟨e1, e2⟩ | ⟨e1, e2⟩
    · rw [← e2]; exact .r
    · rw [← e1]; exact .l
  have tf : JTch (js ++ [(q, x, y)]) (k % g + t * g) := by
    rcases e with ⟨e1, e2⟩ | ⟨e1, e2⟩
    · rw [← e1]; exact .l
    · rw [← e2]; exact .r
  refine ⟨h.je.app (by omega) (by omega) (by omega), by rw [List.length_append]; have := h.ln; simp; omega, fun z gz zk => ?_, fun z zg zk => ?_, fun j hj => ?_, fun j hj => ?_⟩
  · by_cases ez : z = k
    · rw [ez]; exact tk
    · exact (h.t1 z gz (by omega)).app
  · by_cases ez : z + g = k
    · have : z = k % g + t * g := by
        match g, h1, h3 with
        | 1, _, _ => omega
        | 2, _, _ => omega
        | 3, _, _ => omega
      rw [this]; exact tf
    · exact (h.t2 z zg (by omega)).app
  · rw [if_neg (by omega), if_neg (by omega)]
    exact h.z j (by omega)
  · by_cases ej : j = k
    · rw [if_pos ej, h.z k (Nat.le_refl _)]; decide
    · rw [if_neg ej, if_neg (by omega)]
      exact h.o j (by omega)
theorem L1.all {m g : Nat} {js : List (Addr × Nat × Nat)} {f : Nat → Int} (h : L1 m g m js f) (h2 : 2 * g ≤ m) : ∀ x, x < m → JTch js x := by
  intro x hx
  by_cases e : g ≤ x
  · exact h.t1 x e hx
  · exact h.t2 x (by omega) (by omega)
instance (i j c : Int) (n : Nat) : Decidable (RgC i j c n) := inferInstanceAs (Decidable (_ ∧ _ ∧ _ ∧ _))
theorem rgC : ∀ k : Nat, k < 25 → ∀ g : Nat, g < 4 → 1 ≤ g → RgC ((k : Int) % (g : Int)) (k : Int) (g : Int) (k / g) := by decide +kernel
/-- the last candidate is free -/
theorem last_cand {k g : Nat} (h1 : 1 ≤ g) (h3 : g ≤ 3) (gk : g ≤ k) : 0 < k / g ∧ k % g + (k / g - 1) * g + g = k := by
  match g, h1, h3 with
  | 1, _, _ => omega
  | 2, _, _ => omega
  | 3, _, _ => omega
theorem perm_ints {ys : List V} {l : List Nat} (h : ys.Perm (l.map fun x => V.int (x : Nat))) : ∃ l' : List Nat, l'.Perm l ∧ ys = l'.map fun x => V.int (x : Nat) := by
  let g : V → Nat := fun v => match v with | .int i => i.toNat | _ => 0
  refine ⟨ys.map g, ?_, ?_⟩
  · have := h.map g
    rw [List.map_map] at this
    have e : (g ∘ fun x : Nat => V.int (x : Int)) = id := by funext x; rfl
    rw [e, List.map_id] at this
    exact this
  · rw [List.map_map]
    have : ∀ y ∈ ys, ((fun x : Nat => V.int (x : Int)) ∘ g) y = y := by
      intro y hy
      obtain ⟨x, _, rfl⟩ := List.mem_map.mp (h.mem_iff.mp hy)
      rfl
    exact ((List.map_congr_left (g := id) this).trans (List.map_id _)).symm
theorem cut_to {xs : List V} (t : Nat) : cutV xs none (some (t : Int)) = xs.take t := by
  have e0 : HT.sIx xs.length 0 none = 0 := rfl
  have e1 : HT.sIx xs.length xs.length (some (t : Int)) = min t xs.length := HT.sIx_nat _ _ _
  unfold cutV
  rw [e0, e1, List.drop_zero, Nat.sub_zero]
  by_cases h : xs.length ≤ t
  · rw [Nat.min_eq_right h, List.take_of_length_le (Nat.le_refl _), List.take_of_length_le h]
  · rw [Nat.min_eq_left (by omega)]
theorem ixN_nat {n j : Nat} (h : j < n) : ixN n (j : Int) = some j := by
  have h1 : (0 : Int) ≤ (j : Int) := Int.natCast_nonneg j
  have h2 : (j : Int) < (n : Int) := Int.ofNat_lt.mpr h
  unfold ixN
  rw [if_pos h1, if_pos h2]
  rfl
end BL
set_option maxRecDepth 100000
set_option maxHeartbeats 1000000
namespace BL
open PySem PySem.Spec PyProof.Rows L2 SX
/-- a road as it is drawn -/
structure Rd where
  name : Str
  a : Nat
  b : Nat
  f : Nat
  k : Nat
  l : Nat
  r : Nat
  two : Bool
def Rd.tup (r : Rd) : List V := [.str r.name, .int (r.a : Nat), .int (r.b : Nat), .int (r.f : Nat), .int (if r.two = true then ((r.k : Nat) : Int) else 0), .int (r.l : Nat), .int (r.r : Nat), .int (if r.two = true then 1 else 0)]
structure WorldOk (cs : List (Str × V)) (rs : List Rd) : Prop where
  lo : 2 ≤ cs.length
  hi : cs.length ≤ 24
  cn : ∀ c ∈ cs, NameOk c.1
  cd : (cs.map (·.1)).Nodup
  ck : ∀ c ∈ cs, KindV c.2
  rn : ∀ r ∈ rs, NameOk r.name
  rd : (rs.map (·.name)).Nodup
  re : ∀ r ∈ rs, r.a < cs.length ∧ r.b < cs.length ∧ r.a ≠ r.b
  rm : ∀ r ∈ rs, 1 ≤ r.f ∧ r.f ≤ 60 ∧ 1 ≤ r.k ∧ r.k ≤ 60 ∧ r.l ≤ 9 ∧ 1 ≤ r.r ∧ r.r ≤ 3
  st : (rs.filter (·.two)).length ≤ 36
  ow : (rs.filter (!·.two)).length ≤ 12
  pl : ∀ r ∈ rs, r.two = false → (cs[r.a]?).map (·.2) = some (.str "place") ∧ (cs[r.b]?).map (·.2) = some (.str "place")
  tch : ∀ x, x < cs.length → ∃ r ∈ rs, r.a = x ∨ r.b = x
  bal : ((rs.filter (!·.two)).map (·.a)).Perm ((rs.filter (!·.two)).map (·.b))
def rpairs (l : List Nat) : List (Nat × Nat × Bool) := (List.range l.length).map fun k => (l.getD ((k + l.length - 1) % l.length) 0, l.getD k 0, false)
def jrows (js : List (Addr × Nat × Nat)) : List (Nat × Nat × Bool) := js.map fun j => (j.2.1, j.2.2, true)
def rrows (rs : List (Addr × List Nat)) : List (Nat × Nat × Bool) := rs.flatMap fun r => rpairs r.2
structure RPairs (l : List Nat) (D : List (Nat × Nat × Bool)) : Prop where
  ln : D.length = l.length
  en : ∀ d ∈ D, d.1 ∈ l ∧ d.2.1 ∈ l ∧ d.1 ≠ d.2.1 ∧ d.2.2 = false
  bal : (D.map (·.1)).Perm (D.map (·.2.1))
  tch : ∀ x ∈ l, ∃ d ∈ D, d.1 = x
theorem rpairs_ok {l : List Nat} (h2 : 2 ≤ l.length) (h4 : l.length ≤ 4) (nd : l.Nodup) : RPairs l (rpairs l) := by
  match l, h2, h4, nd with
  | [a, b], _, _, nd =>
    have e : rpairs [a, b] = [(b, a, false), (a, b, false)] := by simp [rpairs, List.range, List.range.loop]
    rw [e]
    simp at nd
    refine ⟨rfl, ?_, ?_, ?_⟩
    · intro d hd
      simp at hd
      rcases hd with rfl | rfl <;> simp <;> omega
    · exact (List.perm_append_comm (l₁ := [b]) (l₂ := [a]))
    · intro x hx
      simp at hx ⊢
      omega
  | [a, b, c], _, _, nd =>
    have e : rpairs [a, b, c] = [(c, a, false), (a, b, false), (b, c, false)] := by simp [rpairs, List.range, List.range.loop]
    rw [e]
    simp at nd
    refine ⟨rfl, ?_, ?_, ?_⟩
    · intro d hd
      simp at hd
      rcases hd with rfl | rfl | rfl <;> simp <;> omega
    · exact (List.perm_append_comm (l₁ := [c]) (l₂ := [a, b]))
    · intro x hx
      simp at hx ⊢
      omega
  | [a, b, c, d], _, _, nd =>
    have e : rpairs [a, b, c, d] = [(d, a, false), (a, b, false), (b, c, false), (c, d, false)] := by simp [rpairs, List.range, List.range.loop]
    rw [e]
    simp at nd
    refine ⟨rfl, ?_, ?_, ?_⟩
    · intro d hd
      simp at hd
      rcases hd with rfl | rfl | rfl | rfl <;> simp <;> omega
    · exact (List.perm_append_comm (l₁ := [d]) (l₂ := [a, b, c]))
    · intro x hx
      simp at hx ⊢
      omega
structure RowsOk (m : Nat) (inn : List Nat) (D : List (Nat × Nat × Bool)) : Prop where
  en : ∀ d ∈ D, d.1 < m ∧ d.2.1 < m ∧ d.1 ≠ d.2.1
  st : (D.filter (·.2.2)).length ≤ 36
  ow : (D.filter (!·.2.2)).length ≤ 12
  tch : ∀ x, x < m → ∃ d ∈ D, d.1 = x ∨ d.2.1 = x
  bal : ((D.filter (!·.2.2)).map (·.1)).Perm ((D.filter (!·.2.2)).map (·.2.1))
  mem : ∀ d ∈ D, d.2.2 = false → d.1 ∈ inn ∧ d.2.1 ∈ inn
theorem RowsOk.perm {m : Nat} {inn : List Nat} {D D' : List (Nat × Nat × Bool)} (h : RowsOk m inn D) (p : D'.Perm D) : RowsOk m inn D' where
  en := fun d hd => h.en d (p.mem_iff.mp hd)
  st := by rw [(p.filter _).length_eq]; exact h.st
  ow := by rw [(p.filter _).length_eq]; exact h.ow
  tch := fun x hx => by
    obtain ⟨d, hd, e⟩ := h.tch x hx
    exact ⟨d, p.mem_iff.mpr hd, e⟩
  bal := (((p.filter _).map _).trans h.bal).trans ((p.filter _).map _).symm
  mem := fun d hd => h.mem d (p.mem_iff.mp hd)
theorem rrows_ok {m : Nat} : ∀ {rs : List (Addr × List Nat)}, REnds m rs → (rrows rs).length ≤ 4 * rs.length ∧ (∀ d ∈ rrows rs, d.1 ∈ rs.flatMap (·.2) ∧ d.2.1 ∈ rs.flatMap (·.2) ∧ d.1 < m ∧ d.2.1 < m ∧ d.1 ≠ d.2.1 ∧ d.2.2 = false) ∧ ((rrows rs).map (·.1)).Perm ((rrows rs).map (·.2.1)) ∧ ∀ r ∈ rs, ∀ x ∈ r.2, ∃ d ∈ rrows rs, d.1 = x
  | [], _ => ⟨Nat.le_refl _, nofun, .refl _, nofun⟩
  | r :: rs, h => by
    obtain ⟨i1, i2, i3, i4⟩ := rrows_ok (rs := rs) fun q hq => h q (List.mem_cons_of_mem _ hq)
    obtain ⟨a1, a2, a3, a4⟩ := h r List.mem_cons_self
    have R := rpairs_ok a1 a2 a3
    have e : rrows (r :: rs) = rpairs r.2 ++ rrows rs := List.flatMap_cons
    have e2 : (r :: rs).flatMap (·.2) = r.2 ++ rs.flatMap (·.2) := List.flatMap_cons
    rw [e, e2]
    refine ⟨by rw [List.length_append, R.ln, List.length_cons]; omega, ?_, ?_, ?_⟩
    · intro d hd
      rcases List.mem_append.mp hd with q | q
      · obtain ⟨b1, b2, b3, b4⟩ := R.en d q
        exact ⟨List.mem_append_left _ b1, List.mem_append_left _ b2, a4 _ b1, a4 _ b2, b3, b4⟩
      · obtain ⟨b1, b2, b3, b4, b5, b6⟩ := i2 d q
        exact ⟨List.mem_append_right _ b1, List.mem_append_right _ b2, b3, b4, b5, b6⟩
    · rw [List.map_append, List.map_append]
      exact R.bal.append i3
    · intro q hq x hx
      rcases List.mem_cons.mp hq with rfl | q1
      · obtain ⟨d, hd, e⟩ := R.tch x hx
        exact ⟨d, List.mem_append_left _ hd, e⟩
      · obtain ⟨d, hd, e⟩ := i4 q q1 x hx
        exact ⟨d, List.mem_append_right _ hd, e⟩
theorem filter_all {α : Type} {p : α → Bool} {l : List α} (h : ∀ x ∈ l, p x = true) : l.filter p = l := List.filter_eq_self.mpr h
theorem filter_none {α : Type} {p : α → Bool} {l : List α} (h : ∀ x ∈ l, p x = false) : l.filter p = [] := List.filter_eq_nil_iff.mpr fun x hx => by rw [h x hx]; decide
theorem rows_ok {m : Nat} {js : List (Addr × Nat × Nat)} {rs : List (Addr × List Nat)} (h : ShapeOk m js rs) : RowsOk m (rs.flatMap (·.2)) (jrows js ++ rrows rs) := by
  obtain ⟨i1, i2, i3, i4⟩ := rrows_ok h.re
  have hn := h.rn
  have jt : ∀ d ∈ jrows js, d.2.2 = true := by
    intro d hd
    obtain ⟨j, hj, rfl⟩ := List.mem_map.mp hd
    rfl
  have ft : (jrows js ++ rrows rs).filter (·.2.2) = jrows js := by
    rw [List.filter_append, filter_all jt, filter_none fun d hd => (i2 d hd).2.2.2.2.2, List.append_nil]
  have ff : (jrows js ++ rrows rs).filter (!·.2.2) = rrows rs := by
    rw [List.filter_append, filter_none (l := jrows js) (fun d hd => by rw [jt d hd]; rfl), filter_all (l := rrows rs) (fun d hd => by rw [(i2 d hd).2.2.2.2.2]; rfl), List.nil_append]
  refine ⟨?_, ?_, ?_, ?_, ?_, ?_⟩
  · intro d hd
    rcases List.mem_append.mp hd with q | q
    · obtain ⟨j, hj, rfl⟩ := List.mem_map.mp q
      exact h.je j hj
    · exact ⟨(i2 d q).2.2.1, (i2 d q).2.2.2.1, (i2 d q).2.2.2.2.1⟩
  · rw [ft]; unfold jrows; rw [List.length_map]; exact h.jn
  · rw [ff]; omega
  · intro x hx
    rcases h.tch x hx with ⟨j, hj, e⟩ | ⟨r, hr, e⟩
    · refine ⟨_, List.mem_append_left _ (List.mem_map.mpr ⟨j, hj, rfl⟩), ?_⟩
      rcases e with e | e
      · exact .inl e.symm
      · exact .inr e.symm
    · obtain ⟨d, hd, e⟩ := i4 r hr x e
      exact ⟨d, List.mem_append_right _ hd, .inl e⟩
  · rw [ff]; exact i3
  · intro d hd hf
    rcases List.mem_append.mp hd with q | q
    · rw [jt d q] at hf; cases hf
    · exact ⟨(i2 d q).1, (i2 d q).2.1⟩
structure SeatOk (m : Nat) (sl : List Nat) : Prop where
  ln : sl.length = m
  lt : ∀ x, x < m → sl.getD x 0 < m
  inj : ∀ x y, x < m → y < m → sl.getD x 0 = sl.getD y 0 → x = y
  sur : ∀ z, z < m → ∃ x, x < m ∧ sl.getD x 0 = z
theorem seat_ok {m : Nat} {sl : List Nat} (p : sl.Perm (List.range m)) : SeatOk m sl := by
  have ln : sl.length = m := by rw [p.length_eq, List.length_range]
  have nd : sl.Nodup := p.nodup_iff.mpr List.nodup_range
  have gd : ∀ x, (h : x < m) → sl.getD x 0 = sl[x]'(by omega) := fun x h => by rw [List.getD_eq_getElem?_getD, List.getElem?_eq_getElem (by omega)]; rfl
  refine ⟨ln, fun x hx => ?_, fun x y hx hy e => ?_, fun z hz => ?_⟩
  · rw [gd x hx]; exact List.mem_range.mp (p.mem_iff.mp (List.getElem_mem _))
  · rw [gd x hx, gd y hy] at e
    have pw := List.pairwise_iff_getElem.mp nd
    rcases Nat.lt_trichotomy x y with q | q | q
    · exact absurd e (pw x y (by omega) (by omega) q)
    · exact q
    · exact absurd e.symm (pw y x (by omega) (by omega) q)
  · obtain ⟨x, hx, e⟩ := List.mem_iff_getElem.mp (p.mem_iff.mpr (List.mem_range.mpr hz))
    exact ⟨x, by omega, by rw [gd x (by omega)]; exact e⟩
def seatD (sl : List Nat) (d : Nat × Nat × Bool) : Nat × Nat × Bool := (sl.getD d.1 0, sl.getD d.2.1 0, d.2.2)
theorem world_ok {m : Nat} {sl : List Nat} {inn : List Nat} {D : List (Nat × Nat × Bool)} {cs : List (Str × V)} {rs : List Rd} (h : RowsOk m inn D) (s : SeatOk m sl) (m2 : 2 ≤ m) (m24 : m ≤ 24)
    (cl : cs.length = m) (cn : ∀ c ∈ cs, NameOk c.1) (cd : (cs.map (·.1)).Nodup) (ck : ∀ c ∈ cs, KindV c.2)
    (cp : ∀ x ∈ inn, (cs[sl.getD x 0]?).map (·.2) = some (.str "place"))
    (rn : ∀ r ∈ rs, NameOk r.name) (rd : (rs.map (·.name)).Nodup) (e : rs.map (fun r => (r.a, r.b, r.two)) = D.map (seatD sl))
    (rm : ∀ r ∈ rs, 1 ≤ r.f ∧ r.f ≤ 60 ∧ 1 ≤ r.k ∧ r.k ≤ 60 ∧ r.l ≤ 9 ∧ 1 ≤ r.r ∧ r.r ≤ 3) : WorldOk cs rs := by
  have mem : ∀ r ∈ rs, ∃ d ∈ D, seatD sl d = (r.a, r.b, r.two) := by
    intro r hr
    have : (r.a, r.b, r.two) ∈ rs.map fun r => (r.a, r.b, r.two) := List.mem_map.mpr ⟨r, hr, rfl⟩
    rw [e] at this
    obtain ⟨d, hd, q⟩ := List.mem_map.mp this
    exact ⟨d, hd, q⟩
  have fl : ∀ (g : Bool → Bool), (rs.filter (fun r => g r.two)).map (fun r => (r.a, r.b, r.two)) = (D.filter (fun d => g d.2.2)).map (seatD sl) := by
    intro g
    have e1 : (rs.map fun r => (r.a, r.b, r.two)).filter (fun t => g t.2.2) = (D.map (seatD sl)).filter (fun t => g t.2.2) := by rw [e]
    rw [List.filter_map, List.filter_map] at e1
    exact e1
  have fa : ((rs.filter (!·.two)).map (·.a)) = ((D.filter (!·.2.2)).map (·.1)).map fun x => sl.getD x 0 := by
    have := congrArg (List.map (·.1)) (fl (fun b => !b))
    rw [List.map_map, List.map_map] at this
    rw [List.map_map]
    exact this
  have fb : ((rs.filter (!·.two)).map (·.b)) = ((D.filter (!·.2.2)).map (·.2.1)).map fun x => sl.getD x 0 := by
    have := congrArg (List.map (·.2.1)) (fl (fun b => !b))
    rw [List.map_map, List.map_map] at this
    rw [List.map_map]
    exact this
  refine ⟨by omega, by omega, cn, cd, ck, rn, rd, ?_, rm, ?_, ?_, ?_, ?_, ?_⟩
  · intro r hr
    obtain ⟨d, hd, q⟩ := mem r hr
    obtain ⟨h1, h2, h3⟩ := h.en d hd
    have q1 : sl.getD d.1 0 = r.a := congrArg (·.1) q
    have q2 : sl.getD d.2.1 0 = r.b := congrArg (·.2.1) q
    rw [← q1, ← q2, cl]
    exact ⟨s.lt _ h1, s.lt _ h2, fun e => h3 (s.inj _ _ h1 h2 e)⟩
  · have := congrArg List.length (fl (fun b => b))
    rw [List.length_map, List.length_map] at this
    rw [this]; exact h.st
  · have := congrArg List.length (fl (fun b => !b))
    rw [List.length_map, List.length_map] at this
    rw [this]; exact h.ow
  · intro r hr hf
    obtain ⟨d, hd, q⟩ := mem r hr
    have q1 : sl.getD d.1 0 = r.a := congrArg (·.1) q
    have q2 : sl.getD d.2.1 0 = r.b := congrArg (·.2.1) q
    have q3 : d.2.2 = r.two := congrArg (·.2.2) q
    obtain ⟨h1, h2⟩ := h.mem d hd (q3.trans hf)
    rw [← q1, ← q2]
    exact ⟨cp _ h1, cp _ h2⟩
  · intro z hz
    obtain ⟨x, hx, ex⟩ := s.sur z (by omega)
    obtain ⟨d, hd, q⟩ := h.tch x hx
    have : seatD sl d ∈ D.map (seatD sl) := List.mem_map.mpr ⟨d, hd, rfl⟩
    rw [← e] at this
    obtain ⟨r, hr, er⟩ := List.mem_map.mp this
    have q1 : r.a = sl.getD d.1 0 := congrArg (·.1) er
    have q2 : r.b = sl.getD d.2.1 0 := congrArg (·.2.1) er
    refine ⟨r, hr, ?_⟩
    rcases q with q | q
    · exact .inl (by rw [q1, q, ex])
    · exact .inr (by rw [q2, q, ex])
  · rw [fa, fb]
    exact h.bal.map _
/-- a permuted list of images -/
theorem perm_lift {α β : Type} {f : α → β} : ∀ {xs ys : List β}, xs.Perm ys → ∀ {l : List α}, ys = l.map f → ∃ l' : List α, l'.Perm l ∧ xs = l'.map f := by
  intro xs ys p
  induction p with
  | nil => intro l e; exact ⟨l, .refl _, e⟩
  | cons x _ ih =>
    intro l e
    cases l with
    | nil => cases e
    | cons a r =>
      injection e with e1 e2
      obtain ⟨l', p, q⟩ := ih e2
      exact ⟨a :: l', .cons _ p, by rw [q, e1]; rfl⟩
  | swap x y zs =>
    intro l e
    match l, e with
    | a :: b :: r, e =>
      injection e with e1 e2
      injection e2 with e2 e3
      exact ⟨b :: a :: r, .swap _ _ _, by rw [e1, e2, e3]; rfl⟩
  | trans _ _ ih1 ih2 =>
    intro l e
    obtain ⟨l1, p1, e1⟩ := ih2 e
    obtain ⟨l2, p2, e2⟩ := ih1 e1
    exact ⟨l2, p2.trans p1, e2⟩
def RowsAt (H : Hp) (rw : List (Addr × Nat × Nat × Bool)) : Prop := ∀ r ∈ rw, H r.1 = some (.tup [.int (r.2.1 : Nat), .int (r.2.2.1 : Nat), .int (if r.2.2.2 = true then 1 else 0)])
def CrossAt (H : Hp) (cs : List (Addr × Str × V)) : Prop := ∀ c ∈ cs, H c.1 = some (.tup [.str c.2.1, c.2.2])
def RoadsAt (H : Hp) (rs : List (Addr × Rd)) : Prop := ∀ r ∈ rs, H r.1 = some (.tup r.2.tup)
/-- all tuples stay -/
def KpT (H H1 : Hp) : Prop := ∀ a xs, H a = some (.tup xs) → H1 a = some (.tup xs)
theorem KpT.refl (H : Hp) : KpT H H := fun _ _ h => h
theorem KpT.trans {H H1 H2 : Hp} (h : KpT H H1) (k : KpT H1 H2) : KpT H H2 := fun a xs e => k a xs (h a xs e)
theorem KpT.kp {H H1 : Hp} {b c : Addr} (k : Kp b H H1) (g : BagAt H b c) : KpT H H1 := fun a xs e => k a _ e (g.tup e)
theorem KpT.same {H H1 : Hp} (k : L2.Same H H1) : KpT H H1 := fun a xs e => k a _ e
theorem KpT.new {H : Hp} {p : Addr} {o : HO} (n : H p = none) : KpT H (L2.upd H p o) := .same (Same.new n)
theorem KpT.put {H : Hp} {p : Addr} {o : HO} {ys : List V} (n : H p = some (.lst ys)) : KpT H (L2.upd H p o) := fun a xs e => (upd_ne (ne_of_ob e n (by simp))).trans e
theorem RowsAt.kept {H H1 : Hp} {rw} (h : RowsAt H rw) (k : KpT H H1) : RowsAt H1 rw := fun r hr => k _ _ (h r hr)
theorem CrossAt.kept {H H1 : Hp} {rw} (h : CrossAt H rw) (k : KpT H H1) : CrossAt H1 rw := fun r hr => k _ _ (h r hr)
theorem RoadsAt.kept {H H1 : Hp} {rw} (h : RoadsAt H rw) (k : KpT H H1) : RoadsAt H1 rw := fun r hr => k _ _ (h r hr)
theorem RowsAt.snoc {H : Hp} {rw} {p : Addr} {x y : Nat} {t : Bool} (h : RowsAt H rw) (e : H p = some (.tup [.int (x : Nat), .int (y : Nat), .int (if t = true then 1 else 0)])) : RowsAt H (rw ++ [(p, x, y, t)]) := by
  intro r hr
  rcases List.mem_append.mp hr with q | q
  · exact h r q
  · rw [List.mem_singleton.mp q]; exact e
theorem CrossAt.snoc {H : Hp} {rw} {p : Addr} {z : Str} {v : V} (h : CrossAt H rw) (e : H p = some (.tup [.str z, v])) : CrossAt H (rw ++ [(p, z, v)]) := by
  intro r hr
  rcases List.mem_append.mp hr with q | q
  · exact h r q
  · rw [List.mem_singleton.mp q]; exact e
theorem RoadsAt.snoc {H : Hp} {rw} {p : Addr} {r : Rd} (h : RoadsAt H rw) (e : H p = some (.tup r.tup)) : RoadsAt H (rw ++ [(p, r)]) := by
  intro r hr
  rcases List.mem_append.mp hr with q | q
  · exact h r q
  · rw [List.mem_singleton.mp q]; exact e
theorem RowsAt.app {H : Hp} {rw rw'} (h : RowsAt H rw) (h' : RowsAt H rw') : RowsAt H (rw ++ rw') := fun r hr => (List.mem_append.mp hr).elim (h r) (h' r)
/-- ring[k - 1] -/
theorem ring_prev {l : List Nat} {k : Nat} (h : k < l.length) : atI (l.map fun x => V.int (x : Nat)) ((0 + (k : Int)) - 1) = some (.int ((l.getD ((k + l.length - 1) % l.length) 0 : Nat) : Int)) := by
  have gd : ∀ x, x < l.length → (l.map fun x => V.int (x : Nat))[x]? = some (.int ((l.getD x 0 : Nat) : Int)) := fun x h => by
    rw [List.getElem?_map, List.getD_eq_getElem?_getD, List.getElem?_eq_getElem h]; rfl
  by_cases e : k = 0
  · subst e
    have e1 : (0 + l.length - 1) % l.length = l.length - 1 := by rw [Nat.zero_add]; exact Nat.mod_eq_of_lt (by omega)
    rw [e1]
    unfold atI ixN
    rw [if_neg (by omega), if_pos (by rw [List.length_map]; omega), List.length_map, show ((0 + ((0 : Nat) : Int) - 1) + (l.length : Int)).toNat = l.length - 1 by omega]
    exact gd _ (by omega)
  · have e1 : (k + l.length - 1) % l.length = k - 1 := by
      rw [show k + l.length - 1 = (k - 1) + l.length by omega, Nat.add_mod_right]
      exact Nat.mod_eq_of_lt (by omega)
    rw [e1]
    exact at_of (j := k - 1) (by omega) (gd _ (by omega))
theorem nat_at {l : List Nat} {x : Nat} (h : x < l.length) : (l.map fun x => V.int (x : Nat))[x]? = some (.int ((l.getD x 0 : Nat) : Int)) := by
  rw [List.getElem?_map, List.getD_eq_getElem?_getD, List.getElem?_eq_getElem h]; rfl
theorem rgV_nat (m : Nat) : rgV 0 (m : Int) = (List.range m).map fun x => V.int (x : Nat) := by
  unfold rgV
  rw [show ((m : Int) - 0).toNat = m by omega]
  refine List.map_congr_left fun x _ => ?_
  rw [Int.zero_add]
theorem at_map {α β : Type} {l : List α} {f : α → β} {i : Nat} {x : β} (h : (l.map f)[i]? = some x) : ∃ y, l[i]? = some y ∧ x = f y := by
  rw [List.getElem?_map] at h
  cases e : l[i]? with
  | none => rw [e] at h; cases h
  | some y => rw [e] at h; exact ⟨y, rfl, (Option.some.inj h).symm⟩
theorem Same.put {p : Addr} {H H1 : Hp} {o : HO} (k : L2.Same H H1) (n : H p = none) : L2.Same H (L2.upd H1 p o) := fun a u e => (upd_ne (ne_of_none e n)).trans (k a u e)
theorem take_snoc {α : Type} {l : List α} {i : Nat} {x : α} (h : l[i]? = some x) : l.take (i + 1) = l.take i ++ [x] := by
  rw [List.take_add_one, h]; rfl
theorem nodup_set {α : Type} {l : List α} {i : Nat} {x : α} (h : l.Nodup) (n : x ∉ l) : (l.set i x).Nodup := by
  induction l generalizing i with
  | nil => exact h
  | cons a r ih =>
    obtain ⟨h1, h2⟩ := List.nodup_cons.mp h
    cases i with
    | zero => exact List.nodup_cons.mpr ⟨fun q => n (List.mem_cons_of_mem _ q), h2⟩
    | succ i =>
      refine List.nodup_cons.mpr ⟨fun q => ?_, ih h2 fun q => n (List.mem_cons_of_mem _ q)⟩
      rcases List.mem_or_eq_of_mem_set q with q | q
      · exact h1 q
      · exact n (q ▸ List.mem_cons_self)
theorem jrows_len (js : List (Addr × Nat × Nat)) : (jrows js).length = js.length := List.length_map _
end BL
set_option maxRecDepth 100000
set_option maxHeartbeats 1000000
namespace BL
open PySem PySem.Spec PyProof.Rows L2 SX
def num (n : Nat) : Str := Str.ofString (toString ((n : Nat) : Int))
def kindT : V → Str
  | .int n => Str.ofString (toString n)
  | .str z => z
  | _ => ""
def nameAt (cs : List (Str × V)) (i : Nat) : Str := ((cs[i]?).map (·.1)).getD ""
def lineA (cs : List (Str × V)) (r : Rd) : List Str := [r.name, nameAt cs r.a, nameAt cs r.b, num r.f]
def lineB (cs : List (Str × V)) (r : Rd) : List Str := if r.two = true then (["street"] : List Str) ++ lineA cs r ++ [num r.k] else (["oneway"] : List Str) ++ lineA cs r
def lineW (cs : List (Str × V)) (r : Rd) : List Str := lineB cs r ++ [num r.l, num r.r]
def lineT (cs : List (Str × V)) (r : Rd) : Str := Txt.join " " (lineW cs r)
def crossT (c : Str × V) : Str := (("cross " : Str) ++ c.1 ++ (" " : Str)) ++ kindT c.2
def linesT (cs : List (Str × V)) (rs : List Rd) : List Str := (((["town"] : List Str) ++ cs.map crossT) ++ rs.map (lineT cs)) ++ (["done"] : List Str)
def textT (cs : List (Str × V)) (rs : List Rd) : Str := Txt.join "\n" (linesT cs rs ++ ([""] : List Str))
/-- the drawn town as it stands -/
structure WAt (H : Hp) (w pc pr : Addr) (cs : List (Addr × Str × V)) (rs : List (Addr × Rd)) : Prop where
  hw : H w = some (.lst [.ref pc, .ref pr])
  hc : H pc = some (.lst (cs.map fun x => .ref x.1))
  hr : H pr = some (.lst (rs.map fun x => .ref x.1))
  ca : CrossAt H cs
  ra : RoadsAt H rs
theorem WAt.kept {H H1 : Hp} {w pc pr : Addr} {cs : List (Addr × Str × V)} {rs : List (Addr × Rd)} (h : WAt H w pc pr cs rs) (k : L2.Same H H1) : WAt H1 w pc pr cs rs :=
  ⟨k _ _ h.hw, k _ _ h.hc, k _ _ h.hr, h.ca.kept (.same k), h.ra.kept (.same k)⟩
theorem num_len {n : Nat} (h : n < 100) : 1 ≤ (num n).length ∧ (num n).length ≤ 2 := by
  have : ∀ n, n < 100 → 1 ≤ (num n).length ∧ (num n).length ≤ 2 := by decide +kernel
  exact this n h
theorem joinL_len (a : List Nat) : ∀ ys : List (List Nat), (TL.joinL a ys).length ≤ (ys.map (·.length)).sum + ys.length * a.length
  | [] => Nat.zero_le _
  | [p] => by show p.length ≤ _; simp
  | p :: q :: r => by
    have ih := joinL_len a (q :: r)
    show (p ++ (a ++ TL.joinL a (q :: r))).length ≤ _
    rw [List.length_append, List.length_append, List.map_cons, List.sum_cons, List.length_cons, Nat.succ_mul]
    omega
theorem join_len (y : Str) (ys : List Str) : (Txt.join y ys).length ≤ (ys.map (·.length)).sum + ys.length * y.length := by
  have e1 : y = S y.cps.toList := (S_tl y).symm
  have e2 : ys = (ys.map fun z => z.cps.toList).map S := by
    rw [List.map_map]
    exact ((List.map_congr_left (g := id) fun z _ => S_tl z).trans (List.map_id _)).symm
  rw [e1, e2, join_S, S_len]
  have := joinL_len y.cps.toList (ys.map fun z => z.cps.toList)
  rw [List.length_map, List.map_map] at *
  have e3 : ((fun x : List Nat => x.length) ∘ fun z : Str => z.cps.toList) = fun z : Str => z.length := by
    funext z
    show z.cps.toList.length = z.cps.size
    rw [Array.length_toList]
  rw [e3] at this
  have e4 : (((fun x : Str => x.length) ∘ S) ∘ fun z : Str => z.cps.toList) = fun z : Str => z.length := by
    funext z
    show (S z.cps.toList).length = z.length
    rw [S_tl]
  rw [List.map_map, e4, S_len, show (ys.map fun z => z.cps.toList).length = ys.length from List.length_map _]
  exact this
theorem sum_le {ys : List Str} {B : Nat} (h : ∀ z ∈ ys, z.length ≤ B) : (ys.map (·.length)).sum ≤ ys.length * B := by
  induction ys with
  | nil => exact Nat.zero_le _
  | cons z r ih =>
    have h1 := h z List.mem_cons_self
    have h2 := ih fun x hx => h x (List.mem_cons_of_mem _ hx)
    rw [List.map_cons, List.sum_cons, List.length_cons, Nat.succ_mul]
    omega
theorem nameAt_eq {cs : List (Str × V)} {i : Nat} (h : i < cs.length) : nameAt cs i = (cs[i]'h).1 := by
  unfold nameAt
  rw [List.getElem?_eq_getElem h]
  rfl
theorem lineW_len (cs : List (Str × V)) (r : Rd) : (lineW cs r).length ≤ 8 := by
  unfold lineW lineB lineA
  split <;> simp
theorem kindT_len {v : V} (h : KindV v) : 1 ≤ (kindT v).length ∧ (kindT v).length ≤ 5 := by
  rcases h with ⟨n, rfl, h0, h1⟩ | rfl | rfl
  · have := num_len (n := n.toNat) (by omega)
    unfold num at this
    rw [show ((n.toNat : Nat) : Int) = n by omega] at this
    exact ⟨this.1, by have := this.2; show (Str.ofString (toString n)).length ≤ 5; omega⟩
  · decide
  · decide
theorem cat_len (a b : Str) : (a ++ b).length = a.length + b.length := by
  rw [← S_tl a, ← S_tl b, S_cat, S_len, S_len, S_len, List.length_append]
theorem crossT_len {c : Str × V} (h : NameOk c.1) (k : KindV c.2) : (crossT c).length ≤ 20 := by
  have h1 := h.len
  have h2 := kindT_len k
  have h3 : ("cross " : Str).length = 6 := by decide
  have h4 : (" " : Str).length = 1 := by decide
  unfold crossT
  rw [cat_len, cat_len, cat_len]
  omega
theorem len_two (l : List Rd) : l.length = (l.filter (·.two)).length + (l.filter (!·.two)).length := by
  induction l with
  | nil => rfl
  | cons r t ih => cases h : r.two <;> simp [List.filter_cons, h] <;> omega
/-- pieces[:-1], pieces[-1] -/
theorem cut_last (ls : List Str) (z : Str) : cutV ((ls ++ [z]).map V.str) none (some (-1)) = ls.map V.str := by
  have e0 : HT.sIx ((ls ++ [z]).map V.str).length 0 none = 0 := rfl
  have e1 : HT.sIx ((ls ++ [z]).map V.str).length ((ls ++ [z]).map V.str).length (some (-1)) = ls.length := by
    unfold HT.sIx
    rw [List.length_map, List.length_append, List.length_singleton]
    simp
    omega
  unfold cutV
  rw [e0, e1, List.drop_zero, Nat.sub_zero, List.map_append, List.take_append_of_le_length (by simp)]
  rw [List.take_of_length_le (by simp)]
theorem at_last (ls : List Str) (z : Str) : atI ((ls ++ [z]).map V.str) (-1) = some (.str z) := by
  unfold atI ixN
  rw [if_neg (by decide), if_pos (by rw [List.length_map, List.length_append, List.length_singleton]; omega), List.length_map, List.length_append, List.length_singleton, show ((-1 : Int) + ((ls.length + 1 : Nat) : Int)).toNat = ls.length by omega]
  show ((ls ++ [z]).map V.str)[ls.length]? = _
  rw [List.map_append, List.getElem?_append_right (by simp)]
  simp
abbrev rInC : R2 := fun x y H Q => ∃ (c : Nat) (z : Str), x = .str ⟨#[c]⟩ ∧ y = .str z ∧ Q (.bl (decide (c ∈ z.cps.toList))) H
abbrev rNotInC : R2 := fun x y H Q => ∃ (c : Nat) (z : Str), x = .str ⟨#[c]⟩ ∧ y = .str z ∧ Q (.bl (!decide (c ∈ z.cps.toList))) H
/-- what a number's text is -/
theorem num_facts : ∀ n, n < 100 → num n ≠ "" ∧ (∀ c ∈ (num n).cps.toList, c ∈ ("0123456789" : Str).cps.toList) ∧ intText? (num n) = some (n : Int) ∧ ¬ ((num n).cps.toList[0]? = some 48 ∧ 1 < (num n).length) := by decide +kernel
theorem let_in : ∀ c, isLet c → c ∈ ("abcdefghijklmnopqrstuvwxyz" : Str).cps.toList := by
  intro c h
  have : ∀ c, c < 123 → 97 ≤ c → c ∈ ("abcdefghijklmnopqrstuvwxyz" : Str).cps.toList := by decide +kernel
  exact this c (by have := h.2; omega) h.1
theorem dig_in : ∀ c, isDig c → c ∈ ("0123456789" : Str).cps.toList := by
  intro c h
  have : ∀ c, c < 58 → 48 ≤ c → c ∈ ("0123456789" : Str).cps.toList := by decide +kernel
  exact this c (by have := h.2; omega) h.1
theorem rep_any (n : Nat) : ((List.replicate n false).any id) = false := by
  induction n with
  | zero => rfl
  | succ n ih => rw [List.replicate_succ, List.any_cons, ih]; rfl
theorem rep_all (n : Nat) : ((List.replicate n true).all id) = true := by
  induction n with
  | zero => rfl
  | succ n ih => rw [List.replicate_succ, List.all_cons, ih]; rfl
/-- a comprehension over a text's signs that gives the same every time -/
theorem rep_snoc {α : Type} (n : Nat) (x : α) : List.replicate n x ++ [x] = List.replicate (n + 1) x := List.replicate_succ'.symm
end BL
set_option maxRecDepth 100000
set_option maxHeartbeats 1000000
namespace BL
open PySem PySem.Spec PyProof.Rows L2 SX He
def kvOf (l : List (Str × V)) : List (Key × V) := l.map fun c => (.inr c.1, c.2)
theorem kvOf_len (l : List (Str × V)) : (kvOf l).length = l.length := List.length_map _
theorem val_none {z : Str} : ∀ {l : List (Str × V)}, z ∉ l.map (·.1) → valV (kvOf l) (.inr z) = none
  | [], _ => rfl
  | c :: r, h => by
    have h1 : ¬ (Sum.inr c.1 : Key) = .inr z := fun e => h (by rw [List.map_cons]; exact List.mem_cons.mpr (.inl (Sum.inr.inj e).symm))
    show valV ((.inr c.1, c.2) :: kvOf r) (.inr z) = none
    rw [valV_neg h1]
    exact val_none fun q => h (by rw [List.map_cons]; exact List.mem_cons_of_mem _ q)
theorem val_some {l : List (Str × V)} {c : Str × V} (h : c ∈ l) (nd : (l.map (·.1)).Nodup) : valV (kvOf l) (.inr c.1) = some c.2 := by
  induction l with
  | nil => cases h
  | cons d r ih =>
    rw [List.map_cons] at nd
    obtain ⟨n1, n2⟩ := List.nodup_cons.mp nd
    show valV ((.inr d.1, d.2) :: kvOf r) (.inr c.1) = some c.2
    rcases List.mem_cons.mp h with q | q
    · subst q; exact valV_pos rfl
    · rw [valV_neg (fun e => n1 (by
        have e : d.1 = c.1 := Sum.inr.inj e
        rw [e]
        exact List.mem_map.mpr ⟨c, q, rfl⟩))]
      exact ih q n2
theorem val_isSome {z : Str} {l : List (Str × V)} : (valV (kvOf l) (.inr z)).isSome = decide (z ∈ l.map (·.1)) := by
  induction l with
  | nil => rfl
  | cons d r ih =>
    show (valV ((.inr d.1, d.2) :: kvOf r) (.inr z)).isSome = _
    by_cases e : d.1 = z
    · rw [valV_pos (show (Sum.inr d.1 : Key) = .inr z by rw [e])]
      simp [e]
    · rw [valV_neg (fun q => e (Sum.inr.inj q)), ih]
      have : z ≠ d.1 := fun q => e q.symm
      simp [this]
theorem put_new {z : Str} {v : V} {l : List (Str × V)} (h : z ∉ l.map (·.1)) : putK (kvOf l) (.inr z) v = kvOf (l ++ [(z, v)]) := by
  have hn := val_none (l := l) h
  unfold putK
  rw [if_neg (by rw [valV_any, hn]; decide)]
  unfold kvOf
  rw [List.map_append]
  rfl
theorem put_fn {α : Type} {nm : α → Str} {g : Str → V} {z : Str} {v : V} {l : List α} (h : z ∈ l.map nm) :
    putK (kvOf (l.map fun c => (nm c, g (nm c)))) (.inr z) v = kvOf (l.map fun c => (nm c, if nm c = z then v else g (nm c))) := by
  have hs : ((kvOf (l.map fun c => (nm c, g (nm c)))).any fun kv => decide (kv.1 = .inr z)) = true := by
    rw [valV_any, val_isSome]
    refine decide_eq_true ?_
    rw [List.map_map]
    exact h
  unfold putK
  rw [if_pos hs]
  unfold kvOf
  rw [List.map_map, List.map_map, List.map_map]
  refine List.map_congr_left fun c _ => ?_
  show (if (Sum.inr (nm c) : Key) = .inr z then (Sum.inr (nm c), v) else (Sum.inr (nm c), g (nm c))) = (Sum.inr (nm c), if nm c = z then v else g (nm c))
  by_cases e : nm c = z
  · rw [if_pos (by rw [e]), if_pos e]
  · rw [if_neg (fun q => e (Sum.inr.inj q)), if_neg e]
theorem val_fn {α : Type} {nm : α → Str} {g : Str → V} {z : Str} {l : List α} (h : z ∈ l.map nm) : valV (kvOf (l.map fun c => (nm c, g (nm c)))) (.inr z) = some (g z) := by
  induction l with
  | nil => cases h
  | cons d r ih =>
    show valV ((.inr (nm d), g (nm d)) :: kvOf _) (.inr z) = _
    by_cases e : nm d = z
    · subst e; exact valV_pos rfl
    · rw [valV_neg (fun q => e (Sum.inr.inj q))]
      exact ih ((List.mem_cons.mp h).resolve_left fun q => e q.symm)
structure RdO where
  ra : Addr
  dx : Addr
  rt : Addr
def times (r : Rd) : List Nat := if r.two = true then [r.f, r.k] else [r.f]
def RoadAt (K : PySem.W.Frag) (H : Hp) (cs : List (Str × V)) (o : RdO × Rd) : Prop :=
  H o.1.ra = some (.ins (ga K "Road") o.1.dx [("start", .str (nameAt cs o.2.a)), ("goal", .str (nameAt cs o.2.b)), ("times", .ref o.1.rt), ("load", .int (o.2.l : Nat)), ("weight", .int (o.2.r : Nat))]) ∧
  H o.1.rt = some (.lst ((times o.2).map fun n => .int (n : Nat)))
def rkv (ros : List (RdO × Rd)) : List (Str × V) := ros.map fun o => (o.2.name, .ref o.1.ra)
/-- the reader as it stands -/
structure RdrAt (K : PySem.W.Frag) (H : Hp) (rd dx kd rdd : Addr) (ks : List (Str × V)) (ros : List (RdO × Rd)) (e : Bool) : Prop where
  hi : H rd = some (.ins (ga K "TownReader") dx [("kinds", .ref kd), ("roads", .ref rdd), ("ended", .bl e)])
  hk : H kd = some (.dK (kvOf ks))
  hr : H rdd = some (.dK (kvOf (rkv ros)))
  ho : ∀ o ∈ ros, RoadAt K H ks o
  ne : kd ≠ rdd
/-- all but the reader's own stays -/
def Kp3 (rd kd rdd : Addr) (H H' : Hp) : Prop := ∀ a o, H a = some o → a ≠ rd → a ≠ kd → a ≠ rdd → H' a = some o
theorem Kp3.refl (rd kd rdd : Addr) (H : Hp) : Kp3 rd kd rdd H H := fun _ _ h _ _ _ => h
theorem Kp3.of {rd kd rdd : Addr} {H H1 : Hp} (s : L2.Same H H1) : Kp3 rd kd rdd H H1 := fun a o h _ _ _ => s a o h
theorem Kp3.trans {rd kd rdd : Addr} {H H1 H2 : Hp} (h : Kp3 rd kd rdd H H1) (k : Kp3 rd kd rdd H1 H2) : Kp3 rd kd rdd H H2 := fun a o e n1 n2 n3 => k a o (h a o e n1 n2 n3) n1 n2 n3
theorem Kp3.u1 {rd kd rdd : Addr} {H : Hp} {o : HO} : Kp3 rd kd rdd H (L2.upd H rd o) := fun a u e n1 _ _ => (upd_ne n1).trans e
theorem Kp3.u2 {rd kd rdd : Addr} {H : Hp} {o : HO} : Kp3 rd kd rdd H (L2.upd H kd o) := fun a u e _ n2 _ => (upd_ne n2).trans e
theorem Kp3.u3 {rd kd rdd : Addr} {H : Hp} {o : HO} : Kp3 rd kd rdd H (L2.upd H rdd o) := fun a u e _ _ n3 => (upd_ne n3).trans e
theorem RoadAt.kept {K : PySem.W.Frag} {H H1 : Hp} {cs : List (Str × V)} {o : RdO × Rd} (h : RoadAt K H cs o) (s : L2.Same H H1) : RoadAt K H1 cs o := ⟨s _ _ h.1, s _ _ h.2⟩
theorem RdrAt.kept {K : PySem.W.Frag} {H H1 : Hp} {rd dx kd rdd : Addr} {ks : List (Str × V)} {ros : List (RdO × Rd)} {e : Bool} (h : RdrAt K H rd dx kd rdd ks ros e) (s : L2.Same H H1) : RdrAt K H1 rd dx kd rdd ks ros e :=
  ⟨s _ _ h.hi, s _ _ h.hk, s _ _ h.hr, fun o ho => (h.ho o ho).kept s, h.ne⟩
end BL
set_option maxRecDepth 100000
set_option maxHeartbeats 1000000
namespace BL
open PySem PySem.Spec PyProof.Rows L2
section
variable {X : Cx}
/-- y = {k: v for ..} on one line -/
theorem ps_setDc {i : Nat} {y : Str} {py : Pos} {kx vx tg iter : Expr} {ifs : List Expr} {scope : Scope} {own : List (Str × Nat)} {pos spos : Pos} {wi : TI} {g : TG} {tt : TT} {tk tv : TE}
    (hc : X.calm = true) (nd : X.N.Nodup) (ny : X.N[i]? = some y) (ly : X.env.scope.names.lookup y = some .local)
    (sw : swapsWith (.DictComp kx vx [⟨tg, iter, ifs, 0⟩] scope pos) (some (.Name y py)) spos.line X.env = pure true) (pi : PI X tg iter wi) (bk : BlkOk X.N X.env.scope scope own)
    (pg : ∀ (s : Shared) (H : Hp) (C : Addr) (cl : List (Str × Addr)) (fp : List Addr), PG (X.blk s H scope (compEnvC scope cl C X.env) fp) tg g)
    (pt : ∀ (s : Shared) (H : Hp) (C : Addr) (cl : List (Str × Addr)) (fp : List Addr), PTs (X.blk s H scope (compEnvC scope cl C X.env) fp) ifs tt)
    (pk : ∀ (s : Shared) (H : Hp) (C : Addr) (cl : List (Str × Addr)) (fp : List Addr), PE (X.blk s H scope (compEnvC scope cl C X.env) fp) kx tk)
    (pv : ∀ (s : Shared) (H : Hp) (C : Addr) (cl : List (Str × Addr)) (fp : List Addr), PE (X.blk s H scope (compEnvC scope cl C X.env) fp) vx tv)
    (hf : ∀ x, foldedSetIterable iter X.env x = pure x := by intro _; rfl) :
    PS X (.Assign [.Name y py] (.DictComp kx vx [⟨tg, iter, ifs, 0⟩] scope pos) spos) (tAsg (tDc wi g tt tk tv (own.map (·.2))) (gName i)) := by
  constructor
  intro pins s σ H D I hw
  have hw : tDc wi g tt tk tv (own.map (·.2)) σ H (fun x H1 => gName i x σ H1 D.nx) := hw
  rw [exec_Assign_Name_used _ _ _ _ sw]
  refine wpAny_bind (wpAny_standAt (wpAny_bind ?_))
  show wpAny _ X.A (do let _ ← comprehension (.DictComp kx vx [⟨tg, iter, ifs, 0⟩] scope pos) scope X.env (firstIterPos [⟨tg, iter, ifs, 0⟩] pos) newDict false (eval iter X.env) (some (assign (.Name y py) X.env))) _ _ s
  have core := dc_core (pos := pos) (pos' := firstIterPos [⟨tg, iter, ifs, 0⟩] pos) (use := some (assign (.Name y py) X.env)) (Qf := fun _ s' => SP X pins D .next s') hc nd I pi bk pg pt pk pv hf hw
  refine wpAny_bind (thn (core ?_) fun _ s' z => wpAny_pure (wpAny_pure z))
  intro L C s' m H' I' q hn fo
  show wpAny _ _ (assign (.Name y py) X.env (.ref L)) _ _ _
  refine wpAny_assign_Name (store_ok2 (v := V.ref L) I' nd ny (.inl ly) rfl ?_ (.inr ly))
  rintro s2 I2 ⟨a, same, ha⟩
  obtain ⟨c0, c1, c2, c3, c4, c5⟩ := fo
  have other : C ≠ a := ha.elim (fun z => by rw [z]; exact c1) fun z e => c4 y a z e.symm
  exact ⟨m, hn.sameBut same other, fun h3 sb3 => ⟨_, H', I2.turned (t' := s2.toks) (fun b o hb e => (sb3.2 b hb).trans e) c0 c1 c3 c4 c5, q⟩⟩
theorem sw_trueD {kx vx : Expr} {gs : List Comprehension} {scope : Scope} {pos py : Pos} {y : Str} {l : Nat} {env : Env} (fk : env.scope.kind = .function) (ly : env.scope.names.lookup y = some .local) (el : (py.line == pos.line) = true)
    (na : (scope.names.any fun (n, k) => n == y && (k == .local || k == .cell)) = false) : swapsWith (.DictComp kx vx gs scope pos) (some (.Name y py)) l env = pure true := by
  have k1 : env.blockKind = .function := by
    unfold Env.blockKind
    rw [fk]
    rfl
  have k2 : env.kindOf y = some .local := ly
  unfold swapsWith
  simp only [k1, k2, na, Expr.pos, el]
  rfl
end
section
variable {J : It} {n : Nat} {G : Hp → Prop} {Y : Nat → Hp → V → Hp → Prop}
/-- the turns of a dict comprehension -/
theorem dc_it (w : Walk J n G Y) {g : TG} {tt : TT} {tk tv : TE} {vs : List Nat} {σ : L2.St} {H1 : Hp} {D : Addr} {Qd : Hp → Prop} (Pv : Nat → Hp → Prop) (h0 : Pv 0 (L2.upd H1 D (.dK []))) (hG : ∀ i H, i ≤ n → Pv i H → G H)
    (hs : ∀ i x H H', i < n → Pv i H → Y i H x H' → g x (wipe σ vs) H' fun σ2 H2 => wipe σ2 vs = wipe σ vs ∧ tt σ2 H2 fun b H3 =>
      if b = true then tk σ2 H3 fun y H4 => tv σ2 H4 fun z H5 => ∃ kvs k, y = kV k ∧ H5 D = some (.dK kvs) ∧ kvs.length < sizeLine ∧ Pv (i + 1) (L2.upd H5 D (.dK (putK kvs k z))) else Pv (i + 1) H3) (hd : ∀ H, Pv n H → Qd H) :
    ∃ W : Nat → Nat → Hp → Prop, (∃ m, W 0 m (L2.upd H1 D (.dK []))) ∧ ∀ i m H, W i m H →
      (J.stop i H ∧ Qd H) ∨ (J.go i H ∧ ∃ Nx : Hp → Prop, (∀ H', Nx H' → ∃ m', m' < m ∧ W (i + 1) m' H') ∧ ∀ x H', J.yld i H x H' → g x (wipe σ vs) H' fun σ2 H2 => wipe σ2 vs = wipe σ vs ∧ tt σ2 H2 fun b H3 =>
        if b = true then tk σ2 H3 fun y H4 => tv σ2 H4 fun z H5 => ∃ kvs k, y = kV k ∧ H5 D = some (.dK kvs) ∧ kvs.length < sizeLine ∧ Nx (L2.upd H5 D (.dK (putK kvs k z))) else Nx H3) := by
  refine ⟨fun i m H => i + m = n ∧ Pv i H, ⟨n, Nat.zero_add n, h0⟩, fun i m H ⟨e, p⟩ => ?_⟩
  have q := hG i H (by omega) p
  cases m with
  | zero =>
    have ei : i = n := by omega
    rw [ei] at p ⊢
    exact .inl ⟨w.stops H q, hd H p⟩
  | succ m =>
    exact .inr ⟨w.goes i H (by omega) q, Pv (i + 1), fun H' p' => ⟨m, by omega, by omega, p'⟩, fun x H' y => hs i x H H' (by omega) p (w.yields i H x H' (by omega) q y)⟩
end
end BL
set_option maxRecDepth 100000
set_option maxHeartbeats 1000000
namespace BL
open PySem PySem.Spec PyProof.Rows L2 SX He
theorem KindV.nn {v : V} (h : KindV v) : v ≠ .non := by
  rcases h with ⟨n, rfl, _⟩ | rfl | rfl <;> exact nofun
section
variable {K : PySem.W.Frag} {H : Hp} {rd dx kd rdd : Addr} {ks ks' : List (Str × V)} {ros : List (RdO × Rd)} {e : Bool}
theorem RdrAt.putK (R : RdrAt K H rd dx kd rdd ks [] e) : RdrAt K (L2.upd H kd (.dK (kvOf ks'))) rd dx kd rdd ks' [] e :=
  ⟨(upd_ne (ne_of_ob R.hi R.hk (by simp))).trans R.hi, upd_same, (upd_ne R.ne.symm).trans R.hr, nofun, R.ne⟩
theorem RdrAt.putR {o : RdO} {r : Rd} (R : RdrAt K H rd dx kd rdd ks ros e) (ho : RoadAt K H ks (o, r)) : RdrAt K (L2.upd H rdd (.dK (kvOf (rkv (ros ++ [(o, r)]))))) rd dx kd rdd ks (ros ++ [(o, r)]) e := by
  refine ⟨(upd_ne (ne_of_ob R.hi R.hr (by simp))).trans R.hi, (upd_ne R.ne).trans R.hk, upd_same, fun q hq => ?_, R.ne⟩
  have : RoadAt K H ks q := by
    rcases List.mem_append.mp hq with z | z
    · exact R.ho q z
    · rw [List.mem_singleton.mp z]; exact ho
  exact ⟨(upd_ne (ne_of_ob this.1 R.hr (by simp))).trans this.1, (upd_ne (ne_of_ob this.2 R.hr (by simp))).trans this.2⟩
theorem RdrAt.end_ (R : RdrAt K H rd dx kd rdd ks ros e) {e' : Bool} : RdrAt K (L2.upd H rd (.ins (ga K "TownReader") dx [("kinds", .ref kd), ("roads", .ref rdd), ("ended", .bl e')])) rd dx kd rdd ks ros e' := by
  refine ⟨upd_same, (upd_ne (ne_of_ob R.hk R.hi (by simp))).trans R.hk, (upd_ne (ne_of_ob R.hr R.hi (by simp))).trans R.hr, fun q hq => ?_, R.ne⟩
  have h := R.ho q hq
  refine ⟨(upd_ne ?_).trans h.1, (upd_ne (ne_of_ob h.2 R.hi (by simp))).trans h.2⟩
  refine ne_of_ob h.1 R.hi fun q => ?_
  have := congrArg (fun o => match o with | HO.ins _ _ fs => fs.length | _ => 0) q
  exact absurd (show (5 : Nat) = 3 from this) (by decide)
end
theorem lw_at1 (cs : List (Str × V)) (r : Rd) : ((lineW cs r).map V.str)[1]? = some (.str r.name) := by unfold lineW lineB lineA; split <;> rfl
theorem lw_at2 (cs : List (Str × V)) (r : Rd) : ((lineW cs r).map V.str)[2]? = some (.str (nameAt cs r.a)) := by unfold lineW lineB lineA; split <;> rfl
theorem lw_at3 (cs : List (Str × V)) (r : Rd) : ((lineW cs r).map V.str)[3]? = some (.str (nameAt cs r.b)) := by unfold lineW lineB lineA; split <;> rfl
theorem lw_m2 (cs : List (Str × V)) (r : Rd) : atI ((lineW cs r).map V.str) (-2) = some (.str (num r.l)) := by unfold lineW lineB lineA; split <;> rfl
theorem lw_m1 (cs : List (Str × V)) (r : Rd) : atI ((lineW cs r).map V.str) (-1) = some (.str (num r.r)) := by unfold lineW lineB lineA; split <;> rfl
theorem lw_sl (cs : List (Str × V)) (r : Rd) : cutV ((lineW cs r).map V.str) (some 4) (some (4 + (if r.two = true then 2 else 1))) = ((times r).map num).map V.str := by
  unfold lineW lineB lineA times
  split <;> rfl
theorem times_at {r : Rd} {i : Nat} {x : Nat} (h : (times r)[i]? = some x) : x = r.f ∨ x = r.k := by
  have := List.mem_of_getElem? h
  unfold times at this
  split at this <;> simp at this
  · exact this
  · exact .inl this
theorem times_len (r : Rd) : (times r).length ≤ 2 := by unfold times; split <;> simp
theorem names_ne {cs : List (Str × V)} {rs : List Rd} (ok : WorldOk cs rs) {i j : Nat} (hi : i < cs.length) (hj : j < cs.length) (h : nameAt cs i = nameAt cs j) : i = j := by
  rw [nameAt_eq hi, nameAt_eq hj] at h
  have pw := List.pairwise_iff_getElem.mp ok.cd
  have l : (cs.map (·.1)).length = cs.length := List.length_map _
  have e : ∀ k (hk : k < cs.length), (cs.map (·.1))[k]'(by omega) = (cs[k]'hk).1 := fun k hk => List.getElem_map _
  rcases Nat.lt_trichotomy i j with q | q | q
  · exact absurd (by rw [e i hi, e j hj]; exact h) (pw i j (by omega) (by omega) q)
  · exact q
  · exact absurd (by rw [e i hi, e j hj]; exact h.symm) (pw j i (by omega) (by omega) q)
theorem name_in {cs : List (Str × V)} {i : Nat} (hi : i < cs.length) : nameAt cs i ∈ cs.map (·.1) := by
  rw [nameAt_eq hi]
  exact List.mem_map.mpr ⟨_, List.getElem_mem hi, rfl⟩
theorem val_at {cs : List (Str × V)} (nd : (cs.map (·.1)).Nodup) {i : Nat} {v : V} (h : (cs[i]?).map (·.2) = some v) : valV (kvOf cs) (.inr (nameAt cs i)) = some v := by
  cases e : cs[i]? with
  | none => rw [e] at h; cases h
  | some c =>
    rw [e] at h
    have hc := Option.some.inj h
    have hi := (List.getElem?_eq_some_iff.mp e).1
    have en : nameAt cs i = c.1 := by unfold nameAt; rw [e]; rfl
    rw [en, val_some (List.mem_of_getElem? e) nd]
    exact congrArg some hc
theorem put_keys {kvs : List (Key × V)} {k j : Key} {v : V} : (valV (putK kvs k v) j).isSome = (decide (j = k) || (valV kvs j).isSome) := by
  unfold putK
  by_cases h : (kvs.any fun kv => decide (kv.1 = k)) = true
  · rw [if_pos h, valV_map]
    rw [valV_any] at h
    by_cases e : j = k
    · subst e
      cases hv : valV kvs j with
      | none => rw [hv] at h; cases h
      | some x => simp
    · rw [decide_eq_false e, Bool.false_or]
      cases valV kvs j <;> rfl
  · rw [if_neg h]
    have hn : valV kvs k = none := by
      rw [valV_any] at h
      cases hv : valV kvs k with
      | none => rfl
      | some x => rw [hv] at h; exact absurd rfl h
    rw [valV_snoc k j v kvs hn]
    by_cases e : j = k
    · rw [if_pos e, decide_eq_true e]; rfl
    · rw [if_neg e, decide_eq_false e]; rfl
theorem put_len {kvs : List (Key × V)} {k : Key} {v : V} : (putK kvs k v).length ≤ kvs.length + 1 ∧ kvs.length ≤ (putK kvs k v).length := by
  unfold putK
  split
  · rw [List.length_map]; omega
  · rw [List.length_append]; simp
/-- put each -/
abbrev puts (ks : List (Key × V)) (l : List (Key × V)) : List (Key × V) := mergeK ks l
theorem puts_keys {j : Key} : ∀ {l ks : List (Key × V)}, ((∃ q ∈ l, q.1 = j) ∨ (valV ks j).isSome = true) → (valV (puts ks l) j).isSome = true
  | [], ks, h => by
    rcases h with ⟨q, hq, _⟩ | h
    · cases hq
    · exact h
  | q :: r, ks, h => by
    show (valV (puts (putK ks q.1 q.2) r) j).isSome = true
    refine puts_keys ?_
    rw [put_keys]
    rcases h with ⟨p, hp, e⟩ | h
    · rcases List.mem_cons.mp hp with z | z
      · subst z
        exact .inr (by rw [decide_eq_true e.symm]; rfl)
      · exact .inl ⟨p, z, e⟩
    · exact .inr (by rw [h, Bool.or_true])
/-- a dict that has all these keys is not shorter -/
theorem keys_le {kvs : List (Key × V)} {ns : List Str} (nd : ns.Nodup) (h : ∀ z ∈ ns, (valV kvs (.inr z)).isSome = true) : ns.length ≤ kvs.length := by
  apply Decidable.byContradiction
  intro hn
  have nd2 : (ns.map (Sum.inr : Str → Key)).Nodup := nodup_mapI nd fun a _ b _ e => Sum.inr.inj e
  obtain ⟨x, hx, hx2⟩ := pigeon (L := ns.map (Sum.inr : Str → Key)) (T := kvs.map (·.1)) nd2 (by rw [List.length_map, List.length_map]; omega)
  obtain ⟨z, hz, rfl⟩ := List.mem_map.mp hx
  have := h z hz
  rw [← valV_any] at this
  obtain ⟨kv, h1, h2⟩ := List.any_eq_true.mp this
  exact hx2 (List.mem_map.mpr ⟨kv, h1, of_decide_eq_true h2⟩)
/-- locked and unlocked -/
theorem unlock {H : Hp} {d D : Addr} {u f o : HO} (hd : H d = some u) (ne : D ≠ d) : L2.upd (L2.upd (L2.upd H d f) D o) d u = L2.upd H D o := by
  funext a
  by_cases e : a = d
  · subst e
    rw [upd_same, upd_ne ne.symm, hd]
  · rw [upd_ne e]
    by_cases e2 : a = D
    · subst e2; rw [upd_same, upd_same]
    · rw [upd_ne e2, upd_ne e, upd_ne e2]
theorem unlock0 {H : Hp} {d : Addr} {u f : HO} (hd : H d = some u) : L2.upd (L2.upd H d f) d u = H := by
  funext a
  by_cases e : a = d
  · subst e
    rw [upd_same, hd]
  · rw [upd_ne e, upd_ne e]
theorem unlock2 {H : Hp} {d D E : Addr} {u f o o2 : HO} (hd : H d = some u) (ne : D ≠ d) (nE : E ≠ d) : L2.upd (L2.upd (L2.upd (L2.upd H d f) E o) D o2) d u = L2.upd (L2.upd H E o) D o2 := by
  funext a
  by_cases e : a = d
  · subst e
    rw [upd_same, upd_ne ne.symm, upd_ne nE.symm, hd]
  · rw [upd_ne e]
    by_cases e2 : a = D
    · subst e2; rw [upd_same, upd_same]
    · rw [upd_ne e2, upd_ne e2]
      by_cases e3 : a = E
      · subst e3; rw [upd_same, upd_same]
      · rw [upd_ne e3, upd_ne e, upd_ne e3]
theorem val_mem {kvs : List (Key × V)} {j : Key} (h : (valV kvs j).isSome = true) : ∃ q ∈ kvs, q.1 = j := by
  rw [← valV_any] at h
  obtain ⟨kv, h1, h2⟩ := List.any_eq_true.mp h
  exact ⟨kv, h1, of_decide_eq_true h2⟩
end BL
set_option maxRecDepth 100000
set_option maxHeartbeats 1000000
namespace BL
open PySem PySem.Spec PyProof.Rows L2 SX He
def Dark (z : Str) : Prop := ∀ x ∈ TL.tl z, 33 ≤ x
theorem name_dark {z : Str} (h : NameOk z) : Dark z := by
  obtain ⟨c, r, rfl, hc, _, hr, _⟩ := h
  intro x hx
  have hx : x ∈ c :: r := hx
  rcases List.mem_cons.mp hx with q | q
  · subst q; have := hc.1; omega
  · rcases hr x q with z | z <;> have := z.1 <;> omega
theorem num_dark {n : Nat} (h : n < 100) : Dark (num n) := by
  have : ∀ n, n < 100 → ∀ x ∈ TL.tl (num n), 33 ≤ x := by decide +kernel
  exact this n h
theorem kindT_dark {v : V} (h : KindV v) : Dark (kindT v) := by
  rcases h with ⟨n, rfl, h0, h1⟩ | rfl | rfl
  · have := num_dark (n := n.toNat) (by omega)
    unfold num at this
    rw [show ((n.toNat : Nat) : Int) = n by omega] at this
    exact this
  · show ∀ x ∈ TL.tl ("never" : Str), 33 ≤ x
    decide
  · show ∀ x ∈ TL.tl ("place" : Str), 33 ≤ x
    decide
theorem joinL_mem {a : List Nat} {x : Nat} : ∀ {ps : List (List Nat)}, x ∈ TL.joinL a ps → x ∈ a ∨ ∃ p ∈ ps, x ∈ p
  | [], h => by cases h
  | [p], h => .inr ⟨p, List.mem_singleton.mpr rfl, h⟩
  | p :: q :: r, h => by
    have h : x ∈ p ++ (a ++ TL.joinL a (q :: r)) := h
    rcases List.mem_append.mp h with z | z
    · exact .inr ⟨p, List.mem_cons_self, z⟩
    · rcases List.mem_append.mp z with z | z
      · exact .inl z
      · rcases joinL_mem z with w | ⟨p', hp, w⟩
        · exact .inl w
        · exact .inr ⟨p', List.mem_cons_of_mem _ hp, w⟩
theorem join_dark {ws : List Str} (h : ∀ z ∈ ws, Dark z) : ∀ x ∈ TL.tl (Txt.join " " ws), 32 ≤ x := by
  intro x hx
  rw [TL.join_eq, TL.tl_join] at hx
  rcases joinL_mem hx with q | ⟨p, hp, q⟩
  · have : ∀ x ∈ TL.tl (" " : Str), 32 ≤ x := by decide
    exact this x q
  · obtain ⟨z, hz, rfl⟩ := List.mem_map.mp hp
    have := h z hz x q
    omega
theorem split_words {ws : List Str} (hne : ws ≠ []) (h : ∀ z ∈ ws, Dark z) : Txt.split (Txt.join " " ws) " " = ws :=
  TL.split_join (s := 32) (S := []) (by decide) (by decide +kernel) hne fun p hp q => absurd (h p hp _ q) (by decide)
theorem crossT_join (c : Str × V) : crossT c = Txt.join " " [("cross" : Str), c.1, kindT c.2] := by
  have e1 : ("cross " : Str) = S [99, 114, 111, 115, 115, 32] := by decide +kernel
  have e2 : (" " : Str) = S [32] := by decide +kernel
  have e3 : ("cross" : Str) = S [99, 114, 111, 115, 115] := by decide +kernel
  have e4 : [("cross" : Str), c.1, kindT c.2] = ([[99, 114, 111, 115, 115], c.1.cps.toList, (kindT c.2).cps.toList] : List (List Nat)).map S := by
    rw [e3]
    show _ = [S _, S c.1.cps.toList, S (kindT c.2).cps.toList]
    rw [S_tl, S_tl]
  rw [e4, e2, join_S]
  unfold crossT
  rw [e1, e2, ← S_tl c.1, ← S_tl (kindT c.2), S_cat, S_cat, S_cat]
  refine congrArg S ?_
  show _ = [99, 114, 111, 115, 115] ++ ([32] ++ (_ ++ ([32] ++ _)))
  simp
  rfl
theorem crossW_dark {c : Str × V} (h : NameOk c.1) (k : KindV c.2) : ∀ z ∈ [("cross" : Str), c.1, kindT c.2], Dark z := by
  have s1 : Dark "cross" := by show ∀ x ∈ TL.tl ("cross" : Str), 33 ≤ x; decide
  intro z hz
  simp at hz
  rcases hz with rfl | rfl | rfl
  · exact s1
  · exact name_dark h
  · exact kindT_dark k
theorem crossT_split {c : Str × V} (h : NameOk c.1) (k : KindV c.2) : Txt.split (crossT c) " " = [("cross" : Str), c.1, kindT c.2] := by
  rw [crossT_join]
  exact split_words (by simp) (crossW_dark h k)
def outs (cs : List (Str × V)) (rs : List Rd) : List Str := ((rs.filter (!·.two)).map (·.a)).map (nameAt cs)
def ins (cs : List (Str × V)) (rs : List Rd) : List Str := ((rs.filter (!·.two)).map (·.b)).map (nameAt cs)
def sur (cs : List (Str × V)) (rs : List Rd) (z : Str) : Int := ((outs cs rs).count z : Int) - ((ins cs rs).count z : Int)
theorem sur_two (cs : List (Str × V)) (rs : List Rd) {r : Rd} (h : r.two = true) (z : Str) : sur cs (rs ++ [r]) z = sur cs rs z := by
  unfold sur outs ins
  rw [List.filter_append]
  simp [h]
theorem sur_one (cs : List (Str × V)) (rs : List Rd) {r : Rd} (h : r.two = false) (z : Str) :
    sur cs (rs ++ [r]) z = (if z = nameAt cs r.b then (if nameAt cs r.b = nameAt cs r.a then sur cs rs (nameAt cs r.a) + 1 else sur cs rs (nameAt cs r.b)) - 1 else (if z = nameAt cs r.a then sur cs rs (nameAt cs r.a) + 1 else sur cs rs z)) := by
  have e1 : outs cs (rs ++ [r]) = outs cs rs ++ [nameAt cs r.a] := by unfold outs; rw [List.filter_append]; simp [h]
  have e2 : ins cs (rs ++ [r]) = ins cs rs ++ [nameAt cs r.b] := by unfold ins; rw [List.filter_append]; simp [h]
  unfold sur
  rw [e1, e2, List.count_append, List.count_append, List.count_singleton, List.count_singleton]
  by_cases h1 : z = nameAt cs r.b
  · subst h1
    rw [if_pos rfl]
    by_cases h2 : nameAt cs r.b = nameAt cs r.a
    · rw [if_pos h2, h2]
      simp
      omega
    · rw [if_neg h2]
      have : ¬ (nameAt cs r.a == nameAt cs r.b) = true := fun e => h2 (beq_iff_eq.mp e).symm
      rw [if_neg this, if_pos (beq_self_eq_true _)]
      omega
  · rw [if_neg h1]
    have n1 : ¬ (nameAt cs r.b == z) = true := fun e => h1 (beq_iff_eq.mp e).symm
    rw [if_neg n1]
    by_cases h2 : z = nameAt cs r.a
    · subst h2
      rw [if_pos rfl, if_pos (beq_self_eq_true _)]
      omega
    · have n2 : ¬ (nameAt cs r.a == z) = true := fun e => h2 (beq_iff_eq.mp e).symm
      rw [if_neg h2, if_neg n2]
      omega
theorem sur_zero {cs : List (Str × V)} {rs : List Rd} (ok : WorldOk cs rs) (z : Str) : sur cs rs z = 0 := by
  have := ((ok.bal.map (nameAt cs)).count_eq z)
  unfold sur outs ins
  omega
theorem take_nin {α β : Type} {l : List α} {f : α → β} {i : Nat} {x : α} (nd : (l.map f).Nodup) (h : l[i]? = some x) : f x ∉ (l.take i).map f := by
  intro q
  obtain ⟨y, hy, e⟩ := List.mem_map.mp q
  obtain ⟨j, hj, ej⟩ := List.mem_iff_getElem.mp hy
  have hi := List.getElem?_eq_some_iff.mp h
  obtain ⟨hil, ei⟩ := hi
  rw [List.length_take] at hj
  rw [List.getElem_take] at ej
  have pw := List.pairwise_iff_getElem.mp nd j i (by rw [List.length_map]; omega) (by rw [List.length_map]; omega) (by omega)
  rw [List.getElem_map, List.getElem_map, ei, ej] at pw
  exact pw e
theorem put_int {cs : List (Str × V)} {g : Str → Int} {z : Str} {n : Int} (h : z ∈ cs.map (·.1)) :
    putK (kvOf (cs.map fun c => (c.1, .int (g c.1)))) (.inr z) (.int n) = kvOf (cs.map fun c => (c.1, .int (if c.1 = z then n else g c.1))) := by
  rw [put_fn (nm := fun c : Str × V => c.1) (g := fun z => .int (g z)) h]
  congr 1
  refine List.map_congr_left fun c _ => ?_
  show (c.1, if c.1 = z then V.int n else .int (g c.1)) = _
  split <;> rfl
theorem val_int {cs : List (Str × V)} {g : Str → Int} {z : Str} (h : z ∈ cs.map (·.1)) : valV (kvOf (cs.map fun c => (c.1, .int (g c.1)))) (.inr z) = some (.int (g z)) :=
  val_fn (nm := fun c : Str × V => c.1) (g := fun z => .int (g z)) h
theorem dget_int {H : Hp} {a : Addr} {cs : List (Str × V)} {z : Str} (g : Str → Int) (h : H a = some (.dK (kvOf (cs.map fun c => (c.1, .int (g c.1)))))) (hz : z ∈ cs.map (·.1)) : DGet H a (.str z) (some (.int (g z))) := by
  have := DGet.k (k := .inr z) h
  rw [val_int hz] at this
  exact this
end BL
set_option maxRecDepth 100000
set_option maxHeartbeats 1000000
namespace BL
open PySem PySem.Spec PyProof.Rows L2 SX He
theorem walk_enumK {K : PySem.W.Frag} {a : Addr} {k : Int} {xs : List V} : Walk (IteK K a k) xs.length (fun H => SqL K H a xs) (YPair (fun i => some (.int (k + (i : Nat)))) (fun i => xs[i]?)) := by
  refine ⟨fun i H hi q => ⟨xs, xs[i], q, by simp [hi]⟩, fun H q => ⟨xs, q, Nat.le_refl _⟩, ?_⟩
  rintro i H v H' _ q ⟨T, x, h1, h2, h3, h4⟩
  exact ⟨T, _, x, h1, h2, h3, rfl, h4 xs q⟩
/-- a frozen dict is read too -/
theorem dget_frz {H : Hp} {a : Addr} {o : Obj} {kvs : List (Key × V)} {z : Str} (h : H a = some (.frz o (.dK kvs))) : DGet H a (.str z) (valV kvs (.inr z)) := .inl ⟨kvs, .inr z, .inr ⟨o, h⟩, rfl, rfl⟩
theorem line_0 (cs : List (Str × V)) (rs : List Rd) : (linesT cs rs)[0]? = some ("town" : Str) := rfl
theorem line_c {cs : List (Str × V)} {rs : List Rd} {i : Nat} {c : Str × V} (h : cs[i]? = some c) : (linesT cs rs)[i + 1]? = some (crossT c) := by
  have hi := (List.getElem?_eq_some_iff.mp h).1
  unfold linesT
  rw [List.append_assoc, List.append_assoc]
  show (cs.map crossT ++ (rs.map (lineT cs) ++ ([("done" : Str)] : List Str)))[i]? = _
  rw [List.getElem?_append_left (by rw [List.length_map]; exact hi), List.getElem?_map, h]
  rfl
theorem line_r {cs : List (Str × V)} {rs : List Rd} {i : Nat} {r : Rd} (h : rs[i]? = some r) : (linesT cs rs)[i + 1 + cs.length]? = some (lineT cs r) := by
  have hi := (List.getElem?_eq_some_iff.mp h).1
  unfold linesT
  rw [List.append_assoc, List.append_assoc, show i + 1 + cs.length = (i + cs.length) + 1 by omega]
  show (cs.map crossT ++ (rs.map (lineT cs) ++ ([("done" : Str)] : List Str)))[i + cs.length]? = _
  rw [List.getElem?_append_right (by rw [List.length_map]; omega), List.length_map, show i + cs.length - cs.length = i by omega, List.getElem?_append_left (by rw [List.length_map]; exact hi), List.getElem?_map, h]
  rfl
theorem line_d (cs : List (Str × V)) (rs : List Rd) : (linesT cs rs)[rs.length + 1 + cs.length]? = some ("done" : Str) := by
  unfold linesT
  rw [List.append_assoc, List.append_assoc, show rs.length + 1 + cs.length = (rs.length + cs.length) + 1 by omega]
  show (cs.map crossT ++ (rs.map (lineT cs) ++ ([("done" : Str)] : List Str)))[rs.length + cs.length]? = _
  rw [List.getElem?_append_right (by rw [List.length_map]; omega), List.length_map, show rs.length + cs.length - cs.length = rs.length by omega, List.getElem?_append_right (by rw [List.length_map]; omega), List.length_map, Nat.sub_self]
  rfl
theorem linesT_length (cs : List (Str × V)) (rs : List Rd) : (linesT cs rs).length = cs.length + rs.length + 2 := by
  unfold linesT
  simp
  omega
end BL
set_option maxRecDepth 100000
set_option maxHeartbeats 1000000
namespace BL
open PySem PySem.Spec PyProof.Rows L2 SX He
abbrev natV (l : List Nat) : List V := l.map fun x => V.int (x : Nat)
theorem natV_at {l : List Nat} {i : Nat} (h : i < l.length) : (natV l)[i]? = some (.int ((l.getD i 0 : Nat) : Int)) := nat_at h
/-- one label for two -/
def uniteL (L : List Nat) (i j : Nat) : List Nat :=
  if L.getD i 0 = L.getD j 0 then L else L.map fun l => if l = max (L.getD i 0) (L.getD j 0) then min (L.getD i 0) (L.getD j 0) else l
theorem uniteL_len (L : List Nat) (i j : Nat) : (uniteL L i j).length = L.length := by unfold uniteL; split <;> simp
/-- a dict with numbers for keys -/
def kvI (l : List (Nat × V)) : List (Key × V) := l.map fun c => (.inl (c.1 : Int), c.2)
theorem valI_none {z : Nat} : ∀ {l : List (Nat × V)}, z ∉ l.map (·.1) → valV (kvI l) (.inl (z : Int)) = none
  | [], _ => rfl
  | c :: r, h => by
    have h1 : ¬ (Sum.inl (c.1 : Int) : Key) = .inl (z : Int) := fun e => h (by
      have e : (c.1 : Int) = (z : Int) := Sum.inl.inj e
      rw [List.map_cons]; exact List.mem_cons.mpr (.inl (by omega)))
    show valV ((.inl (c.1 : Int), c.2) :: kvI r) (.inl (z : Int)) = none
    rw [valV_neg h1]
    exact valI_none fun q => h (by rw [List.map_cons]; exact List.mem_cons_of_mem _ q)
theorem valI_some {l : List (Nat × V)} {c : Nat × V} (h : c ∈ l) (nd : (l.map (·.1)).Nodup) : valV (kvI l) (.inl (c.1 : Int)) = some c.2 := by
  induction l with
  | nil => cases h
  | cons d r ih =>
    rw [List.map_cons] at nd
    obtain ⟨n1, n2⟩ := List.nodup_cons.mp nd
    show valV ((.inl (d.1 : Int), d.2) :: kvI r) (.inl (c.1 : Int)) = some c.2
    rcases List.mem_cons.mp h with q | q
    · subst q; exact valV_pos rfl
    · rw [valV_neg (fun e => n1 (by
        have e : (d.1 : Int) = (c.1 : Int) := Sum.inl.inj e
        have e : d.1 = c.1 := by omega
        rw [e]
        exact List.mem_map.mpr ⟨c, q, rfl⟩))]
      exact ih q n2
theorem putI_new {z : Nat} {v : V} {l : List (Nat × V)} (h : z ∉ l.map (·.1)) : putK (kvI l) (.inl (z : Int)) v = kvI (l ++ [(z, v)]) := by
  have hn := valI_none (l := l) h
  unfold putK
  rw [if_neg (by rw [valV_any, hn]; decide)]
  unfold kvI
  rw [List.map_append]
  rfl
abbrev GTab := List (Addr × Nat × List Nat)
def tkv (t : GTab) : List (Nat × V) := t.map fun e => (e.2.1, .ref e.1)
def addT (t : GTab) (lab x : Nat) : GTab := t.map fun e => if e.2.1 = lab then (e.1, e.2.1, e.2.2 ++ [x]) else e
structure TabAt (H : Hp) (t : GTab) : Prop where
  at_ : ∀ e ∈ t, H e.1 = some (.lst (natV e.2.2))
  an : (t.map (·.1)).Nodup
  ln : (t.map (·.2.1)).Nodup
theorem tkv_keys (t : GTab) : (tkv t).map (·.1) = t.map (·.2.1) := by unfold tkv; rw [List.map_map]; rfl
theorem addT_keys (t : GTab) (lab x : Nat) : tkv (addT t lab x) = tkv t := by
  unfold tkv addT
  rw [List.map_map]
  refine List.map_congr_left fun e _ => ?_
  show (((if e.2.1 = lab then (e.1, e.2.1, e.2.2 ++ [x]) else e) : Addr × Nat × List Nat).2.1, V.ref ((if e.2.1 = lab then (e.1, e.2.1, e.2.2 ++ [x]) else e) : Addr × Nat × List Nat).1) = _
  split <;> rfl
theorem addT_addr (t : GTab) (lab x : Nat) : (addT t lab x).map (·.1) = t.map (·.1) := by
  unfold addT
  rw [List.map_map]
  refine List.map_congr_left fun e _ => ?_
  show ((if e.2.1 = lab then (e.1, e.2.1, e.2.2 ++ [x]) else e) : Addr × Nat × List Nat).1 = _
  split <;> rfl
theorem addT_labs (t : GTab) (lab x : Nat) : (addT t lab x).map (·.2.1) = t.map (·.2.1) := by
  unfold addT
  rw [List.map_map]
  refine List.map_congr_left fun e _ => ?_
  show ((if e.2.1 = lab then (e.1, e.2.1, e.2.2 ++ [x]) else e) : Addr × Nat × List Nat).2.1 = _
  split <;> rfl
theorem inj_of_nd {α β : Type} {f : α → β} {l : List α} (nd : (l.map f).Nodup) {a b : α} (ha : a ∈ l) (hb : b ∈ l) (e : f a = f b) : a = b := by
  induction l with
  | nil => cases ha
  | cons c r ih =>
    rw [List.map_cons] at nd
    obtain ⟨n1, n2⟩ := List.nodup_cons.mp nd
    rcases List.mem_cons.mp ha with q | q <;> rcases List.mem_cons.mp hb with w | w
    · rw [q, w]
    · exact absurd (List.mem_map.mpr ⟨b, w, by rw [← e, q]⟩) n1
    · exact absurd (List.mem_map.mpr ⟨a, q, by rw [e, w]⟩) n1
    · exact ih n2 q w
theorem TabAt.add {H : Hp} {t : GTab} (h : TabAt H t) {e : Addr × Nat × List Nat} (he : e ∈ t) {x : Nat} : TabAt (L2.upd H e.1 (.lst (natV (e.2.2 ++ [x])))) (addT t e.2.1 x) := by
  refine ⟨fun q hq => ?_, by rw [addT_addr]; exact h.an, by rw [addT_labs]; exact h.ln⟩
  obtain ⟨p, hp, rfl⟩ := List.mem_map.mp hq
  by_cases el : p.2.1 = e.2.1
  · have := inj_of_nd h.ln hp he el
    subst this
    rw [if_pos rfl]
    exact upd_same
  · rw [if_neg el]
    refine (upd_ne fun ea => el ?_).trans (h.at_ p hp)
    rw [inj_of_nd h.an hp he ea]
theorem TabAt.new {H : Hp} {t : GTab} (h : TabAt H t) {p : Addr} {lab : Nat} (np : H p = none) (hl : lab ∉ t.map (·.2.1)) : TabAt (L2.upd H p (.lst [])) (t ++ [(p, lab, [])]) := by
  refine ⟨fun q hq => ?_, ?_, ?_⟩
  · rcases List.mem_append.mp hq with z | z
    · exact (upd_ne (ne_of_none (h.at_ q z) np)).trans (h.at_ q z)
    · rw [List.mem_singleton.mp z]; exact upd_same
  · rw [List.map_append]
    refine nd_snoc h.an fun z => ?_
    obtain ⟨q, hq, e⟩ := List.mem_map.mp z
    have e : q.1 = p := e
    have := h.at_ q hq
    rw [e, np] at this
    cases this
  · rw [List.map_append]
    exact nd_snoc h.ln hl
theorem TabAt.kept {H H1 : Hp} {t : GTab} (h : TabAt H t) (k : ∀ e ∈ t, H1 e.1 = H e.1) : TabAt H1 t := ⟨fun e he => (k e he).trans (h.at_ e he), h.an, h.ln⟩
def lb (L : List Nat) (k : Nat) : Nat := L.getD k 0
structure LabOk (L : List Nat) : Prop where
  le : ∀ k, k < L.length → lb L k ≤ k
  id : ∀ k, k < L.length → lb L (lb L k) = lb L k
theorem lab_range (n : Nat) : LabOk (List.range n) := by
  have h : ∀ k, k < (List.range n).length → lb (List.range n) k = k := fun k hk => by
    unfold lb
    rw [List.getD_eq_getElem?_getD, List.getElem?_eq_getElem hk, List.getElem_range]; rfl
  exact ⟨fun k hk => by rw [h k hk]; exact Nat.le_refl _, fun k hk => by rw [h k hk, h k hk]⟩
theorem lb_map {L : List Nat} {f : Nat → Nat} {k : Nat} (h : k < L.length) : lb (L.map f) k = f (lb L k) := by
  unfold lb
  rw [List.getD_eq_getElem?_getD, List.getD_eq_getElem?_getD, List.getElem?_map, List.getElem?_eq_getElem h]; rfl
theorem lab_unite {L : List Nat} (h : LabOk L) {i j : Nat} (hi : i < L.length) (hj : j < L.length) : LabOk (uniteL L i j) := by
  unfold uniteL
  split
  · exact h
  · rename_i hne
    have ex : lb L i = L.getD i 0 := rfl
    have ey : lb L j = L.getD j 0 := rfl
    rw [← ex, ← ey] at hne ⊢
    have lx := h.le i hi
    have ly := h.le j hj
    have ix := h.id i hi
    have iy := h.id j hj
    generalize lb L i = x at *
    generalize lb L j = y at *
    have imin : lb L (min x y) = min x y := by
      rcases Nat.le_total x y with q | q
      · rw [Nat.min_eq_left q]; exact ix
      · rw [Nat.min_eq_right q]; exact iy
    have lmin : min x y < L.length := by omega
    refine ⟨fun k hk => ?_, fun k hk => ?_⟩
    · rw [List.length_map] at hk
      rw [lb_map hk]
      have := h.le k hk
      split <;> omega
    · rw [List.length_map] at hk
      have lk := h.le k hk
      rw [lb_map hk]
      by_cases e : lb L k = max x y
      · rw [if_pos e, lb_map lmin, imin, if_neg (by omega)]
      · rw [if_neg e, lb_map (by omega), h.id k hk, if_neg e]
def roots (L : List Nat) (i : Nat) : List Nat := (List.range i).filter fun k => lb L k == k
def mems (L : List Nat) (i h : Nat) : List Nat := (List.range i).filter fun k => lb L k == h
def gX (L : List Nat) (i : Nat) : List (Nat × List Nat) := (roots L i).map fun h => (h, mems L i h)
def addP (lab x : Nat) (q : Nat × List Nat) : Nat × List Nat := if q.1 = lab then (q.1, q.2 ++ [x]) else q
theorem addT_snd (t : GTab) (lab x : Nat) : (addT t lab x).map (·.2) = (t.map (·.2)).map (addP lab x) := by
  unfold addT
  rw [List.map_map, List.map_map]
  refine List.map_congr_left fun e _ => ?_
  show (if e.2.1 = lab then (e.1, e.2.1, e.2.2 ++ [x]) else e).2 = addP lab x e.2
  unfold addP
  split <;> rfl
theorem mems_succ (L : List Nat) (i h : Nat) : mems L (i + 1) h = mems L i h ++ (if lb L i = h then [i] else []) := by
  unfold mems
  rw [List.range_succ, List.filter_append]
  congr 1
  by_cases e : lb L i = h
  · rw [if_pos e, List.filter_cons, if_pos (beq_iff_eq.mpr e)]; rfl
  · rw [if_neg e, List.filter_cons, if_neg (fun q => e (beq_iff_eq.mp q))]; rfl
theorem roots_succ (L : List Nat) (i : Nat) : roots L (i + 1) = roots L i ++ (if lb L i = i then [i] else []) := by
  unfold roots
  rw [List.range_succ, List.filter_append]
  congr 1
  by_cases e : lb L i = i
  · rw [if_pos e, List.filter_cons, if_pos (beq_iff_eq.mpr e)]; rfl
  · rw [if_neg e, List.filter_cons, if_neg (fun q => e (beq_iff_eq.mp q))]; rfl
theorem root_mem {L : List Nat} {i h : Nat} : h ∈ roots L i ↔ h < i ∧ lb L h = h := by
  unfold roots
  rw [List.mem_filter, List.mem_range, beq_iff_eq]
theorem gX_root {L : List Nat} (ok : LabOk L) {i : Nat} (hi : i < L.length) (e : lb L i = i) : gX L (i + 1) = (gX L i ++ [(i, [])]).map (addP i i) := by
  unfold gX
  rw [roots_succ, if_pos e, List.map_append, List.map_append, List.map_map]
  congr 1
  · refine List.map_congr_left fun h hh => ?_
    have hh := root_mem.mp hh
    show (h, mems L (i + 1) h) = addP i i (h, mems L i h)
    unfold addP
    rw [if_neg (show ¬ h = i by omega), mems_succ, if_neg (by omega), List.append_nil]
  · show [(i, mems L (i + 1) i)] = [addP i i (i, [])]
    have e0 : mems L i i = [] := by
      unfold mems
      refine List.filter_eq_nil_iff.mpr fun k hk => ?_
      have hk := List.mem_range.mp hk
      have := ok.le k (by omega)
      intro q
      have := beq_iff_eq.mp q
      omega
    unfold addP
    rw [if_pos rfl, mems_succ, if_pos e, e0]
theorem gX_old {L : List Nat} (ok : LabOk L) {i : Nat} (hi : i < L.length) (e : lb L i ≠ i) : gX L (i + 1) = (gX L i).map (addP (lb L i) i) := by
  unfold gX
  rw [roots_succ, if_neg e, List.append_nil, List.map_map]
  refine List.map_congr_left fun h hh => ?_
  show (h, mems L (i + 1) h) = addP (lb L i) i (h, mems L i h)
  unfold addP
  by_cases q : h = lb L i
  · rw [if_pos q, mems_succ, if_pos q.symm]
  · rw [if_neg q, mems_succ, if_neg (fun z => q z.symm), List.append_nil]
theorem gX_keys (L : List Nat) (i : Nat) : (gX L i).map (·.1) = roots L i := by
  unfold gX
  rw [List.map_map]
  exact List.map_id _
/-- what the table holds -/
structure TabOk (L : List Nat) (i : Nat) (t : GTab) : Prop where
  ne : ∀ e ∈ t, e.2.2 ≠ []
  lt : ∀ e ∈ t, ∀ x ∈ e.2.2, x < i
  all : ∀ x, x < i → ∃ e ∈ t, x ∈ e.2.2
  nd : (t.flatMap (·.2.2)).Nodup
  ex : LabOk L → t.map (·.2) = gX L i
theorem addT_other {t : GTab} {lab x : Nat} (h : lab ∉ t.map (·.2.1)) : addT t lab x = t := by
  unfold addT
  refine (List.map_congr_left (g := id) fun e he => ?_).trans (List.map_id _)
  rw [if_neg fun q => h (List.mem_map.mpr ⟨e, he, q⟩)]
  rfl
theorem addT_perm {lab x : Nat} : ∀ {t : GTab}, (t.map (·.2.1)).Nodup → lab ∈ t.map (·.2.1) → ((addT t lab x).flatMap (·.2.2)).Perm (t.flatMap (·.2.2) ++ [x])
  | [], _, h => by cases h
  | e :: r, nd, h => by
    rw [List.map_cons] at nd h
    obtain ⟨n1, n2⟩ := List.nodup_cons.mp nd
    by_cases el : e.2.1 = lab
    · have e1 : addT (e :: r) lab x = (e.1, e.2.1, e.2.2 ++ [x]) :: addT r lab x := by
        show (if e.2.1 = lab then (e.1, e.2.1, e.2.2 ++ [x]) else e) :: addT r lab x = _
        rw [if_pos el]
      rw [e1, addT_other (by rw [← el]; exact n1), List.flatMap_cons, List.flatMap_cons, List.append_assoc, List.append_assoc]
      exact (List.Perm.refl _).append List.perm_append_comm
    · have e1 : addT (e :: r) lab x = e :: addT r lab x := by
        show (if e.2.1 = lab then (e.1, e.2.1, e.2.2 ++ [x]) else e) :: addT r lab x = _
        rw [if_neg el]
      rw [e1, List.flatMap_cons, List.flatMap_cons, List.append_assoc]
      exact (List.Perm.refl _).append (addT_perm n2 ((List.mem_cons.mp h).resolve_left fun q => el q.symm))
theorem TabOk.add {L : List Nat} {i : Nat} {t t2 : GTab} {lab : Nat} (h : TabOk L i t) (h2 : t2 = t ∨ ∃ p, t2 = t ++ [(p, lab, [])]) (hl : lab ∈ t2.map (·.2.1)) (hn : t2 ≠ t → lab ∉ t.map (·.2.1)) (nd2 : (t2.map (·.2.1)).Nodup) (hlab : lab = lb L i) (hiL : i < L.length) (hno : lab ∈ t.map (·.2.1) → t2 = t) : TabOk L (i + 1) (addT t2 lab i) := by
  have sub : ∀ e ∈ t, e ∈ t2 := fun e he => by
    rcases h2 with rfl | ⟨p, rfl⟩
    · exact he
    · exact List.mem_append_left _ he
  have sup : ∀ e ∈ t2, e ∈ t ∨ (e.2.1 = lab ∧ e.2.2 = []) := fun e he => by
    rcases h2 with rfl | ⟨p, rfl⟩
    · exact .inl he
    · rcases List.mem_append.mp he with q | q
      · exact .inl q
      · rw [List.mem_singleton.mp q]; exact .inr ⟨rfl, rfl⟩
  refine ⟨fun e he => ?_, fun e he x hx => ?_, fun x hx => ?_, ?_, fun lok => ?_⟩
  rotate_left 4
  · rw [addT_snd]
    have ex := h.ex lok
    have keys : t.map (·.2.1) = roots L i := by rw [← gX_keys, ← ex, List.map_map]; rfl
    by_cases er : lb L i = i
    · have hne : t2 ≠ t := by
        rintro rfl
        rw [keys, hlab] at hl
        have := (root_mem.mp hl).1
        omega
      rcases h2 with e | ⟨p, rfl⟩
      · exact absurd e hne
      · rw [List.map_append, ex, hlab, er]
        exact (gX_root lok hiL er).symm
    · have hin : lab ∈ t.map (·.2.1) := by
        rw [keys, hlab]
        have := lok.le i hiL
        exact root_mem.mpr ⟨by omega, lok.id i hiL⟩
      rw [hno hin, ex, hlab]
      exact (gX_old lok hiL er).symm
  rotate_left 3
  · refine (addT_perm nd2 hl).nodup_iff.mpr ?_
    have e2 : t2.flatMap (·.2.2) = t.flatMap (·.2.2) := by
      rcases h2 with rfl | ⟨p, rfl⟩
      · rfl
      · rw [List.flatMap_append]; simp
    rw [e2]
    refine nd_snoc h.nd fun q => ?_
    obtain ⟨e, he, hx⟩ := List.mem_flatMap.mp q
    exact absurd (h.lt e he i hx) (Nat.lt_irrefl i)
  · obtain ⟨q, hq, rfl⟩ := List.mem_map.mp he
    by_cases el : q.2.1 = lab
    · rw [if_pos el]
      exact fun z => by simp at z
    · rw [if_neg el]
      exact h.ne q ((sup q hq).resolve_right fun z => el z.1)
  · obtain ⟨q, hq, rfl⟩ := List.mem_map.mp he
    have old : ∀ x ∈ q.2.2, x < i := fun x hx => by
      rcases sup q hq with z | z
      · exact h.lt q z x hx
      · rw [z.2] at hx; cases hx
    by_cases el : q.2.1 = lab
    · rw [if_pos el] at hx
      rcases List.mem_append.mp hx with z | z
      · have := old x z; omega
      · have := List.mem_singleton.mp z; omega
    · rw [if_neg el] at hx
      have := old x hx; omega
  · by_cases ex : x = i
    · subst ex
      obtain ⟨q, hq, e⟩ := List.mem_map.mp hl
      refine ⟨_, List.mem_map.mpr ⟨q, hq, rfl⟩, ?_⟩
      rw [if_pos e]
      exact List.mem_append_right _ (List.mem_singleton.mpr rfl)
    · obtain ⟨q, hq, hx2⟩ := h.all x (by omega)
      refine ⟨_, List.mem_map.mpr ⟨q, sub q hq, rfl⟩, ?_⟩
      by_cases el : q.2.1 = lab
      · rw [if_pos el]; exact List.mem_append_left _ hx2
      · rw [if_neg el]; exact hx2
end BL
set_option maxRecDepth 100000
set_option maxHeartbeats 1000000
namespace BL
open PySem PySem.Spec PyProof.Rows L2 SX He
@[irreducible] def heightsL (cs : List (Str × V)) : List Nat := (List.range 41).filter fun h => h == 0 || inV (.int (h : Nat)) (cs.map (·.2))
/-- a lane: its name, where it starts, its goal, its minutes -/
structure Lane where
  key : Str
  st : Str
  go : Str
  mi : Nat
def lanesR (cs : List (Str × V)) (r : Rd) : List Lane := ⟨r.name ++ ("+" : Str), nameAt cs r.a, nameAt cs r.b, r.f⟩ :: if r.two = true then [⟨r.name ++ ("-" : Str), nameAt cs r.b, nameAt cs r.a, r.k⟩] else []
def lanesD (cs : List (Str × V)) (rs : List Rd) : List Lane := rs.flatMap (lanesR cs)
def LanesAt (H : Hp) (la : List (Addr × Lane)) : Prop := ∀ x ∈ la, H x.1 = some (.tup [.str x.2.st, .str x.2.go, .int (x.2.mi : Nat)])
theorem lane_keys {cs : List (Str × V)} {rs : List Rd} {z : Str} (h : z ∈ (lanesD cs rs).map (·.key)) : ∃ r ∈ rs, z = r.name ++ ("+" : Str) ∨ z = r.name ++ ("-" : Str) := by
  obtain ⟨l, hl, rfl⟩ := List.mem_map.mp h
  obtain ⟨r, hr, hl⟩ := List.mem_flatMap.mp hl
  refine ⟨r, hr, ?_⟩
  unfold lanesR at hl
  rcases List.mem_cons.mp hl with q | q
  · rw [q]; exact .inl rfl
  · split at q
    · rw [List.mem_singleton.mp q]; exact .inr rfl
    · cases q
theorem cat_inj {x y a b : Str} (ha : a.length = 1) (hb : b.length = 1) (h : x ++ a = y ++ b) : x = y ∧ a = b := by
  rw [← S_tl x, ← S_tl y, ← S_tl a, ← S_tl b, S_cat, S_cat] at h
  have h := S_inj h
  have la : a.cps.toList.length = 1 := by rw [Array.length_toList]; exact ha
  have lb : b.cps.toList.length = 1 := by rw [Array.length_toList]; exact hb
  have hl : x.cps.toList.length = y.cps.toList.length := by
    have := congrArg List.length h
    rw [List.length_append, List.length_append] at this
    omega
  obtain ⟨h1, h2⟩ := List.append_inj h hl
  refine ⟨?_, ?_⟩
  · rw [← S_tl x, ← S_tl y, h1]
  · rw [← S_tl a, ← S_tl b, h2]
theorem new_plus {cs : List (Str × V)} {rs : List Rd} {r : Rd} (h : r.name ∉ rs.map (·.name)) : r.name ++ ("+" : Str) ∉ (lanesD cs rs).map (·.key) := by
  intro q
  obtain ⟨x, hx, e⟩ := lane_keys q
  have : r.name = x.name := by
    rcases e with e | e
    · exact (cat_inj (by decide) (by decide) e).1
    · exact (cat_inj (by decide) (by decide) e).1
  exact h (List.mem_map.mpr ⟨x, hx, this.symm⟩)
theorem new_minus {cs : List (Str × V)} {rs : List Rd} {r : Rd} {l : Lane} (hl : l.key = r.name ++ ("+" : Str)) (h : r.name ∉ rs.map (·.name)) : r.name ++ ("-" : Str) ∉ (lanesD cs rs ++ [l]).map (·.key) := by
  intro q
  rw [List.map_append] at q
  rcases List.mem_append.mp q with q | q
  · obtain ⟨x, hx, e⟩ := lane_keys q
    have : r.name = x.name := by
      rcases e with e | e
      · exact (cat_inj (by decide) (by decide) e).1
      · exact (cat_inj (by decide) (by decide) e).1
    exact h (List.mem_map.mpr ⟨x, hx, this.symm⟩)
  · have e : r.name ++ ("-" : Str) = l.key := List.mem_singleton.mp q
    rw [hl] at e
    exact absurd (cat_inj (by decide) (by decide) e).2 (by decide)
theorem lanesD_snoc (cs : List (Str × V)) (rs : List Rd) (r : Rd) : lanesD cs (rs ++ [r]) = lanesD cs rs ++ lanesR cs r := by unfold lanesD; rw [List.flatMap_append]; simp
theorem lanesD_len (cs : List (Str × V)) (rs : List Rd) : (lanesD cs rs).length ≤ 2 * rs.length := by
  induction rs with
  | nil => exact Nat.le_refl _
  | cons r t ih =>
    unfold lanesD at ih ⊢
    rw [List.flatMap_cons, List.length_append, List.length_cons]
    have : (lanesR cs r).length ≤ 2 := by unfold lanesR; split <;> simp
    omega
theorem flatV_kinds {cs : List (Str × V)} (h : ∀ c ∈ cs, KindV c.2) : (cs.map (·.2)).all flatV = true := by
  refine List.all_eq_true.mpr fun v hv => ?_
  obtain ⟨c, hc, rfl⟩ := List.mem_map.mp hv
  rcases h c hc with ⟨n, e, _⟩ | e | e <;> (rw [e]; rfl)
theorem kvOf_at {l : List (Str × V)} {i : Nat} {k : Key} {v : V} (h : (kvOf l)[i]? = some (k, v)) : ∃ c, l[i]? = some c ∧ k = .inr c.1 ∧ v = c.2 := by
  unfold kvOf at h
  rw [List.getElem?_map] at h
  cases e : l[i]? with
  | none => rw [e] at h; cases h
  | some c =>
    rw [e] at h
    have h := Option.some.inj h
    exact ⟨c, rfl, (congrArg Prod.fst h).symm, (congrArg Prod.snd h).symm⟩
theorem walk_itemsN {d : Addr} {o : Obj} {l : List (Str × V)} : Walk (Iti d o (kvOf l)) l.length (fun H => H d = some (.frz o (.dK (kvOf l)))) (fun i H x H' => ∃ T c, l[i]? = some c ∧ x = .ref T ∧ H T = none ∧ H' = L2.upd H T (.tup [.str c.1, c.2])) := by
  refine ⟨fun i H hi q => ⟨q, by rw [kvOf_len]; exact hi⟩, fun H q => ⟨q, by rw [kvOf_len]; exact Nat.le_refl _⟩, ?_⟩
  rintro i H x H' _ _ ⟨T, k, v, h1, h2, h3, h4⟩
  obtain ⟨c, hc, rfl, rfl⟩ := kvOf_at h1
  exact ⟨T, c, hc, h2, h3, h4⟩
theorem walk_valsN {d : Addr} {o : Obj} {l : List (Str × V)} : Walk (Itd d o (kvOf l)) l.length (fun H => H d = some (.frz o (.dK (kvOf l)))) (fun i H x H' => H' = H ∧ ∃ c, l[i]? = some c ∧ x = c.2) := by
  refine ⟨fun i H hi q => ⟨q, by rw [kvOf_len]; exact hi⟩, fun H q => ⟨q, by rw [kvOf_len]; exact Nat.le_refl _⟩, ?_⟩
  rintro i H x H' _ _ ⟨e, k, h1⟩
  obtain ⟨c, hc, rfl, rfl⟩ := kvOf_at h1
  exact ⟨e, c, hc, rfl⟩
theorem walk_keysN {d : Addr} {o : Obj} {l : List (Str × V)} : Walk (Itk d o (kvOf l)) l.length (fun H => H d = some (.frz o (.dK (kvOf l)))) (fun i H x H' => H' = H ∧ ∃ c, l[i]? = some c ∧ x = .str c.1) := by
  refine ⟨fun i H hi q => ⟨q, by rw [kvOf_len]; exact hi⟩, fun H q => ⟨q, by rw [kvOf_len]; exact Nat.le_refl _⟩, ?_⟩
  rintro i H x H' _ _ ⟨e, k, v, h1, h2⟩
  obtain ⟨c, hc, rfl, rfl⟩ := kvOf_at h1
  exact ⟨e, c, hc, h2⟩
theorem rkv_at {ros : List (RdO × Rd)} {i : Nat} {c : Str × V} (h : (rkv ros)[i]? = some c) : ∃ o, ros[i]? = some o ∧ c = (o.2.name, .ref o.1.ra) := by
  obtain ⟨o, ho, e⟩ := at_map h
  exact ⟨o, ho, e⟩
theorem rkv_len (ros : List (RdO × Rd)) : (rkv ros).length = ros.length := List.length_map _
end BL
set_option maxRecDepth 100000
set_option maxHeartbeats 1000000
namespace BL
open PySem PySem.Spec PyProof.Rows L2 SX He
/-- where each crossing stands among the names -/
def plD (cs : List (Str × V)) (i : Nat) : List (Str × V) := (List.range i).map fun j => (nameAt cs j, .int (j : Nat))
theorem plD_snoc (cs : List (Str × V)) (i : Nat) : plD cs (i + 1) = plD cs i ++ [(nameAt cs i, .int (i : Nat))] := by unfold plD; rw [List.range_succ, List.map_append]; rfl
theorem plD_keys (cs : List (Str × V)) (i : Nat) : (plD cs i).map (·.1) = (List.range i).map (nameAt cs) := by unfold plD; rw [List.map_map]; rfl
theorem plD_len (cs : List (Str × V)) (i : Nat) : (plD cs i).length = i := by unfold plD; rw [List.length_map, List.length_range]
theorem plD_new {cs : List (Str × V)} {rs : List Rd} (ok : WorldOk cs rs) {i : Nat} (h : i < cs.length) : nameAt cs i ∉ (plD cs i).map (·.1) := by
  rw [plD_keys]
  intro q
  obtain ⟨j, hj, e⟩ := List.mem_map.mp q
  have hj := List.mem_range.mp hj
  have := names_ne ok (by omega) h e
  omega
theorem plD_nd {cs : List (Str × V)} {rs : List Rd} (ok : WorldOk cs rs) : ((plD cs cs.length).map (·.1)).Nodup := by
  rw [plD_keys]
  exact nodup_mapI List.nodup_range fun a ha b hb e => names_ne ok (List.mem_range.mp ha) (List.mem_range.mp hb) e
theorem dget_place {H : Hp} {p : Addr} {cs : List (Str × V)} {rs : List Rd} (ok : WorldOk cs rs) {i : Nat} (h : i < cs.length) (hp : H p = some (.dK (kvOf (plD cs cs.length)))) : DGet H p (.str (nameAt cs i)) (some (.int (i : Nat))) := by
  have hm : (nameAt cs i, V.int (i : Nat)) ∈ plD cs cs.length := List.mem_map.mpr ⟨i, List.mem_range.mpr h, rfl⟩
  rw [← val_some hm (plD_nd ok)]
  exact DGet.k (k := .inr (nameAt cs i)) hp
theorem names_eq (cs : List (Str × V)) : (kvOf cs).map (fun kv => kV kv.1) = (List.range cs.length).map fun j => V.str (nameAt cs j) := by
  have e : (kvOf cs).map (fun kv => kV kv.1) = cs.map fun c => V.str c.1 := by unfold kvOf; rw [List.map_map]; rfl
  rw [e]
  apply List.ext_getElem
  · rw [List.length_map, List.length_map, List.length_range]
  · intro i h1 h2
    rw [List.length_map, List.length_range] at h2
    simp only [List.getElem_map, List.getElem_range]
    rw [nameAt_eq h2]
theorem name_at {cs : List (Str × V)} {i : Nat} (h : i < cs.length) : ((List.range cs.length).map fun j => V.str (nameAt cs j))[i]? = some (.str (nameAt cs i)) := by
  rw [List.getElem?_map, List.getElem?_range h]; rfl
/-- the groups as lists of names -/
def GlAt (cs : List (Str × V)) (H : Hp) (gl : List (Addr × List Nat)) : Prop := ∀ x ∈ gl, H x.1 = some (.lst (x.2.map fun j => .str (nameAt cs j)))
structure GlOk (n : Nat) (gs : List (List Nat)) : Prop where
  ne : ∀ g ∈ gs, g ≠ []
  lt : ∀ g ∈ gs, ∀ x ∈ g, x < n
  all : ∀ x, x < n → ∃ g ∈ gs, x ∈ g
  nd : gs.flatten.Nodup
theorem GlOk.of {L : List Nat} {n : Nat} {t : GTab} (h : TabOk L n t) : GlOk n (t.map (·.2.2)) := by
  refine ⟨fun g hg => ?_, fun g hg => ?_, fun x hx => ?_, ?_⟩
  · obtain ⟨e, he, rfl⟩ := List.mem_map.mp hg
    exact h.ne e he
  · obtain ⟨e, he, rfl⟩ := List.mem_map.mp hg
    exact h.lt e he
  · obtain ⟨e, he, hx⟩ := h.all x hx
    exact ⟨_, List.mem_map.mpr ⟨e, he, rfl⟩, hx⟩
  · have := h.nd
    rw [List.flatMap_def] at this
    exact this
theorem GlOk.len {n : Nat} {gs : List (List Nat)} (h : GlOk n gs) : gs.flatten.length ≤ n := by
  apply Decidable.byContradiction
  intro q
  obtain ⟨x, hx, hx2⟩ := pigeon (L := gs.flatten) (T := List.range n) h.nd (by rw [List.length_range]; omega)
  obtain ⟨g, hg, hxg⟩ := List.mem_flatten.mp hx
  exact hx2 (List.mem_range.mpr (h.lt g hg x hxg))
theorem ne_flat : ∀ {gs : List (List Nat)}, (∀ g ∈ gs, g ≠ []) → gs.length ≤ gs.flatten.length
  | [], _ => Nat.le_refl _
  | g :: r, h => by
    have h1 := ne_flat (gs := r) fun x hx => h x (List.mem_cons_of_mem _ hx)
    have h2 : 0 < g.length := List.length_pos_iff.mpr (h g List.mem_cons_self)
    rw [List.flatten_cons, List.length_append, List.length_cons]
    omega
theorem GlOk.cnt {n : Nat} {gs : List (List Nat)} (h : GlOk n gs) : gs.length ≤ n := Nat.le_trans (ne_flat h.ne) h.len
/-- each crossing's spot, as they are written down -/
def spD : Nat → List (List Nat) → List (Nat × Nat)
  | _, [] => []
  | j, g :: r => (g.map fun x => (x, j)) ++ spD (j + 1) r
theorem spD_snoc : ∀ {gs : List (List Nat)} {j : Nat} {g : List Nat}, spD j (gs ++ [g]) = spD j gs ++ g.map fun x => (x, j + gs.length)
  | [], j, g => by show (g.map fun x => (x, j)) ++ [] = [] ++ _; rw [List.append_nil]; rfl
  | h :: r, j, g => by
    show (h.map fun x => (x, j)) ++ spD (j + 1) (r ++ [g]) = ((h.map fun x => (x, j)) ++ spD (j + 1) r) ++ _
    rw [spD_snoc, List.append_assoc, List.length_cons, show j + 1 + r.length = j + (r.length + 1) by omega]
theorem spD_fst : ∀ {gs : List (List Nat)} {j : Nat}, (spD j gs).map (·.1) = gs.flatten
  | [], j => rfl
  | h :: r, j => by
    show ((h.map fun x => (x, j)) ++ spD (j + 1) r).map (·.1) = _
    rw [List.map_append, spD_fst, List.map_map, List.flatten_cons]
    congr 1
    exact List.map_id _
theorem spD_lt : ∀ {gs : List (List Nat)} {j : Nat}, ∀ p ∈ spD j gs, p.2 < j + gs.length
  | [], j, p, h => by cases h
  | g :: r, j, p, h => by
    rcases List.mem_append.mp h with q | q
    · obtain ⟨x, _, rfl⟩ := List.mem_map.mp q
      show j < _
      rw [List.length_cons]; omega
    · have := spD_lt p q
      rw [List.length_cons]; omega
def spV (cs : List (Str × V)) (ps : List (Nat × Nat)) : List (Str × V) := ps.map fun p => (nameAt cs p.1, .int (p.2 : Nat))
theorem spV_keys (cs : List (Str × V)) (ps : List (Nat × Nat)) : (spV cs ps).map (·.1) = (ps.map (·.1)).map (nameAt cs) := by unfold spV; rw [List.map_map, List.map_map]; rfl
theorem names_nd {cs : List (Str × V)} {rs : List Rd} (ok : WorldOk cs rs) {l : List Nat} (nd : l.Nodup) (lt : ∀ x ∈ l, x < cs.length) : (l.map (nameAt cs)).Nodup :=
  nodup_mapI nd fun a ha b hb e => names_ne ok (lt a ha) (lt b hb) e
/-- the spot of a crossing -/
theorem spot_get {H : Hp} {sd : Addr} {cs : List (Str × V)} {rs : List Rd} {gs : List (List Nat)} (ok : WorldOk cs rs) (g : GlOk cs.length gs) (h : H sd = some (.dK (kvOf (spV cs (spD 0 gs))))) {x : Nat} (hx : x < cs.length) :
    ∃ j, j < gs.length ∧ (x, j) ∈ spD 0 gs ∧ DGet H sd (.str (nameAt cs x)) (some (.int (j : Nat))) := by
  obtain ⟨gg, hg, hxg⟩ := g.all x hx
  have hm : x ∈ (spD 0 gs).map (·.1) := by rw [spD_fst]; exact List.mem_flatten.mpr ⟨gg, hg, hxg⟩
  obtain ⟨p, hp, e⟩ := List.mem_map.mp hm
  have hlt := spD_lt p hp
  subst e
  refine ⟨p.2, by omega, hp, ?_⟩
  have nd : ((spV cs (spD 0 gs)).map (·.1)).Nodup := by
    rw [spV_keys, spD_fst]
    refine names_nd ok g.nd fun y hy => ?_
    obtain ⟨q, hq, hy⟩ := List.mem_flatten.mp hy
    exact g.lt q hq y hy
  have hv := val_some (l := spV cs (spD 0 gs)) (c := (nameAt cs p.1, V.int (p.2 : Nat))) (List.mem_map.mpr ⟨p, hp, rfl⟩) nd
  rw [← hv]
  exact DGet.k (k := .inr (nameAt cs p.1)) h
/-- the labels behind all one-way streets -/
def uniteR (L : List Nat) (r : Rd) : List Nat := if r.two = true then L else uniteL L r.a r.b
def labsOf (n : Nat) (rs : List Rd) : List Nat := rs.foldl uniteR (List.range n)
theorem labsOf_snoc (n : Nat) (rs : List Rd) (r : Rd) : labsOf n (rs ++ [r]) = uniteR (labsOf n rs) r := by unfold labsOf; rw [List.foldl_append]; rfl
theorem foldl_len : ∀ {rs : List Rd} {L : List Nat}, (rs.foldl uniteR L).length = L.length
  | [], L => rfl
  | r :: t, L => by
    show (t.foldl uniteR (uniteR L r)).length = _
    rw [foldl_len]
    unfold uniteR
    split
    · rfl
    · exact uniteL_len _ _ _
theorem labsOf_len (n : Nat) (rs : List Rd) : (labsOf n rs).length = n := by unfold labsOf; rw [foldl_len, List.length_range]
theorem ne_ins {C C' dx dx' : Addr} {fs fs' : List (Str × V)} (h : fs.length ≠ fs'.length) : HO.ins C dx fs ≠ HO.ins C' dx' fs' := by
  intro q
  injection q with _ _ q
  exact h (by rw [q])
theorem sp_new {n : Nat} {gs : List (List Nat)} (h : GlOk n gs) {i j : Nat} {g : List Nat} {x : Nat} (hg : gs[i]? = some g) (hx : g[j]? = some x) : x ∉ (gs.take i).flatten ++ g.take j ∧ ((gs.take i).flatten ++ g.take j).length < n := by
  have hi := List.getElem?_eq_some_iff.mp hg
  have hj := List.getElem?_eq_some_iff.mp hx
  have e1 : gs = gs.take i ++ g :: gs.drop (i + 1) := by
    obtain ⟨h1, h2⟩ := hi
    rw [← h2]
    simp
  have e2 : g = g.take j ++ x :: g.drop (j + 1) := by
    obtain ⟨h1, h2⟩ := hj
    rw [← h2]
    simp
  have e3 : gs.flatten = ((gs.take i).flatten ++ g.take j) ++ (x :: (g.drop (j + 1) ++ (gs.drop (i + 1)).flatten)) := by
    conv => lhs; rw [e1]
    rw [List.flatten_append, List.flatten_cons]
    conv => lhs; rw [e2]
    simp
  have nd := h.nd
  have ln := h.len
  rw [e3] at nd ln
  refine ⟨fun q => ?_, ?_⟩
  · exact (List.nodup_append.mp nd).2.2 x q x List.mem_cons_self rfl
  · rw [List.length_append, List.length_cons] at ln; omega
def gsOf (n : Nat) (rs : List Rd) : List (List Nat) := (gX (labsOf n rs) n).map (·.2)
def spotOf (gs : List (List Nat)) (x : Nat) : Nat := (((spD 0 gs).find? fun p => p.1 == x).map (·.2)).getD 0
theorem spot_eq {n : Nat} {gs : List (List Nat)} (g : GlOk n gs) {x j : Nat} (h : (x, j) ∈ spD 0 gs) : spotOf gs x = j := by
  have nd : ((spD 0 gs).map (·.1)).Nodup := by rw [spD_fst]; exact g.nd
  unfold spotOf
  cases e : (spD 0 gs).find? fun p => p.1 == x with
  | none => exact absurd (List.find?_eq_none.mp e (x, j) h) (by simp)
  | some q =>
    have h1 := List.find?_some e
    have h2 := List.mem_of_find?_eq_some e
    have : q = (x, j) := inj_of_nd nd h2 h (beq_iff_eq.mp h1)
    rw [this]
    rfl
theorem spot_at {H : Hp} {sd : Addr} {cs : List (Str × V)} {rs : List Rd} {gs : List (List Nat)} (ok : WorldOk cs rs) (g : GlOk cs.length gs) (h : H sd = some (.dK (kvOf (spV cs (spD 0 gs))))) {x : Nat} (hx : x < cs.length) :
    spotOf gs x < gs.length ∧ DGet H sd (.str (nameAt cs x)) (some (.int (spotOf gs x : Nat))) := by
  obtain ⟨j, hj, hm, hd⟩ := spot_get ok g h hx
  rw [spot_eq g hm]
  exact ⟨hj, hd⟩
def addD (ds : List Int) (p q : Nat) : List Int := (ds.set p (ds.getD p 0 + 1)).set q ((ds.set p (ds.getD p 0 + 1)).getD q 0 + 1)
theorem addD_len (ds : List Int) (p q : Nat) : (addD ds p q).length = ds.length := by unfold addD; rw [List.length_set, List.length_set]
def addDeg (gs : List (List Nat)) (ds : List Int) (r : Rd) : List Int := if r.two = true then addD ds (spotOf gs r.a) (spotOf gs r.b) else ds
def degsOf (gs : List (List Nat)) (rs : List Rd) : List Int := rs.foldl (addDeg gs) (List.replicate gs.length 0)
theorem degs_snoc (gs : List (List Nat)) (rs : List Rd) (r : Rd) : degsOf gs (rs ++ [r]) = addDeg gs (degsOf gs rs) r := by unfold degsOf; rw [List.foldl_append]; rfl
theorem addDeg_len (gs : List (List Nat)) (ds : List Int) (r : Rd) : (addDeg gs ds r).length = ds.length := by
  unfold addDeg
  split
  · exact addD_len _ _ _
  · rfl
theorem degs_len (gs : List (List Nat)) : ∀ rs : List Rd, (degsOf gs rs).length = gs.length := by
  intro rs
  unfold degsOf
  have : ∀ (rs : List Rd) (ds : List Int), (rs.foldl (addDeg gs) ds).length = ds.length := by
    intro rs
    induction rs with
    | nil => intro ds; rfl
    | cons r t ih => intro ds; show (t.foldl (addDeg gs) (addDeg gs ds r)).length = _; rw [ih, addDeg_len]
  rw [this, List.length_replicate]
/-- a street's name and its two spots -/
abbrev Jn := Str × Nat × Nat
def joinsD (gs : List (List Nat)) (rs : List Rd) : List Jn := (rs.filter (·.two)).map fun r => (r.name, spotOf gs r.a, spotOf gs r.b)
def JnAt (H : Hp) (jl : List (Addr × Jn)) : Prop := ∀ x ∈ jl, H x.1 = some (.tup [.int (x.2.2.1 : Nat), .int (x.2.2.2 : Nat)])
def kindAt (cs : List (Str × V)) (i : Nat) : V := ((cs[i]?).map (·.2)).getD .non
theorem lab_of {n : Nat} : ∀ {rs : List Rd}, (∀ r ∈ rs, r.a < n ∧ r.b < n) → LabOk (labsOf n rs) := by
  have : ∀ (rs : List Rd) (L : List Nat), L.length = n → LabOk L → (∀ r ∈ rs, r.a < n ∧ r.b < n) → LabOk (rs.foldl uniteR L) := by
    intro rs
    induction rs with
    | nil => intro L _ h _; exact h
    | cons r t ih =>
      intro L hl h he
      obtain ⟨e1, e2⟩ := he r List.mem_cons_self
      show LabOk (t.foldl uniteR (uniteR L r))
      have hlen : (uniteR L r).length = n := by
        unfold uniteR
        split
        · exact hl
        · rw [uniteL_len]; exact hl
      refine ih _ hlen ?_ fun q hq => he q (List.mem_cons_of_mem _ hq)
      unfold uniteR
      split
      · exact h
      · exact lab_unite h (by omega) (by omega)
  intro rs he
  exact this rs _ List.length_range (lab_range n) he
structure LayO where
  a : Addr
  dx : Addr
  D : Addr
  sd : Addr
  jd : Addr
  dg : Addr
  kk : Addr
  gl : List (Addr × List Nat)
  jl : List (Addr × Jn)
/-- the layout as it stands -/
structure LayAt (K : PySem.W.Frag) (H : Hp) (l : LayO) (cs : List (Str × V)) (rs : List Rd) : Prop where
  hl : H l.a = some (.ins (ga K "Layout") l.dx [("groups", .ref l.D), ("spot_at", .ref l.sd), ("joins", .ref l.jd), ("degrees", .ref l.dg), ("kinds", .ref l.kk)])
  hD : H l.D = some (.lst (l.gl.map fun x => .ref x.1))
  hg : GlAt cs H l.gl
  eg : l.gl.map (·.2) = gsOf cs.length rs
  ok : GlOk cs.length (l.gl.map (·.2))
  hs : H l.sd = some (.dK (kvOf (spV cs (spD 0 (gsOf cs.length rs)))))
  hj : H l.jd = some (.dK (kvOf (l.jl.map fun x => (x.2.1, .ref x.1))))
  ja : JnAt H l.jl
  ej : l.jl.map (·.2) = joinsD (gsOf cs.length rs) rs
  hdg : H l.dg = some (.lst ((degsOf (gsOf cs.length rs) rs).map V.int))
  hkk : H l.kk = some (.lst ((gsOf cs.length rs).map fun g => kindAt cs (g.headD 0)))
theorem LayAt.kept {K : PySem.W.Frag} {H H1 : Hp} {l : LayO} {cs : List (Str × V)} {rs : List Rd} (h : LayAt K H l cs rs) (k : L2.Same H H1) : LayAt K H1 l cs rs :=
  ⟨k _ _ h.hl, k _ _ h.hD, fun x hx => k _ _ (h.hg x hx), h.eg, h.ok, k _ _ h.hs, k _ _ h.hj, fun x hx => k _ _ (h.ja x hx), h.ej, k _ _ h.hdg, k _ _ h.hkk⟩
end BL
set_option maxRecDepth 100000
set_option maxHeartbeats 2000000
namespace BL
open PySem PySem.Spec PyProof.Rows L2

structure FnG (P : Program) (w : World) (K : PySem.W.Frag) (mg : Str → Option Value) (base : Heap) (k : Nat) (f : Addr) (fd : FuncData) (ps : List Str) (sp : Sp) : Prop where
  len : ∀ vs H Q E, sp vs H Q E → vs.length = ps.length
  run : ∀ (A : Around) (outer : List Env) (s : Shared) (H : Hp) (args : Args) (us : List Value) (vs : List V) (Q : VK) (E : XK), Room k A → A.guards = some [] → Env0 P w K mg base A outer s H → BindsTo s fd args (ps.zip us) → Vals vs us → sp vs H Q E →
    codeAny (model P w) A (.call (.ref f) args) (CR C8.CX0 outer P w H s Q E) s
variable {P : Program} {w : World} {K : PySem.W.Frag} {mg : Str → Option Value} {base : Heap}
theorem fnG_of {x qual : Str} {st : Stmt} {f : Addr} {fd : FuncData} {N ps : List Str} {k : Nat} {sp : Sp} (F : FunD K x qual (defArgs st) (defBody st) (defScope st) [] [] f fd) (S : FnScope N ps (defScope st))
    (len : ∀ vs H Q E, sp vs H Q E → vs.length = ps.length)
    (hbody : ∀ (cdv : Value) (A : Around) (outer : List Env) (s : Shared) (H : Hp) (vs : List V) (Q : VK) (E : XK), Room k (A.deeper (envOfC qual (defScope st) s.heap.objs.size f cdv)) → A.guards = some [] → sp vs H Q E →
      ∃ t, PSs (cxOf C8.CX0 P w K mg base N qual (defScope st) f cdv A outer s H E).nox (defBody st) t ∧ t { nx := fun _ H' => Q .non H', rt := Q } (start N vs) H) : FnG P w K mg base (k + 1) f fd ps sp := by
  refine ⟨len, fun A outer s H args us vs Q E hr hgd e0 hb r hsp => ?_⟩
  obtain ⟨oc, od, dV, kV, doc, pm, an, cdv, ct, osl, rfl, lk, hcd, _, _⟩ := F.ex
  have hl := len _ _ _ _ hsp
  have KX : K.In s.heap := e0.mod.kin.keeps fun b o e => (e0.bs b o e).1
  have lim : s.heap.NoLimit := e0.mod.nolimit.keeps fun b o e => (e0.bs b o e).1
  have hkind : ∀ y ∈ ps.zip us, (defScope st).names.lookup y.1 = some .local ∨ ((defScope st).names.lookup y.1 = some .cell ∧ ((cellsFrom (s.heap.objs.size + 1) (defScope st).names []).lookup y.1).isSome = true) := fun ⟨n, v⟩ hy => by
    rcases S.par n (List.of_mem_zip hy).1 with q | q
    · exact .inl q
    · exact .inr ⟨q, PySem.W.cellsFrom_some _ _ _ (.inl q)⟩
  refine codeAny_call_function hr.depth (KX _ _ lk) rfl S.co S.gen rfl (PySem.W.codeRec_of KX hcd) (hb _ _ _ _ ?_)
  refine wpAny_newFunctionEnv_cells S.kind hkind fun env he s1 x => ?_
  subst he
  refine ⟨lim.keeps x.toInCall.keep, codeAny_func ?_⟩
  obtain ⟨t, ht, hq⟩ := hbody cdv A outer s H vs Q E (hr.deeper _) hgd hsp
  have I : Inv (cxOf C8.CX0 P w K mg base N qual (defScope st) f cdv A outer s H E) [] (start N vs) H s1 := inv_start S hr.hd e0 hl r x
  refine wpAny_mono (ht.nox.run [] s1 (start N vs) H _ I hq) (fun fl s' hs => ?_) fun e s' hs => hs
  have fin : ∀ {σ' : L2.St} {H' : Hp} {v : V} {u : Value}, Inv (cxOf C8.CX0 P w K mg base N qual (defScope st) f cdv A outer s H E) [] σ' H' s' → RelV v u → Q v H' → CE outer P w H s Q u s' :=
    fun {σ' H' v u} J rv q => ⟨v, H', J.os, J.bare, J.base, J.hok, rv, q⟩
  cases fl with
  | ret u =>
    obtain ⟨v, σ', H', J, rv, q⟩ := hs
    exact fin J rv q
  | next =>
    obtain ⟨σ', H', J, q⟩ := hs
    exact fin (v := V.non) (u := Value.none) J rfl q
  | brk =>
    obtain ⟨_, _, _, q⟩ := hs
    exact False.elim q
  | cont =>
    obtain ⟨_, _, _, q⟩ := hs
    exact False.elim q
section
variable {X : Cx} {k j : Nat} {x : Str} {sp : Sp} {p pos : Pos} {e : Expr} {es : List Expr} {t : TA}
end
end BL
set_option maxRecDepth 100000
set_option maxHeartbeats 1000000
namespace BL
open PySem PySem.Spec PyProof.Rows L2 SX He
end BL
set_option maxRecDepth 100000
set_option maxHeartbeats 1000000
namespace BL
open PySem PySem.Spec PyProof.Rows L2 SX He
end BL
set_option maxRecDepth 100000
set_option maxHeartbeats 1000000
namespace BL
open PySem PySem.Spec PyProof.Rows L2 SX He
section
variable {P : Program} {w : World} {K : PySem.W.Frag} {mg : Str → Option Value} {base : Heap}
end
section
variable {X : Cx} {k j : Nat} {C : Addr} {x m : Str} {sp : Sp} {ks : List Str} {gV : List V → List V → List V} {p pos apos : Pos} {e o : Expr} {es : List Expr} {kws : List Keyword} {ta : TE} {t tk : TA}
end
end BL
set_option maxRecDepth 100000
set_option maxHeartbeats 1000000
namespace BL
open PySem PySem.Spec PyProof.Rows L2 SX He
end BL
set_option maxRecDepth 100000
set_option maxHeartbeats 1000000
namespace BL
open PySem PySem.Spec PyProof.Rows L2 SX He
structure NewR (r : Rd) : Prop where
  nm : NameOk r.name
  rm : 1 ≤ r.f ∧ r.f ≤ 60 ∧ 1 ≤ r.k ∧ r.k ≤ 60 ∧ r.l ≤ 9 ∧ 1 ≤ r.r ∧ r.r ≤ 3
theorem world_round {cs cs' : List (Str × V)} {rs rs' news : List Rd} {l : List Nat} (ok : WorldOk cs rs) (l2 : 2 ≤ l.length) (l4 : l.length ≤ 4) (lnd : l.Nodup) (lm : ∀ x ∈ l, x < cs.length)
    (cn : cs'.map (·.1) = cs.map (·.1)) (ck : ∀ c ∈ cs', KindV c.2) (cl : ∀ x ∈ l, (cs'[x]?).map (·.2) = some (.str "place"))
    (ce : ∀ x : Nat, (cs[x]?).map (·.2) = some (.str "place") → (cs'[x]?).map (·.2) = some (.str "place"))
    (p : rs'.Perm (rs ++ news)) (en : news.map (fun r => (r.a, r.b, r.two)) = rpairs l) (nn : ∀ r ∈ news, NewR r) (nd : (news.map (·.name)).Nodup) (nf : ∀ r ∈ news, r.name ∉ rs.map (·.name))
    (ow : (rs.filter (!·.two)).length + l.length ≤ 12) : WorldOk cs' rs' := by
  have R := rpairs_ok l2 l4 lnd
  have clen : cs'.length = cs.length := by have := congrArg List.length cn; rwa [List.length_map, List.length_map] at this
  have mem : ∀ r ∈ news, r.a ∈ l ∧ r.b ∈ l ∧ r.a ≠ r.b ∧ r.two = false := fun r hr => R.en (r.a, r.b, r.two) (by rw [← en]; exact List.mem_map.mpr ⟨r, hr, rfl⟩)
  have sp : ∀ {r}, r ∈ rs' → r ∈ rs ∨ r ∈ news := fun h => List.mem_append.mp (p.mem_iff.mp h)
  have fone : news.filter (!·.two) = news := filter_all fun r hr => by rw [(mem r hr).2.2.2]; rfl
  have ftwo : news.filter (·.two) = [] := filter_none fun r hr => (mem r hr).2.2.2
  have nl : news.length = l.length := by have := congrArg List.length en; rwa [List.length_map, R.ln] at this
  have p1 : (rs'.filter (!·.two)).Perm (rs.filter (!·.two) ++ news) := by
    have := p.filter (!·.two)
    rwa [List.filter_append, fone] at this
  have p2 : (rs'.filter (·.two)).Perm (rs.filter (·.two)) := by
    have := p.filter (·.two)
    rwa [List.filter_append, ftwo, List.append_nil] at this
  have nb : (news.map (·.a)).Perm (news.map (·.b)) := by
    have e1 : news.map (·.a) = (rpairs l).map (·.1) := by rw [← en, List.map_map]; rfl
    have e2 : news.map (·.b) = (rpairs l).map (·.2.1) := by rw [← en, List.map_map]; rfl
    rw [e1, e2]; exact R.bal
  refine ⟨by rw [clen]; exact ok.lo, by rw [clen]; exact ok.hi, ?_, by rw [cn]; exact ok.cd, ck, ?_, ?_, ?_, ?_, ?_, ?_, ?_, ?_, ?_⟩
  · intro c hc
    have : c.1 ∈ cs.map (·.1) := by rw [← cn]; exact List.mem_map.mpr ⟨c, hc, rfl⟩
    obtain ⟨d, hd, e⟩ := List.mem_map.mp this
    rw [← e]; exact ok.cn d hd
  · intro r hr
    rcases sp hr with h | h
    · exact ok.rn r h
    · exact (nn r h).nm
  · rw [(p.map (·.name)).nodup_iff, List.map_append]
    refine List.nodup_append.mpr ⟨ok.rd, nd, ?_⟩
    intro a ha b hb e
    obtain ⟨r, hr, e2⟩ := List.mem_map.mp hb
    exact nf r hr (by rw [e2, ← e]; exact ha)
  · intro r hr
    rcases sp hr with h | h
    · rw [clen]; exact ok.re r h
    · obtain ⟨h1, h2, h3, _⟩ := mem r h
      rw [clen]; exact ⟨lm _ h1, lm _ h2, h3⟩
  · intro r hr
    rcases sp hr with h | h
    · exact ok.rm r h
    · exact (nn r h).rm
  · rw [p2.length_eq]; exact ok.st
  · rw [p1.length_eq, List.length_append, nl]; exact ow
  · intro r hr hf
    rcases sp hr with h | h
    · exact ⟨ce _ (ok.pl r h hf).1, ce _ (ok.pl r h hf).2⟩
    · obtain ⟨h1, h2, _, _⟩ := mem r h
      exact ⟨cl _ h1, cl _ h2⟩
  · intro x hx
    obtain ⟨r, hr, e⟩ := ok.tch x (by omega)
    exact ⟨r, p.mem_iff.mpr (List.mem_append_left _ hr), e⟩
  · refine ((p1.map _).trans ?_).trans (p1.map _).symm
    rw [List.map_append, List.map_append]
    exact ok.bal.append nb
/-- the crossing in the middle of a round -/
theorem place_set {cs : List (Addr × Str × V)} {p : Addr} {i : Nat} {cx : Addr × Str × V} (hcx : cs[i]? = some cx) :
    ((cs.set i (p, cx.2.1, .str "place")).map (·.2.1) = cs.map (·.2.1)) ∧ ((∀ x ∈ cs, KindV x.2.2) → ∀ x ∈ cs.set i (p, cx.2.1, .str "place"), KindV x.2.2) ∧
    (((cs.set i (p, cx.2.1, .str "place"))[i]?).map (·.2.2) = some (.str "place")) ∧ (∀ y : Nat, (cs[y]?).map (·.2.2) = some (.str "place") → ((cs.set i (p, cx.2.1, .str "place"))[y]?).map (·.2.2) = some (.str "place")) := by
  have hi : i < cs.length := (List.getElem?_eq_some_iff.mp hcx).1
  refine ⟨?_, ?_, ?_, ?_⟩
  · rw [List.map_set]
    apply List.ext_getElem?
    intro j
    by_cases e : i = j
    · subst e
      rw [List.getElem?_set_self (by rw [List.length_map]; exact hi), List.getElem?_map, hcx]; rfl
    · rw [List.getElem?_set_ne e]
  · intro k x hx
    rcases List.mem_or_eq_of_mem_set hx with q | q
    · exact k x q
    · rw [q]; exact .inr (.inr rfl)
  · rw [List.getElem?_set_self hi]; rfl
  · intro y hy
    by_cases e : i = y
    · subst e
      rw [List.getElem?_set_self hi]; rfl
    · rw [List.getElem?_set_ne e]; exact hy
end BL
set_option maxRecDepth 100000
set_option maxHeartbeats 1000000
namespace BL
open PySem PySem.Spec PyProof.Rows L2 SX He
/-- no bag -/
def Cln (o : HO) : Prop := ∀ c i r, o ≠ .lst (.ref c :: .int i :: r)
def KpC (H H' : Hp) : Prop := ∀ a o, Cln o → H a = some o → H' a = some o
theorem Kp.c {b c : Addr} {H H' : Hp} (k : Kp b H H') (g : BagAt H b c) : KpC H H' := fun a o n h => k a o h (by
  rintro rfl
  obtain ⟨_, cs, i, g, m, n', h1, _⟩ := g
  exact n _ _ _ (Option.some.inj (h.symm.trans h1)))
theorem cln_vals {xs : List V} (h : ∀ v ∈ xs, ∀ c, v ≠ .ref c) : Cln (.lst xs) := by
  rintro c i r e
  injection e with e
  exact h (.ref c) (by rw [e]; exact List.mem_cons_self) c rfl
theorem cln_refs {α : Type} {f : α → Addr} (l : List α) : Cln (.lst (l.map fun x => .ref (f x))) := by
  rintro c i r e
  injection e with e
  match l, e with
  | [_], e => cases e
  | _ :: _ :: _, e =>
    injection e with _ e
    injection e with e _
    cases e
theorem cln_ints {α : Type} {f : α → Int} (l : List α) : Cln (.lst (l.map fun x => .int (f x))) := cln_vals fun v hv c e => by
  obtain ⟨x, _, rfl⟩ := List.mem_map.mp hv
  cases e
theorem cln_strs {α : Type} {f : α → Str} (l : List α) : Cln (.lst (l.map fun x => .str (f x))) := cln_vals fun v hv c e => by
  obtain ⟨x, _, rfl⟩ := List.mem_map.mp hv
  cases e
theorem cln_ins {k d : Addr} {xs : List (Str × V)} : Cln (.ins k d xs) := fun _ _ _ e => by cases e
theorem cln_tup {xs : List V} : Cln (.tup xs) := fun _ _ _ e => by cases e
theorem cln_dK {xs : List (Key × V)} : Cln (.dK xs) := fun _ _ _ e => by cases e
theorem LayAt.keptC {K : PySem.W.Frag} {H H1 : Hp} {l : LayO} {cs : List (Str × V)} {rs : List Rd} (ok : WorldOk cs rs) (h : LayAt K H l cs rs) (k : KpC H H1) : LayAt K H1 l cs rs :=
  ⟨k _ _ cln_ins h.hl, k _ _ (cln_refs _) h.hD, fun x hx => k _ _ (cln_strs _) (h.hg x hx), h.eg, h.ok, k _ _ cln_dK h.hs, k _ _ cln_dK h.hj, fun x hx => k _ _ cln_tup (h.ja x hx), h.ej, k _ _ (cln_ints _) h.hdg, k _ _ (cln_vals fun v hv c e => by
    obtain ⟨g, hg, rfl⟩ := List.mem_map.mp hv
    have hlt : g.headD 0 < cs.length := by
      rw [← h.eg] at hg
      cases g with
      | nil => have := ok.lo; show 0 < _; omega
      | cons x r => exact h.ok.lt _ hg x List.mem_cons_self
    unfold kindAt at e
    rw [List.getElem?_eq_getElem hlt] at e
    have e : (cs[g.headD 0]'hlt).2 = .ref c := e
    rcases ok.ck _ (List.getElem_mem hlt) with ⟨n, q, _⟩ | q | q <;> rw [q] at e <;> cases e) h.hkk⟩
theorem RoadAt.keptC {K : PySem.W.Frag} {H H1 : Hp} {cs : List (Str × V)} {o : RdO × Rd} (h : RoadAt K H cs o) (k : KpC H H1) : RoadAt K H1 cs o := ⟨k _ _ cln_ins h.1, k _ _ (cln_ints _) h.2⟩
theorem LanesAt.keptC {H H1 : Hp} {la : List (Addr × Lane)} (h : LanesAt H la) (k : KpC H H1) : LanesAt H1 la := fun x hx => k _ _ cln_tup (h x hx)
theorem WAt.keptC {H H1 : Hp} {w pc pr : Addr} {cs : List (Addr × Str × V)} {rs : List (Addr × Rd)} (h : WAt H w pc pr cs rs) (k : KpC H H1) : WAt H1 w pc pr cs rs :=
  ⟨k _ _ (fun _ _ _ e => by cases e) h.hw, k _ _ (cln_refs _) h.hc, k _ _ (cln_refs _) h.hr, h.ca.kept fun a xs e => k a _ cln_tup e, h.ra.kept fun a xs e => k a _ cln_tup e⟩
end BL
set_option maxRecDepth 100000
set_option maxHeartbeats 1000000
namespace BL
open PySem PySem.Spec PyProof.Rows L2 SX He
theorem lone {n x : Nat} (hx : x < n) : ∀ {rs : List Rd}, (∀ r ∈ rs, r.a < n ∧ r.b < n) → (∀ r ∈ rs, r.two = false → r.a ≠ x ∧ r.b ≠ x) → lb (labsOf n rs) x = x ∧ ∀ y, y < n → lb (labsOf n rs) y = x → y = x := by
  have key : ∀ (rs : List Rd) (L : List Nat), L.length = n → (lb L x = x ∧ ∀ y, y < n → lb L y = x → y = x) → (∀ r ∈ rs, r.a < n ∧ r.b < n) → (∀ r ∈ rs, r.two = false → r.a ≠ x ∧ r.b ≠ x) → lb (rs.foldl uniteR L) x = x ∧ ∀ y, y < n → lb (rs.foldl uniteR L) y = x → y = x := by
    intro rs
    induction rs with
    | nil => intro L _ h _ _; exact h
    | cons r t ih =>
      intro L hl h he hn
      refine ih (uniteR L r) (by unfold uniteR; split; exact hl; rw [uniteL_len]; exact hl) ?_ (fun q hq => he q (List.mem_cons_of_mem _ hq)) (fun q hq => hn q (List.mem_cons_of_mem _ hq))
      unfold uniteR
      split
      · exact h
      · rename_i htw
        obtain ⟨na, nb⟩ := hn r List.mem_cons_self (by simpa using htw)
        obtain ⟨ea, eb⟩ := he r List.mem_cons_self
        obtain ⟨h1, h2⟩ := h
        have la : lb L r.a ≠ x := fun q => na (h2 _ ea q)
        have lb' : lb L r.b ≠ x := fun q => nb (h2 _ eb q)
        unfold uniteL
        split
        · exact ⟨h1, h2⟩
        · have la : L.getD r.a 0 ≠ x := la
          have lb' : L.getD r.b 0 ≠ x := lb'
          generalize L.getD r.a 0 = p at la
          generalize L.getD r.b 0 = q at lb'
          refine ⟨?_, fun y hy => ?_⟩
          · rw [lb_map (by omega), h1, if_neg (by omega)]
          · rw [lb_map (by omega)]
            split
            · intro e; omega
            · exact h2 y hy
  intro rs he hn
  refine key rs (List.range n) (List.length_range ..) ?_ he hn
  have hk : ∀ k, k < n → lb (List.range n) k = k := fun k hk => by
    unfold lb
    rw [List.getD_eq_getElem?_getD, List.getElem?_range hk]; rfl
  exact ⟨hk x hx, fun y hy e => by rw [hk y hy] at e; exact e⟩
theorem two_of {l : List Nat} (h : 1 < l.length) (nd : l.Nodup) (z : Nat) : ∃ y ∈ l, y ≠ z := by
  match l, h, nd with
  | a :: b :: _, _, nd =>
    by_cases e : a = z
    · refine ⟨b, by simp, fun q => ?_⟩
      exact (List.nodup_cons.mp nd).1 (by rw [e, ← q]; simp)
    · exact ⟨a, by simp, e⟩
theorem touched {n : Nat} {rs : List Rd} (he : ∀ r ∈ rs, r.a < n ∧ r.b < n) {g : List Nat} (hg : g ∈ gsOf n rs) (h1 : 1 < g.length) {z : Nat} (hz : z ∈ g) : ∃ r ∈ rs, r.two = false ∧ (r.a = z ∨ r.b = z) := by
  obtain ⟨e, he', rfl⟩ := List.mem_map.mp hg
  obtain ⟨h, hh, rfl⟩ := List.mem_map.mp he'
  have hz : z ∈ mems (labsOf n rs) n h := hz
  have h1 : 1 < (mems (labsOf n rs) n h).length := h1
  have nd : (mems (labsOf n rs) n h).Nodup := List.nodup_range.filter _
  obtain ⟨y, hy, ne⟩ := two_of h1 nd z
  obtain ⟨hz1, hz2⟩ := List.mem_filter.mp hz
  obtain ⟨hy1, hy2⟩ := List.mem_filter.mp hy
  have hz1 := List.mem_range.mp hz1
  have hy1 := List.mem_range.mp hy1
  have hz2 := beq_iff_eq.mp hz2
  have hy2 := beq_iff_eq.mp hy2
  apply Decidable.byContradiction
  intro no
  have := lone hz1 he fun r hr hf => ⟨fun q => no ⟨r, hr, hf, .inl q⟩, fun q => no ⟨r, hr, hf, .inr q⟩⟩
  refine ne (this.2 y hy1 ?_)
  rw [hy2, ← hz2, this.1]
end BL
set_option maxRecDepth 100000
set_option maxHeartbeats 1000000
namespace BL
open PySem PySem.Spec PyProof.Rows L2 SX He
structure RdSt (H H1 : Hp) (b c p1 p2 : Addr) (cs : List (Addr × Str × V)) (rs : List (Addr × Rd)) : Prop where
  kp : Kp b H H1
  bag : BagAt H1 b c
  n1 : H p1 = none
  n2 : H p2 = none
  e12 : p1 ≠ p2
  b1 : p1 ≠ b
  b2 : p2 ≠ b
  c1 : p1 ≠ c
  c2 : p2 ≠ c
  h1 : H1 p1 = some (.lst (cs.map fun x => .ref x.1))
  h2 : H1 p2 = some (.lst (rs.map fun x => .ref x.1))
  ca : CrossAt H1 cs
  ra : RoadsAt H1 rs
section
variable {H H1 H2 : Hp} {b c p1 p2 : Addr} {cs : List (Addr × Str × V)} {rs : List (Addr × Rd)}
theorem RdSt.step (h : RdSt H H1 b c p1 p2 cs rs) (k : Kp b H1 H2) (g : BagAt H2 b c) : RdSt H H2 b c p1 p2 cs rs :=
  ⟨h.kp.trans k, g, h.n1, h.n2, h.e12, h.b1, h.b2, h.c1, h.c2, k _ _ h.h1 h.b1, k _ _ h.h2 h.b2, h.ca.kept (.kp k h.bag), h.ra.kept (.kp k h.bag)⟩
theorem RdSt.new (h : RdSt H H1 b c p1 p2 cs rs) {p : Addr} {o : HO} (n : H1 p = none) : RdSt H (L2.upd H1 p o) b c p1 p2 cs rs := h.step (Kp.new n) (h.bag.new n)
theorem RdSt.put (h : RdSt H H1 b c p1 p2 cs rs) {p : Addr} {o : HO} (n : H p = none) (np : H1 p = none ∨ ∃ ys, H1 p = some (.lst ys)) (e1 : p ≠ p1) (e2 : p ≠ p2) (eb : p ≠ b) (ec : p ≠ c) : RdSt H (L2.upd H1 p o) b c p1 p2 cs rs := by
  have kt : KpT H1 (L2.upd H1 p o) := by
    rcases np with q | ⟨ys, q⟩
    · exact .new q
    · exact .put q
  exact ⟨h.kp.put n, h.bag.put eb ec, h.n1, h.n2, h.e12, h.b1, h.b2, h.c1, h.c2, (upd_ne e1.symm).trans h.h1, (upd_ne e2.symm).trans h.h2, h.ca.kept kt, h.ra.kept kt⟩
theorem RdSt.cross (h : RdSt H H1 b c p1 p2 cs rs) {q : Addr} {z : Str} {v : V} {i : Nat} (hq : H1 q = some (.tup [.str z, v])) :
    RdSt H (L2.upd H1 p1 (.lst ((cs.map fun x => V.ref x.1).set i (.ref q)))) b c p1 p2 (cs.set i (q, z, v)) rs := by
  have kt : KpT H1 (L2.upd H1 p1 (.lst ((cs.map fun x => V.ref x.1).set i (.ref q)))) := .put h.h1
  refine ⟨h.kp.put h.n1, h.bag.put h.b1 h.c1, h.n1, h.n2, h.e12, h.b1, h.b2, h.c1, h.c2, ?_, (upd_ne h.e12.symm).trans h.h2, ?_, h.ra.kept kt⟩
  · rw [upd_same, List.map_set]
  · intro x hx
    rcases List.mem_or_eq_of_mem_set hx with w | w
    · exact kt _ _ (h.ca x w)
    · rw [w]; exact kt _ _ hq
theorem RdSt.road (h : RdSt H H1 b c p1 p2 cs rs) {q : Addr} {r : Rd} {t : Nat} (hq : H1 q = some (.tup r.tup)) :
    RdSt H (L2.upd H1 p2 (.lst ((rs.map fun x => V.ref x.1).take t ++ [.ref q] ++ (rs.map fun x => V.ref x.1).drop t))) b c p1 p2 cs (rs.take t ++ [(q, r)] ++ rs.drop t) := by
  have kt : KpT H1 (L2.upd H1 p2 (.lst ((rs.map fun x => V.ref x.1).take t ++ [.ref q] ++ (rs.map fun x => V.ref x.1).drop t))) := .put h.h2
  refine ⟨h.kp.put h.n2, h.bag.put h.b2 h.c2, h.n1, h.n2, h.e12, h.b1, h.b2, h.c1, h.c2, (upd_ne h.e12).trans h.h1, ?_, h.ca.kept kt, ?_⟩
  · rw [upd_same, List.map_append, List.map_append, List.map_take, List.map_drop]; rfl
  · intro x hx
    rcases List.mem_append.mp hx with w | w
    · rcases List.mem_append.mp w with w | w
      · exact kt _ _ (h.ra x (List.mem_of_mem_take w))
      · rw [List.mem_singleton.mp w]; exact kt _ _ hq
    · exact kt _ _ (h.ra x (List.mem_of_mem_drop w))
end
structure InSt (cs cs1 : List (Addr × Str × V)) (rs rs1 : List (Addr × Rd)) (l : List Nat) (ns : List Str) (j : Nat) (news : List Rd) : Prop where
  p : (rs1.map (·.2)).Perm (rs.map (·.2) ++ news)
  en : news.map (fun r => (r.a, r.b, r.two)) = (rpairs l).take j
  nn : news.map (·.name) = ns.take j
  nm : ∀ r ∈ news, NewR r
  cn : cs1.map (·.2.1) = cs.map (·.2.1)
  ck : ∀ x ∈ cs1, KindV x.2.2
  cl : ∀ x ∈ l.take j, (cs1[x]?).map (·.2.2) = some (.str "place")
  ce : ∀ y : Nat, (cs[y]?).map (·.2.2) = some (.str "place") → (cs1[y]?).map (·.2.2) = some (.str "place")
theorem InSt.zero {cs : List (Addr × Str × V)} {rs : List (Addr × Rd)} {l : List Nat} {ns : List Str} (ck : ∀ x ∈ cs, KindV x.2.2) : InSt cs cs rs rs l ns 0 [] :=
  ⟨by simp, rfl, rfl, nofun, rfl, ck, nofun, fun _ h => h⟩
theorem InSt.succ {cs cs1 : List (Addr × Str × V)} {rs rs1 : List (Addr × Rd)} {l : List Nat} {ns : List Str} {j : Nat} {news : List Rd} (h : InSt cs cs1 rs rs1 l ns j news) (hj : j < l.length)
    {z : Str} (hz : ns[j]? = some z) {r : Rd} (er : r.name = z) (ea : (r.a, r.b, r.two) = (l.getD ((j + l.length - 1) % l.length) 0, l.getD j 0, false)) (nr : NewR r) {q q' : Addr} {t : Nat} {cx : Addr × Str × V} (hcx : cs1[l.getD j 0]? = some cx) :
    InSt cs (cs1.set (l.getD j 0) (q', cx.2.1, .str "place")) rs (rs1.take t ++ [(q, r)] ++ rs1.drop t) l ns (j + 1) (news ++ [r]) := by
  obtain ⟨f1, f2, f3, f4⟩ := place_set (p := q') hcx
  refine ⟨?_, ?_, ?_, ?_, f1.trans h.cn, f2 h.ck, ?_, fun y hy => f4 y (h.ce y hy)⟩
  · have p1 : (rs1.take t ++ [(q, r)] ++ rs1.drop t).Perm (rs1 ++ [(q, r)]) := by
      have h1 : (rs1.take t ++ [(q, r)] ++ rs1.drop t).Perm (rs1.take t ++ (rs1.drop t ++ [(q, r)])) := by
        rw [List.append_assoc]
        exact List.perm_append_comm.append_left _
      rwa [← List.append_assoc, List.take_append_drop] at h1
    have p2 := p1.map (·.2)
    rw [List.map_append (l₁ := rs1)] at p2
    refine p2.trans ?_
    rw [← List.append_assoc]
    exact h.p.append_right _
  · rw [List.map_append, h.en, take_snoc (x := (r.a, r.b, r.two)) (by unfold rpairs; rw [List.getElem?_map, List.getElem?_range hj, ea]; rfl)]
    rfl
  · rw [List.map_append, h.nn, take_snoc hz, ← er]; rfl
  · intro x hx
    rcases List.mem_append.mp hx with w | w
    · exact h.nm x w
    · rw [List.mem_singleton.mp w]; exact nr
  · intro x hx
    have hl : l[j]? = some (l.getD j 0) := by rw [List.getD_eq_getElem?_getD, List.getElem?_eq_getElem hj]; rfl
    rw [take_snoc hl] at hx
    rcases List.mem_append.mp hx with w | w
    · exact f4 x (h.cl x w)
    · rw [List.mem_singleton.mp w]; exact f3
theorem InSt.fin {cs cs1 : List (Addr × Str × V)} {rs rs1 : List (Addr × Rd)} {l : List Nat} {ns : List Str} {news : List Rd} (ok : WorldOk (cs.map (·.2)) (rs.map (·.2))) (h : InSt cs cs1 rs rs1 l ns l.length news)
    (l2 : 2 ≤ l.length) (l4 : l.length ≤ 4) (lnd : l.Nodup) (lm : ∀ x ∈ l, x < cs.length) (nl : ns.length = l.length) (nnd : ns.Nodup) (nf : ∀ z ∈ ns, z ∉ (rs.map (·.2)).map (·.name))
    (ow : ((rs.map (·.2)).filter (!·.two)).length + l.length ≤ 12) : WorldOk (cs1.map (·.2)) (rs1.map (·.2)) := by
  have R := rpairs_ok l2 l4 lnd
  have en : news.map (fun r => (r.a, r.b, r.two)) = rpairs l := by rw [h.en, ← R.ln, List.take_length]
  have nn : news.map (·.name) = ns := by rw [h.nn, ← nl, List.take_length]
  have g : ∀ (cs : List (Addr × Str × V)) (y : Nat), ((cs.map (·.2))[y]?).map (·.2) = (cs[y]?).map (·.2.2) := fun cs y => by rw [List.getElem?_map, Option.map_map]; rfl
  refine world_round ok l2 l4 lnd (fun x hx => by rw [List.length_map]; exact lm x hx) ?_ ?_ ?_ ?_ h.p en h.nm ?_ ?_ ow
  · rw [List.map_map, List.map_map]; exact h.cn
  · intro x hx
    obtain ⟨y, hy, rfl⟩ := List.mem_map.mp hx
    exact h.ck y hy
  · intro x hx
    rw [g]; exact h.cl x (by rw [List.take_length]; exact hx)
  · intro x hx
    rw [g] at hx ⊢; exact h.ce x hx
  · rw [nn]; exact nnd
  · intro r hr
    exact nf _ (by rw [← nn]; exact List.mem_map.mpr ⟨r, hr, rfl⟩)
end BL
set_option maxRecDepth 100000
set_option maxHeartbeats 1000000
namespace BL
open PySem PySem.Spec PyProof.Rows L2 SX He
structure ShowOk (d : PyData) (dep len : Nat) : Prop where
  s : d.showable = true
  h : d.hasDict = false
  dp : d.depth ≤ dep
  l : d.shown.length ≤ len
theorem ShowOk.mono {d : PyData} {dep len dep' len' : Nat} (h : ShowOk d dep len) (h1 : dep ≤ dep') (h2 : len ≤ len') : ShowOk d dep' len' := ⟨h.s, h.h, Nat.le_trans h.dp h1, Nat.le_trans h.l h2⟩
end BL
set_option maxRecDepth 100000
set_option maxHeartbeats 1000000
namespace BL
open PySem PySem.Spec PyProof.Rows L2 SX He
end BL
set_option maxRecDepth 100000
set_option maxHeartbeats 4000000
namespace BL
open PySem PySem.Spec PyProof.Rows L2 SX He
def rs0 : List Rd := [⟨"s", 1, 0, 1, 2, 0, 1, true⟩, ⟨"t", 1, 0, 1, 2, 0, 1, true⟩, ⟨"u", 1, 0, 1, 2, 0, 1, true⟩]
end BL
set_option maxRecDepth 100000
set_option maxHeartbeats 1000000
namespace BL
open PySem PySem.Spec PyProof.Rows L2 SX He
section
variable {X : Cx} {k j : Nat} {C : Addr} {sp : Sp}
end
end BL
set_option maxRecDepth 100000
set_option maxHeartbeats 1000000
namespace BL
open PySem PySem.Spec PyProof.Rows L2 SX He
end BL
set_option maxRecDepth 100000
set_option maxHeartbeats 1000000
namespace BL
open PySem PySem.Spec PyProof.Rows L2 SX He
structure PtO where
  a : Addr
  m : Addr
  s : Addr
  ms : List Nat
  ss : List Str
def PtO.val (x : PtO) : List Nat × List Str := (x.ms, x.ss)
def PartsAt (H : Hp) (pl : List PtO) : Prop := ∀ x ∈ pl, H x.a = some (.tup [.ref x.m, .ref x.s]) ∧ H x.m = some (.lst (natV x.ms)) ∧ H x.s = some (.lst (x.ss.map .str))
theorem PartsAt.kept {H H1 : Hp} {pl : List PtO} (h : PartsAt H pl) (k : L2.Same H H1) : PartsAt H1 pl := fun x hx => ⟨k _ _ (h x hx).1, k _ _ (h x hx).2.1, k _ _ (h x hx).2.2⟩
theorem PartsAt.keptC {H H1 : Hp} {pl : List PtO} (h : PartsAt H pl) (k : KpC H H1) : PartsAt H1 pl := fun x hx => ⟨k _ _ cln_tup (h x hx).1, k _ _ (cln_ints _) (h x hx).2.1, k _ _ (cln_strs _) (h x hx).2.2⟩
end BL
set_option maxRecDepth 100000
set_option maxHeartbeats 1000000
namespace BL
open PySem PySem.Spec PyProof.Rows L2 SX He
end BL
set_option maxRecDepth 100000
set_option maxHeartbeats 1000000
namespace BL
open PySem PySem.Spec PyProof.Rows L2 SX He
end BL
set_option maxRecDepth 100000
set_option maxHeartbeats 200000
namespace BL
open PySem PySem.Spec PyProof.Rows L2
section
variable {prog : Program} {w : World} {A : Around} {R : Result → Shared → Prop} {hp : Heap} {g : Array GenState} {d : Drawn} {t : Nat} {os : OsState} {K : PySem.W.Frag} {name : Str} {tk : Tok} {v : Value} {x C : Addr} {cd : ClassData}
end
end BL
set_option maxRecDepth 100000
set_option maxHeartbeats 2000000
namespace PySem
namespace NoSuchX
open PySem.W PySem.Calls PyProof.Rows PySem.HandSPX
section
variable {prog : Program} {w : World} {A : Around} {E : Value → Shared → Prop} {R : Result → Shared → Prop} {s : Shared} {K : Frag} {mg : Str → Option Value} {C fI : Addr}
end
end NoSuchX
end PySem
namespace L2
open PySem PySem.Spec PyProof.Rows
section
variable {X : Cx} {C fI : Addr}
end
end L2
set_option maxRecDepth 100000
set_option maxHeartbeats 1000000
namespace BL
open PySem PySem.Spec PyProof.Rows L2 He
def eqTys : List Value → List String → Bool
  | [], [] => true
  | .type n :: r, m :: t => decide (n = m) && eqTys r t
  | _, _ => false
theorem eqTys_ok : ∀ {l : List Value} {t : List String}, eqTys l t = true → l = t.map Value.type
  | [], [], _ => rfl
  | .type n :: r, m :: t, h => by
    have h : (decide (n = m) && eqTys r t) = true := h
    obtain ⟨h1, h2⟩ := ba h
    rw [of_decide_eq_true h1, eqTys_ok h2]; rfl
  | [], _ :: _, h => by cases h
def excB (K : PySem.W.Frag) (C : Addr) (tail : List String) (newId : String) : Bool := match K.lookup C with
  | some ⟨.type t, _, .cls cd, sl⟩ => decide (t = "type") && (match cd.mro, sl.toList with
    | .ref C' :: bm, [_, _, _, _, some (.builtin n), _] => decide (C' = C) && (decide (n = newId) && (!cd.hasDel && (cd.hasDict && eqTys bm tail)))
    | _, _ => false)
  | _ => false
theorem excB_ok {K : PySem.W.Frag} {C : Addr} {tail : List String} {newId : String} (h : excB K C tail newId = true) :
    ∃ nm q N bs bm sn sub ab col dd k0 k1 k2 k3 k5, K.lookup C = some (excClassObj nm q C N bs bm true sn sub ab col dd k0 k1 k2 k3 k5 newId) ∧ bm = tail.map Value.type := by
  unfold excB at h
  split at h
  · rename_i t dd cd sl hC
    obtain ⟨ht, h⟩ := ba h
    have ht := of_decide_eq_true ht
    subst ht
    split at h
    · rename_i C' bm k0 k1 k2 k3 n k5 hm hs
      obtain ⟨_, h⟩ := ba h
      obtain ⟨h1, h⟩ := ba h
      obtain ⟨h2, h⟩ := ba h
      obtain ⟨h3, h⟩ := ba h
      obtain ⟨h4, h5⟩ := ba h
      have h1 := of_decide_eq_true h1
      have h2 := of_decide_eq_true h2
      obtain ⟨nm, bs, mro, N, q, hd, sn, sub, ab, col, del⟩ := cd
      have hm : mro = .ref C' :: bm := hm
      have h3 : (!del) = true := h3
      have h4 : hd = true := h4
      have hdel : del = false := by simpa using h3
      subst h1 h2 hm h4 hdel
      refine ⟨nm, q, N, bs, bm, sn, sub, ab, col, dd, k0, k1, k2, k3, k5, ?_, eqTys_ok h5⟩
      rw [hC]
      have : sl = #[k0, k1, k2, k3, some (.builtin n), k5] := by rw [← Array.toArray_toList (xs := sl), hs]
      rw [this]
    · cases h
  · cases h
end BL
set_option maxRecDepth 100000
set_option maxHeartbeats 1000000
namespace BL
open PySem PySem.Spec PyProof.Rows L2 SX He
structure CalX (P : Program) (w : World) (K : PySem.W.Frag) (mg : Str → Option Value) (base : Heap) (k : Nat) (x : Str) (sp : Sp) : Prop where
  ex : ∃ (f : Addr) (fd : FuncData) (ps : List Str), FnOk P w K mg base (L2.CX P w) k f fd ps sp ∧ mg x = some (.ref f) ∧ PySem.W.keepIn K (.ref f) = true ∧ Binds K fd ps []
structure MetX (P : Program) (w : World) (K : PySem.W.Frag) (mg : Str → Option Value) (base : Heap) (k : Nat) (C : Addr) (m : Str) (sp : Sp) : Prop where
  ex : ∃ (f : Addr) (fd : FuncData) (ps : List Str), Cls K C ∧ Meth K C m f ∧ FnOk P w K mg base (L2.CX P w) k f fd ps sp ∧ Binds K fd ps []
section
variable {P : Program} {w : World} {K : PySem.W.Frag} {mg : Str → Option Value} {base : Heap}
theorem calX_of {x : Str} {st : Stmt} {f : Addr} {N ps : List Str} {k : Nat} {sp : Sp} (F : ∃ fd, FunD K x x (defArgs st) (defBody st) (defScope st) [] [] f fd) (hm : mg x = some (.ref f)) (S : FnScope N ps (defScope st))
    (hb : ∀ (kV doc pm : Value) (an : Option Addr) (cdv ct : Value) (us : List Value), us.length = ps.length → bindArgs (PySem.W.fnOf x x (defArgs st) (defBody st) (defScope st) .none kV doc pm an cdv ct) ⟨us, []⟩ = pure (ps.zip us))
    (len : ∀ vs H Q E, sp vs H Q E → vs.length = ps.length)
    (hbody : ∀ (cdv : Value) (A : Around) (outer : List Env) (s : Shared) (H : Hp) (vs : List V) (Q : VK) (E : XK), Room k (A.deeper (envOfC x (defScope st) s.heap.objs.size f cdv)) → sp vs H Q E →
      ∃ t, PSs (cxOf (L2.CX P w) P w K mg base N x (defScope st) f cdv A outer s H E) (defBody st) t ∧ t { nx := fun _ H' => Q .non H', rt := Q } (start N vs) H) : CalX P w K mg base (k + 1) x sp := by
  obtain ⟨fd, F⟩ := F
  exact ⟨f, fd, ps, F.ok S len hbody, hm, F.kp, F.bindsN hb⟩
theorem metX_of {m qual : Str} {C : Addr} {st : Stmt} {f : Addr} {N ps : List Str} {k : Nat} {sp : Sp} (c : Cls K C) (me : Meth K C m f) (F : ∃ fd, FunD K m qual (defArgs st) (defBody st) (defScope st) [] [] f fd) (S : FnScope N ps (defScope st))
    (hb : ∀ (kV doc pm : Value) (an : Option Addr) (cdv ct : Value) (us : List Value), us.length = ps.length → bindArgs (PySem.W.fnOf m qual (defArgs st) (defBody st) (defScope st) .none kV doc pm an cdv ct) ⟨us, []⟩ = pure (ps.zip us))
    (len : ∀ vs H Q E, sp vs H Q E → vs.length = ps.length)
    (hbody : ∀ (cdv : Value) (A : Around) (outer : List Env) (s : Shared) (H : Hp) (vs : List V) (Q : VK) (E : XK), Room k (A.deeper (envOfC qual (defScope st) s.heap.objs.size f cdv)) → sp vs H Q E →
      ∃ t, PSs (cxOf (L2.CX P w) P w K mg base N qual (defScope st) f cdv A outer s H E) (defBody st) t ∧ t { nx := fun _ H' => Q .non H', rt := Q } (start N vs) H) : MetX P w K mg base (k + 1) C m sp := by
  obtain ⟨fd, F⟩ := F
  exact ⟨f, fd, ps, c, me, F.ok S len hbody, F.bindsN hb⟩
end
section
variable {X : Cx} {k j : Nat} {C : Addr} {x m : Str} {sp : Sp} {W : WX} {p pos apos : Pos} {e o : Expr} {es : List Expr} {ta : TE} {t : TA}
theorem pe_cX (c : CalX X.prog X.w X.K X.mg X.base k x sp) (hr : Room j X.A) (hk : k ≤ j) (tk : Takes X W) (hg : Gl X x) (ha : PA X (e :: es) t) (hdb : (x == ("__debug__" : Str)) = false := by decide)
    (he : starEach (e :: es) X.env = (false, eval e X.env) :: starEach es X.env := by rfl) (hpl : (backTo pos (starEach es X.env)).any (·.1) = false := by rfl) :
    PE X (.Call (.Name x p) (e :: es) [] pos) (tCallS sp (WE W) t) := by
  obtain ⟨f, fd, ps, F, hm, kp, b⟩ := c.ex
  exact pe_callS F (hr.mono hk) hg hm kp b (passAt tk) ha hdb he hpl
/-- o.m(..), what it lets out at the slots -/
def tMethS (C : Addr) (m : Str) (sp : Sp) (E : L2.St → XK) (ta : TE) (t : TA) : TE := fun σ H Q => ta σ H fun x H1 => ∃ a dx fs, x = .ref a ∧ H1 a = some (.ins C dx fs) ∧ fs.lookup m = none ∧
  t σ H1 fun vs H2 => sp (x :: vs) H2 Q (E σ)
theorem pe_mX {pl : Sem Bool} (c : MetX X.prog X.w X.K X.mg X.base k C m sp) (hr : Room j X.A) (hk : k ≤ j) (tk : Takes X W) (he : PE X o ta) (ha : PA X (e :: es) t)
    (hst : starEach (e :: es) X.env = (false, eval e X.env) :: starEach es X.env := by rfl) (hpl : (backTo pos (starEach es X.env)).any (·.1) = false := by rfl)
    (ht : eval (.Call (.Attribute o m apos) (e :: es) [] pos) X.env = (do
      let ov ← eval o X.env
      standAt apos.atName
      let (f, first) ← holding [ov] (getMethod ov m pl)
      callWith pos f first (backTo pos (starEach (e :: es) X.env)) (backToKw pos (keywordEach [] X.env))) := by rfl) :
    PE X (.Call (.Attribute o m apos) (e :: es) [] pos) (tMethS C m sp (WE W) ta t) := by
  obtain ⟨f, fd, ps, hc, hm, F, b⟩ := c.ex
  refine ⟨fun pins s σ H Q I h => ?_⟩
  refine PySem.W.methodCall_KW (pl := pl) (thn (he.run pins s σ H _ I h) fun u s1 ⟨x, H1, I1, rx, a, dx, fs, ex, ea, l, q⟩ => ?_) ht
  subst ex
  obtain rfl : u = Value.ref a := rx
  refine getmeth_ok I1 ea hc hm l ?_
  refine PySem.W.callWith_K (first := [.ref a]) (h₀ := X.base) I.ok.mod.kin hm.kp (thn (ha.run pos pins s1 σ H1 _ I1 q) fun us s2 ⟨vs, H2, I2, r, q2⟩ => ⟨I2.kIn, ?_⟩) hst hpl
  exact run_fnS (us := .ref a :: us) (vs := .ref a :: vs) F (hr.mono hk) b (passAt tk σ) I2 (.cons rfl r) q2
end
def isxB (K : PySem.W.Frag) (C : Addr) : Bool := eqO (PySem.W.findIn K (.ref C) "__class__") (some (some (.builtin "object.__class__"))) &&
  (eqO (PySem.W.specialIn K (.builtin "object.__class__") "__get__") (some (some (.builtin "getset_descriptor.__get__"))) &&
  (decide (PySem.W.takesIn K (.builtin "object.__class__") = some true) && decide (PySem.W.mroIn K C (.type "object") = some true)))
structure IsxC (K : PySem.W.Frag) (C : Addr) : Prop where
  ha : PySem.W.findIn K (.ref C) "__class__" = some (some (.builtin "object.__class__"))
  hn : PySem.W.specialIn K (.builtin "object.__class__") "__get__" = some (some (.builtin "getset_descriptor.__get__"))
  ht : PySem.W.takesIn K (.builtin "object.__class__") = some true
  hm : PySem.W.mroIn K C (.type "object") = some true
theorem isxB_ok {K : PySem.W.Frag} {C : Addr} (h : isxB K C = true) : IsxC K C := by
  obtain ⟨h1, h⟩ := ba h
  obtain ⟨h2, h⟩ := ba h
  obtain ⟨h3, h4⟩ := ba h
  exact ⟨eqO_ok h1, eqO_ok h2, of_decide_eq_true h3, of_decide_eq_true h4⟩
def kitB1 (K : PySem.W.Frag) (C : Addr) (c : Value) (b : Bool) : Bool := decide (PySem.W.kitOne K (.ref C) c = some b)
/-- isinstance(e, c), e the exception that the suite holds, of the class C -/
def rIsx (K : PySem.W.Frag) (cls : Value) (a C : Addr) : List V → Hp → VK → Prop := fun xs H Q => ∃ (c : V) (cv : Value) (b : Bool), xs = [.ref a, c] ∧ cls = .ref C ∧ (∀ u, RelV c u → u = cv) ∧ PySem.W.kitOne K (.ref C) cv = some b ∧ Q (.bl b) H
theorem call_isx {X : Cx} {a C : Addr} {oe : Obj} {cls : Value} {d : Option Addr} {pn : List (Addr × Obj)} (T : XfC X.K C) (U : IsxC X.K C) (hz : Zc cls d oe) (hf : ∃ vs, oe.data = .fields vs) :
    CallR (X.suite a ((a, oe) :: pn)) (.builtin "isinstance") (fun xs H Q => (∃ (dd : Addr) (fs : List (Str × V)), d = some dd ∧ H dd = some (.xd fs)) ∧ rIsx X.K cls a C xs H Q) := by
  intro pins s σ H xs us Q I r h
  obtain ⟨⟨dd, fs, ed, eH⟩, c, cv, b, rfl, ec, hcv, e, q⟩ := h
  subst ed ec
  cases r with
  | cons rx rr =>
    cases rr with
    | cons rt rr =>
      cases rr
      cases rx
      have ec := hcv _ rt
      subst ec
      obtain ⟨hget, _⟩ := I.pin (a, oe) (List.mem_append.mpr (.inl List.mem_cons_self))
      obtain ⟨vs, hv⟩ := hf
      have hx : ObjOk X.prog X.w H s.heap dd (.xd fs) := I.hok dd _ eH
      obtain ⟨mA, hns, hr⟩ := hx
      obtain ⟨od, ho, hl⟩ := lookIn_ns hns
      have J : PySem.W.InstAt s.heap a oe C (some od) := ⟨hget, hz.1, by unfold PySem.W.notCls; rw [hv] <;> rfl, by rw [hz.2]; exact ho⟩
      have hcl : (PySem.W.clsIn X.K C).isSome = true := by
        obtain ⟨cd, hc, _⟩ := PySem.W.any_some T.hdC
        rw [hc]; rfl
      exact PySem.W.kia_one (PySem.W.kitx_exc hcl T.ga T.gg T.exC U.ha U.hn U.ht U.hm) I.kIn J e (fun z => nomatch z) fun tk => ⟨.bl b, H, I.kept (t' := tk) fun _ _ z => z, rfl, q⟩
section
variable {P : Program} {w : World} {K : PySem.W.Frag} {mg : Str → Option Value} {base : Heap}
end
section
variable {X : Cx} {k j : Nat} {C : Addr} {x m : Str} {sp : Sp} {W : WX} {p pos apos : Pos} {e o : Expr} {ks : List Str} {kws : List Keyword} {ta : TE} {t tk : TA}
end
end BL
set_option maxRecDepth 100000
set_option maxHeartbeats 1000000
namespace BL
open PySem PySem.Spec PyProof.Rows L2 SX He
def TupsAt (H : Hp) (ps : List Addr) (f : Nat → List V) : Prop := ∀ j p, ps[j]? = some p → H p = some (.tup (f j))
theorem TupsAt.kept {H H1 : Hp} {ps : List Addr} {f : Nat → List V} (h : TupsAt H ps f) (s : L2.Same H H1) : TupsAt H1 ps f := fun j p e => s _ _ (h j p e)
theorem TupsAt.put {H : Hp} {ps : List Addr} {f : Nat → List V} {D : Addr} {acc : List V} {o : HO} (h : TupsAt H ps f) (hD : H D = some (.lst acc)) : TupsAt (upd H D o) ps f := fun j p e => by
  have hp := h j p e
  have : p ≠ D := by rintro rfl; rw [hD] at hp; cases hp
  exact (upd_ne this).trans hp
theorem TupsAt.snoc {H : Hp} {ps : List Addr} {f : Nat → List V} {p : Addr} (h : TupsAt H ps f) (hp : H p = some (.tup (f ps.length))) : TupsAt H (ps ++ [p]) f := fun j q e => by
  by_cases hj : j < ps.length
  · rw [List.getElem?_append_left hj] at e
    exact h j q e
  · have hl := (List.getElem?_eq_some_iff.mp e).1
    rw [List.length_append, List.length_singleton] at hl
    have : j = ps.length := by omega
    subst this
    rw [List.getElem?_append_right (Nat.le_refl _), Nat.sub_self] at e
    cases e
    exact hp
def Tups (D : Addr) (n : Nat) (f : Nat → List V) (H1 H : Hp) : Prop := ∃ ps : List Addr, ps.length = n ∧ H D = some (.lst (ps.map V.ref)) ∧ TupsAt H ps f ∧ L2.Same H1 H
theorem Tups.zero {D : Addr} {f : Nat → List V} {H1 : Hp} (hD : H1 D = none) : Tups D 0 f H1 (upd H1 D (.lst [])) := ⟨[], rfl, upd_same, fun _ _ e => by simp at e, Same.new hD⟩
theorem Tups.step {D p : Addr} {n : Nat} {f : Nat → List V} {H1 H H5 : Hp} (hD : H1 D = none) (hn : n < sizeLine) (h : Tups D n f H1 H) (s : L2.Same H H5) (np : H5 p = none) :
    ∃ acc, (upd H5 p (.tup (f n))) D = some (.lst acc) ∧ acc.length < sizeLine ∧ Tups D (n + 1) f H1 (upd (upd H5 p (.tup (f n))) D (.lst (acc ++ [.ref p]))) := by
  obtain ⟨ps, rfl, h2, h3, h4⟩ := h
  have h5 := s _ _ h2
  have nD : D ≠ p := by rintro rfl; rw [h5] at np; cases np
  have h6 := (upd_ne (o := .tup (f ps.length)) nD).trans h5
  refine ⟨_, h6, by rw [List.length_map]; exact hn, ps ++ [p], by rw [List.length_append]; rfl, by rw [upd_same, List.map_append]; rfl, ?_, ?_⟩
  · exact TupsAt.snoc ((TupsAt.kept (TupsAt.kept h3 s) (Same.new np)).put h6) ((upd_ne nD.symm).trans upd_same)
  · intro b o e
    have bD : b ≠ D := by rintro rfl; rw [hD] at e; cases e
    exact (upd_ne bD).trans ((Same.new np) _ _ (s _ _ (h4 _ _ e)))
end BL
set_option maxRecDepth 100000
set_option maxHeartbeats 1000000
namespace BL
open PySem PySem.Spec PyProof.Rows L2 SX He
structure LaneN where
  key : Str
  a : Nat
  b : Nat
  mi : Nat
def LnAt (H : Hp) (ll : List (Addr × LaneN)) : Prop := ∀ x ∈ ll, ∃ z : Int, H x.1 = some (.tup [.str x.2.key, .int (x.2.a : Nat), .int (x.2.b : Nat), .int (x.2.mi : Nat), .int z])
theorem LnAt.kept {H H1 : Hp} {ll : List (Addr × LaneN)} (h : LnAt H ll) (s : L2.Same H H1) : LnAt H1 ll := fun x hx => let ⟨z, e⟩ := h x hx; ⟨z, s _ _ e⟩
theorem LnAt.put {H : Hp} {ll : List (Addr × LaneN)} {D : Addr} {acc : List V} {o : HO} (h : LnAt H ll) (hD : H D = some (.lst acc)) : LnAt (upd H D o) ll := fun x hx => by
  obtain ⟨z, e⟩ := h x hx
  have : x.1 ≠ D := by intro q; rw [q, hD] at e; cases e
  exact ⟨z, (upd_ne this).trans e⟩
theorem LnAt.snoc {H : Hp} {ll : List (Addr × LaneN)} {p : Addr} {l : LaneN} {z : Int} (h : LnAt H ll) (hp : H p = some (.tup [.str l.key, .int (l.a : Nat), .int (l.b : Nat), .int (l.mi : Nat), .int z])) : LnAt H (ll ++ [(p, l)]) := fun x hx => by
  rcases List.mem_append.mp hx with q | q
  · exact h x q
  · rw [List.mem_singleton.mp q]; exact ⟨z, hp⟩
section
variable {cs : List (Str × V)} {rs : List Rd}
end
end BL
set_option maxRecDepth 100000
set_option maxHeartbeats 1000000
namespace BL
open PySem PySem.Spec PyProof.Rows L2 SX He
/-- a list of texts -/
def AllS : List V → Prop
  | [] => True
  | .str _ :: r => AllS r
  | _ => False
theorem AllS.map : ∀ ss : List Str, AllS (ss.map V.str)
  | [] => trivial
  | _ :: r => AllS.map r
theorem AllS.app : ∀ {xs ys : List V}, AllS xs → AllS ys → AllS (xs ++ ys)
  | [], _, _, h => h
  | .str _ :: r, _, h, g => AllS.app (xs := r) h g
theorem AllS.mem : ∀ {xs : List V}, AllS xs → ∀ v ∈ xs, ∃ z, v = .str z
  | .str z :: r, h, v, hv => by
    rcases List.mem_cons.mp hv with q | q
    · exact ⟨z, q⟩
    · exact AllS.mem (xs := r) h v q
end BL
set_option maxRecDepth 100000
set_option maxHeartbeats 1000000
namespace BL
open PySem PySem.Spec PyProof.Rows L2 SX He
theorem same_at {A : Around} {s : Shared} {xs : List V} {us ws : List Value} (r : Vals xs us) (r' : Vals xs ws) (f : xs.all flatB = true) : ∀ j (h1 : j < us.toArray.size) (h2 : j < ws.toArray.size), SeqAt.EqAt A s us.toArray[j] ws.toArray[j] true := by
  intro j h1 h2
  have g1 : us[j]? = some us.toArray[j] := by simp
  have g2 : ws[j]? = some ws.toArray[j] := by simp
  have hl := r.length
  have hj : j < xs.length := by rw [hl]; simpa using h1
  have hx : xs[j]? = some xs[j] := List.getElem?_eq_getElem hj
  obtain ⟨u, e1, r1⟩ := r.get hx
  obtain ⟨u', e2, r2⟩ := r'.get hx
  rw [g1] at e1; cases e1
  rw [g2] at e2; cases e2
  exact eqAt_same r1 r2 (List.all_eq_true.mp f _ (List.mem_of_getElem? hx))
def rNeT (K : PySem.W.Frag) : R2 := fun x y H Q => ∃ (a b : Addr) (xs : List V), x = .ref a ∧ y = .ref b ∧ SqT K H a xs ∧ SqT K H b xs ∧ xs.all flatB = true ∧ Q (.bl false) H
theorem op_neT {X : Cx} (hu : X.A.units < cLine) : OpR X (compareOp .NotEq) (rNeT X.K) := by
  intro pins s σ H x y v u Q I rx ry h
  obtain ⟨a, b, xs, rfl, rfl, ha, hb, f, q⟩ := h
  cases rx
  cases ry
  obtain ⟨us, r1, p1, _⟩ := I.tuple ha
  obtain ⟨ws, r2, p2, _⟩ := I.tuple hb
  have hl : us.length = ws.length := by rw [← r1.length, ← r2.length]
  have e := SeqAt.RcNeAt.tuples (A := X.A) (s := s) (e := fun _ => true) (l := a) (b := b) (items := us.toArray) (items2 := ws.toArray) p1 p2 hu (same_at r1 r2 f)
  refine e X.prog X.w _ _ ?_
  have : ((List.range (min us.toArray.size ws.toArray.size)).all (fun _ => true) && us.toArray.size == ws.toArray.size) = true := by
    rw [List.size_toArray, List.size_toArray, hl]
    simp
  rw [this]
  exact ⟨.bl false, H, I, rfl, q⟩
end BL
set_option maxRecDepth 100000
set_option maxHeartbeats 2000000
namespace BL
open PySem PySem.Spec PyProof.Rows L2 SX He
theorem fly_keeps {B h h' : Heap} {l : List Env} {e : Addr} {Z : Obj → Prop} (fl : HandSPX.FlyingZ B l e Z h) (k : ∀ b o, h.get? b = some o → h'.get? b = some o) : HandSPX.FlyingZ B l e Z h' := by
  obtain ⟨k1, k2, k3, oe, vs, T, oT, ts', he, hz, hd, h1, hnT, hTe, hT, hdT, h3⟩ := fl
  exact ⟨fun b o hb => k b o (k1 b o hb), k2, k3.of_keeps fun b o hb _ => ⟨o, k b o hb, rfl⟩, oe, vs, T, oT, ts', k _ _ he, hz, hd, h1, hnT, hTe, k _ _ hT, hdT, h3⟩
theorem up_keeps {h h' : Heap} (k : ∀ b o, h.get? b = some o → h'.get? b = some o) : h.UpToSlots h' := fun b o hb _ => ⟨o.slots, k b o hb⟩
/-- the test of an except clause: what it evaluates to, behind which the heap only grew, is a class or a tuple of classes; b: whether an exception of the class cls is meant -/
def TestAs (X : Cx) (x : Expr) (cls : Value) (b : Bool) : Prop := ∀ (a : Addr) (oe : Obj) (pn : List (Addr × Obj)) (σ : L2.St) (H : Hp) (s : Shared) (Q E : Value → Shared → Prop), Inv (X.suite a ((a, oe) :: pn)) [] σ H s → s.heap.get? a = some oe → oe.cls = cls →
  (∀ (c : Value) (h' : Heap), (∀ b o, s.heap.get? b = some o → h'.get? b = some o) → PySem.W.Looks (model X.prog X.w) h' (excMatches (.ref a) c) b → Q c { s with heap := h' }) →
  wpAny (model X.prog X.w) (X.A.mark (some (.ref a))) (eval x X.env) Q E s
def wAsT (T : Value → Bool → Prop) (i : Nat) (ts : Addr → Value → Option Addr → TS) (Wout : WX) (D : Ends) : WX := fun cls d σ H =>
  ∃ b, T cls b ∧ (b = true → ∀ a, H a = none → ts a cls d { nx := fun σ' H' => D.nx (σ'.set i none) H', rt := D.rt, bk := fun σ' H' => D.bk (σ'.set i none) H', ct := fun σ' H' => D.ct (σ'.set i none) H' } (σ.set i (some (.ref a))) H) ∧
    (b = false → Wout cls d σ H)
section
variable {X : Cx} {n : Str} {x : Expr} {i : Nat} {body suite : List Stmt} {b₀ : Stmt} {pos pos' : Pos} {tb : WX → TS} {ts : Addr → Value → Option Addr → TS} {Wout : WX}
theorem ps_try_asT {T : Value → Bool → Prop} (hs : X.stack = X.env :: X.outer) (hf : X.env.frame = some X.env.locals) (hN : X.N.Nodup) (hi : X.N[i]? = some n) (hln : X.env.kindOf n = some .local) (hc : ∀ cls b, T cls b → TestAs X x cls b) (tk : Takes X Wout)
    (hb : ∀ (W : WX) (pn : List (Addr × Obj)) (xe : Value → Shared → Prop), Takes (X.tr pn xe) W → PassesOwn (model X.prog X.w) X.A X.env xe → PSs (X.tr pn xe) body (tb W))
    (hsu : ∀ (a : Addr) (oe : Obj) (cls : Value) (d : Option Addr) (pn : List (Addr × Obj)), Zc cls d oe → (∃ vs, oe.data = .fields vs) → PSs (X.suite a ((a, oe) :: pn)) (b₀ :: suite) (ts a cls d)) :
    PS X (.Try body [.ExceptHandler (some x) (some n) (b₀ :: suite) pos'] [] [] pos) (fun D σ H => tb (wAsT T i ts Wout D) D σ H) := by
  refine ⟨fun pins s σ H D I h => ?_⟩
  have ok := I.ok
  have hfr : X.A.frames = some (X.env :: X.outer) := by rw [ok.frames, hs]
  have hloc : Loc X.env.scope n := .inl hln
  refine wpAny_Try_except ?_
  refine wpAny_mono ((hb (wAsT T i ts Wout D) (X.pn ++ pins) (fun e s₁ => wpAny (model X.prog X.w) X.A (noteFrame e X.env) (fun _ s₂ => wpAny (model X.prog X.w) X.A (setFlight e none) (fun _ s₃ =>
    wpAny (model X.prog X.w) X.A (handleBy e X.env [.ExceptHandler (some x) (some n) (b₀ :: suite) pos']) (SP X pins D) X.xe s₃) X.xe s₂) X.xe s₁) (fun u s' xx => ?_) PassesOwn.looking).run [] s σ H D (I.toTry _) h) (fun f s1 hsp => ?_) (fun e s1 he => he)
  · obtain ⟨a, B, sI, pins', σ', H', cls, d, rfl, J', nb, up, sky, na, os, ag, b, hb1, hyes, hno⟩ := xx
    have J : Inv X pins σ' H' sI := J'.ofTry ok
    have sky' : Sky B (X.env :: X.outer) a (Zc cls d) X.env.locals s'.heap := by rw [← hs]; exact sky
    show wpAny (model X.prog X.w) X.A (noteFrame (.ref a) X.env) _ _ _
    refine Sky.land Zc.steady hfr hf sky' fun h3 fl3 up3 => ?_
    have J3 : Inv X pins σ' H' { s' with heap := h3 } := J.landed nb fl3.1 (up.trans up3) os ag
    obtain ⟨oe3, vs3, he3, hz3, hd3⟩ := fl3.there
    have notFr : ∀ {h : Heap} {o : Obj} {vs : Array Value}, h.FunFrames B (X.env :: X.outer) → h.get? a = some o → o.data = .fields vs → a ∉ frs (X.env :: X.outer) := fun {h o vs} ff e dd hm => by
      obtain ⟨_, o', e', hnf⟩ := ff.mem hm
      rw [e] at e'; cases e'
      exact hnf _ dd
    have nfr := notFr fl3.2.2.1 he3 hd3
    have nL : a ≠ X.env.locals := fun z => nfr (List.mem_filterMap.mpr ⟨X.env, List.mem_cons_self, by rw [hf, z]⟩)
    have nF : a ∉ X.fs := fun hm => by
      obtain ⟨e, he, q⟩ := List.mem_filterMap.mp hm
      exact nfr (List.mem_filterMap.mpr ⟨e, List.mem_cons_of_mem _ he, q⟩)
    have S3 := J3.suite he3 hd3 na nL nF
    refine wpAny_handleBy_cons (codeAny_handlers_test ?_) (by intro q; cases q)
    refine hc cls b hb1 a oe3 (X.pn ++ pins) σ' H' { s' with heap := h3 } _ _ S3 he3 hz3.1 fun c h3' k3 LM => ?_
    have fl3' : HandSPX.FlyingZ B (X.env :: X.outer) a (Zc cls d) h3' := fly_keeps fl3 k3
    have up3' := up3.trans (up_keeps k3)
    refine LM.here ?_
    cases b with
    | true =>
      refine codeAny_handlers_suite_as ?_
      refine HandSPX.lands_againZ fl3' fun h4 fl4 up4 => ?_
      have J4 : Inv X pins σ' H' { s' with heap := h4 } := J.landed nb fl4.1 ((up.trans up3').trans up4) os ag
      obtain ⟨oe4, vs4, he4, hz4, hd4⟩ := fl4.there
      have S4 := J4.suite he4 hd4 na nL nF
      refine store_ok (X := X.suite a ((a, oe4) :: (X.pn ++ pins))) (v := .ref a) S4 hN hi hloc rfl (fun s5 S5 => ?_) (.inr hln)
      refine wpAny_mono ((hsu a oe4 cls d (X.pn ++ pins) hz4 ⟨_, hd4⟩).run [] s5 _ H' _ S5 (hyes rfl a na)) (fun f s6 hsp => ?_) (fun _ _ z => False.elim z)
      have end_ : ∀ {σ6 : L2.St} {H6 : Hp} {Q : Shared → Prop}, Inv (X.suite a ((a, oe4) :: (X.pn ++ pins))) [] σ6 H6 s6 → (∀ s7, Inv X pins (σ6.set i none) H6 s7 → Q s7) →
          wpAny (model X.prog X.w) X.A (do bindName X.env n .none; unbindBehindTheSuite X.env n pos') (fun _ s7 => Q s7) X.xe s6 := fun {σ6 H6 Q} S6 hq => gone_ok (S6.unsuite ok) hN hi hln hq
      cases f with
      | next =>
        obtain ⟨σ6, H6, S6, q6⟩ := hsp
        exact end_ S6 fun s7 J7 => ⟨_, _, J7, q6⟩
      | brk =>
        obtain ⟨σ6, H6, S6, q6⟩ := hsp
        exact end_ S6 fun s7 J7 => ⟨_, _, J7, q6⟩
      | cont =>
        obtain ⟨σ6, H6, S6, q6⟩ := hsp
        exact end_ S6 fun s7 J7 => ⟨_, _, J7, q6⟩
      | ret u =>
        obtain ⟨v6, σ6, H6, S6, r6, q6⟩ := hsp
        exact end_ S6 fun s7 J7 => ⟨_, _, _, J7, r6, q6⟩
    | false =>
      show wpAny _ X.A (handleBy (.ref a) X.env []) _ _ _
      refine wpAny_handleBy_nil ?_
      obtain ⟨k1, k2, k3, oe, vs, T, oT, ts', he, hz, hd, h1, hr⟩ := id fl3'
      unfold PySem.passOn
      refine wpAny_bind (wpAny_field he hd h1 ?_)
      rw [if_neg (show ¬ ((Value.ref T == Value.none) = true) from by simp)]
      have fin : wpAny (model X.prog X.w) X.A (setFlight (.ref a) X.env.frame) (fun _ s4 => wpAny (model X.prog X.w) X.A (throw (.ref a) : Sem Flow) (SP X pins D) X.xe s4) X.xe { s' with heap := h3' } := by
        rw [hf]
        refine HandSPX.setFlight_upZ fl3' fun h4 hh4 up4 => wpAny_throw (tk _ _ ?_)
        exact ⟨a, B, sI, pins, σ', H', cls, d, rfl, J, nb, (up.trans up3').trans up4, .inr (.inr (by rw [hs]; exact hh4)), na, os, ag, hno rfl⟩
      first
        | exact wpAny_bind (wpAny_pure (wpAny_bind fin))
        | exact wpAny_bind fin
  · cases f with
    | next =>
      obtain ⟨σ', H', J', q⟩ := hsp
      exact wpAny_execs_nil ⟨σ', H', J'.ofTry ok, q⟩
    | brk =>
      obtain ⟨σ', H', J', q⟩ := hsp
      exact ⟨σ', H', J'.ofTry ok, q⟩
    | cont =>
      obtain ⟨σ', H', J', q⟩ := hsp
      exact ⟨σ', H', J'.ofTry ok, q⟩
    | ret u =>
      obtain ⟨v, σ', H', J', r, q⟩ := hsp
      exact ⟨v, σ', H', J'.ofTry ok, r, q⟩
theorem test3 {x1 x2 x3 : Str} {c1 c2 c3 cls : Value} {b : Bool} {p1 p2 p3 tpos : Pos} {kk : Nat} (h1 : Names X x1 c1) (h2 : Names X x2 c2) (h3 : Names X x3 c3) (hx : PySem.W.exmAny X.K cls [c1, c2, c3] = some b) : TestAs X (.Tuple [.Name x1 p1, .Name x2 p2, .Name x3 p3] kk tpos) cls b := by
  intro a oe pn σ H s Q E S ha hcl k
  have ld : ∀ {y : Str} {c : Value} {p : Pos} {Q : Value → Shared → Prop} {E : Value → Shared → Prop}, Names X y c → Q c s → wpAny (model X.prog X.w) (X.A.mark (some (.ref a))) (eval (.Name y p) X.env) Q E s := fun {y c p Q E} hc q => by
    obtain ⟨hg, hdbg, hm | ⟨hm, hv, hnn⟩⟩ := hc
    · exact ld_glob (X := X.suite a ((a, oe) :: pn)) S hg hm q hdbg
    · exact ld_blt (X := X.suite a ((a, oe) :: pn)) S hg hm hv q hnn hdbg
  refine Tuple_ (spliced_more (ld h1 (spliced_more (ld h2 (spliced_more (ld h3 (spliced_none ?_)))))))
  refine wpAny_newObj_type ?_
  refine k _ _ (fun b o e => Heap.get?_push_of_some _ e) ?_
  have KX : X.K.In s.heap := S.kIn
  refine PySem.W.exm_tup3 (KX.keeps fun b o e => Heap.get?_push_of_some _ e) (fun A Q E s k q => wpAny_typeOf_ref (k _ _ (Heap.get?_push_of_some _ ha)) (by rw [hcl]; exact q)) (Heap.get?_push_at rfl rfl) hx
end
end BL
set_option maxRecDepth 100000
set_option maxHeartbeats 1000000
namespace BL
open PySem PySem.Spec PyProof.Rows L2 SX He
def veB (nm : Str) (K : PySem.W.Frag) : Bool := excB K (ga K nm) ["ValueError", "Exception", "BaseException", "object"] "ValueError.__new__" &&
  (eqO (PySem.W.findIn K (.ref (ga K nm)) "__setattr__") (some (some (.builtin "object.__setattr__"))) &&
  (decide (PySem.W.subIn K (.ref (ga K nm)) (.type "BaseException") = some true) &&
  (decide (PySem.W.typeIn K (.ref (ga K nm)) = some (.type "type")) &&
  (PySem.W.keepIn K (.ref (ga K nm)) &&
  (eqO (PySem.W.findIn K (.ref (ga K nm)) "__init__") (some (some (.ref (ma K (ga K nm) "__init__")))) &&
  decide (PySem.W.typeIn K (.ref (ma K (ga K nm) "__init__")) = some (.type "function")))))))
structure VeC (K : PySem.W.Frag) (nm : Str) : Prop where
  o : OexC K (ga K nm)
  iC : PySem.W.findIn K (.ref (ga K nm)) "__init__" = some (some (.ref (ma K (ga K nm) "__init__")))
  tI : PySem.W.typeIn K (.ref (ma K (ga K nm) "__init__")) = some (.type "function")
theorem ve_ok {K : PySem.W.Frag} {nm : Str} (h : veB nm K = true) : VeC K nm := by
  obtain ⟨h1, h⟩ := ba h
  obtain ⟨h2, h⟩ := ba h
  obtain ⟨h3, h⟩ := ba h
  obtain ⟨h4, h⟩ := ba h
  obtain ⟨h5, h⟩ := ba h
  obtain ⟨h6, h7⟩ := ba h
  obtain ⟨n, q, N, bs, bm, sn, sub, ab, col, dd, k0, k1, k2, k3, k5, e1, e2⟩ := excB_ok h1
  refine ⟨⟨⟨n, q, N, bs, bm, sn, sub, ab, col, dd, k0, k1, k2, k3, k5, e1, by rw [e2]; decide⟩, eqO_ok h2, of_decide_eq_true h3, of_decide_eq_true h4, h5⟩, eqO_ok h6, of_decide_eq_true h7⟩
/-- what an __init__ of two fields keeps -/
abbrev spE2 (C : Addr) (f1 f2 : Str) : Sp := fun vs H Q _ => ∃ (a : Addr) (x y : V), vs = [.ref a, x, y] ∧ H a = some (exo a C none) ∧ ∀ dx, H dx = none → dx ≠ a → Q .non (upd (upd (upd H dx (exd dx [(f1, x)])) a (exo a C (some dx))) dx (exd dx [(f2, y), (f1, x)]))
abbrev spE1 (C : Addr) (f1 : Str) : Sp := fun vs H Q _ => ∃ (a : Addr) (x : V), vs = [.ref a, x] ∧ H a = some (exo a C none) ∧ ∀ dx, H dx = none → dx ≠ a → Q .non (upd (upd H dx (exd dx [(f1, x)])) a (exo a C (some dx)))
/-- an error's making, called -/
structure ErrC (P : Program) (w : World) (K : PySem.W.Frag) (mg : Str → Option Value) (base : Heap) (k : Nat) (nm : Str) (sp : Sp) : Prop where
  v : VeC K nm
  ex : ∃ (fd : FuncData) (ps : List Str), FnOk P w K mg base C8.CX0 k (ma K (ga K nm) "__init__") fd ps sp ∧ mg nm = some (.ref (ga K nm)) ∧ Binds K fd ps []
theorem err_of {P : Program} {w : World} {K : PySem.W.Frag} {mg : Str → Option Value} {base : Heap} {nm qual : Str} {st : Stmt} {N ps : List Str} {k : Nat} {sp : Sp} (Ve : VeC K nm) (hm : mg nm = some (.ref (ga K nm)))
    (F : ∃ fd, FunD K "__init__" qual (defArgs st) (defBody st) (defScope st) [] [] (ma K (ga K nm) "__init__") fd) (S : FnScope N ps (defScope st))
    (hb : ∀ (kV doc pm : Value) (an : Option Addr) (cdv ct : Value) (us : List Value), us.length = ps.length → bindArgs (PySem.W.fnOf "__init__" qual (defArgs st) (defBody st) (defScope st) .none kV doc pm an cdv ct) ⟨us, []⟩ = pure (ps.zip us))
    (len : ∀ vs H Q E, sp vs H Q E → vs.length = ps.length)
    (hbody : ∀ (cdv : Value) (A : Around) (outer : List Env) (s : Shared) (H : Hp) (vs : List V) (Q : VK) (E : XK), Room k (A.deeper (envOfC qual (defScope st) s.heap.objs.size (ma K (ga K nm) "__init__") cdv)) → sp vs H Q E →
      ∃ t, PSs (cxOf C8.CX0 P w K mg base N qual (defScope st) (ma K (ga K nm) "__init__") cdv A outer s H E).nox (defBody st) t ∧ t { nx := fun _ H' => Q .non H', rt := Q } (start N vs) H) : ErrC P w K mg base (k + 1) nm sp := by
  obtain ⟨fd, F⟩ := F
  exact ⟨Ve, fd, ps, F.ok S len (fun cdv A outer s H vs Q E hr h => let ⟨t, p, q⟩ := hbody cdv A outer s H vs Q E hr h; ⟨t, p.nox, q⟩), hm, F.bindsN hb⟩
section
variable {X : Cx} {nm : Str} {k j : Nat} {sp : Sp} {e : Expr} {es : List Expr} {ta : TA} {p pos pos2 : Pos} {W : WX}
/-- raise Error(e, ..) -/
def tRaiseE (C : Addr) (sp : Sp) (W : WX) (ta : TA) : TS := fun _ σ H => tMkO C sp [] ta σ H fun cls d H' => W cls d σ H'
theorem ps_raiseE (hc : X.calm = true) (T : ErrC X.prog X.w X.K X.mg X.base k nm sp) (hr : Room j X.A) (hk : k + 1 ≤ j) (tk : Takes X W) (hg : Gl X nm) (ha : PA X (e :: es) ta) (hdb : (nm == ("__debug__" : Str)) = false := by decide)
    (he : starEach (e :: es) X.env = (false, eval e X.env) :: starEach es X.env := by rfl) (hpl : (backTo pos (starEach es X.env)).any (·.1) = false := by rfl) :
    PS X (.Raise (some (.Call (.Name nm p) (e :: es) [] pos)) none pos2) (tRaiseE (ga X.K nm) sp W ta) := by
  obtain ⟨fd, ps, F, hm, b⟩ := T.ex
  exact ps_raise hc tk (pmk_oex T.v.o T.v.iC T.v.tI F (hr.mono hk) b .nil C8.pass0 hg hm ha hdb he hpl)
end
theorem heap2 {H : Hp} {a d : Addr} {o0 o1 o2 o3 o4 : HO} (ha : H a = none) (n : d ≠ a) : upd (del (upd (upd (upd (upd H a o0) d o1) a o2) d o3) a) d o4 = upd H d o4 := by
  funext b
  by_cases hb : b = d
  · subst hb; rw [upd_same, upd_same]
  · rw [upd_ne hb, upd_ne hb]
    by_cases hc : b = a
    · subst hc; rw [del_same, ha]
    · rw [del_ne hc, upd_ne hb, upd_ne hc, upd_ne hb, upd_ne hc]
theorem heap1 {H : Hp} {a d : Addr} {o0 o1 o2 o4 : HO} (ha : H a = none) (n : d ≠ a) : upd (del (upd (upd (upd H a o0) d o1) a o2) a) d o4 = upd H d o4 := by
  funext b
  by_cases hb : b = d
  · subst hb; rw [upd_same, upd_same]
  · rw [upd_ne hb, upd_ne hb]
    by_cases hc : b = a
    · subst hc; rw [del_same, ha]
    · rw [del_ne hc, upd_ne hc, upd_ne hb, upd_ne hc]
/-- what the raise asks, for an error of two fields, of one -/
theorem raise2 {C : Addr} {f1 f2 : Str} {W : WX} {ta : TA} {D : Ends} {σ : L2.St} {H : Hp} {x y : V} (h : ∀ Q : List V → Hp → Prop, Q [x, y] H → ta σ H Q) (k : ∀ d, H d = none → W (.ref C) (some d) σ (upd H d (.xd [(f2, y), (f1, x)]))) : tRaiseE C (spE2 C f1 f2) W ta D σ H := by
  refine h _ ⟨Nat.le_of_ble_eq_true rfl, fun a na => ⟨a, x, y, rfl, upd_same, fun d nd n => ⟨rfl, d, [(f2, y), (f1, x)], ?_, ?_, ?_, ?_⟩⟩⟩
  · rw [upd_ne n.symm, upd_same]
  · exact upd_same
  · have : (upd H a (exo a C none)) d = H d := upd_ne n
    rw [this] at nd; exact nd
  · have : (upd H a (exo a C none)) d = H d := upd_ne n
    rw [this] at nd
    rw [heap2 na n]
    exact k d nd
theorem raise1 {C : Addr} {f1 : Str} {W : WX} {ta : TA} {D : Ends} {σ : L2.St} {H : Hp} {x : V} (h : ∀ Q : List V → Hp → Prop, Q [x] H → ta σ H Q) (k : ∀ d, H d = none → W (.ref C) (some d) σ (upd H d (.xd [(f1, x)]))) : tRaiseE C (spE1 C f1) W ta D σ H := by
  refine h _ ⟨Nat.le_of_ble_eq_true rfl, fun a na => ⟨a, x, rfl, upd_same, fun d nd n => ⟨rfl, d, [(f1, x)], ?_, ?_, ?_, ?_⟩⟩⟩
  · exact upd_same
  · rw [upd_ne n, upd_same]
  · have : (upd H a (exo a C none)) d = H d := upd_ne n
    rw [this] at nd; exact nd
  · have : (upd H a (exo a C none)) d = H d := upd_ne n
    rw [this] at nd
    rw [heap1 na n]
    exact k d nd
end BL
set_option maxRecDepth 100000
set_option maxHeartbeats 1000000
namespace BL
open PySem PySem.Spec PyProof.Rows L2 SX He
def emA : Option Obj → Bool
  | some ⟨.type t, _, .seq e _, _⟩ => decide (t = "tuple") && decide (e.toList = [])
  | _ => false
def emT (K : PySem.W.Frag) : List Value → Bool
  | [.ref a] => emA (K.lookup a)
  | _ => false
def dfT (K : PySem.W.Frag) : Option Obj → Bool
  | some ⟨_, _, .seq its _, _⟩ => emT K its.toList
  | _ => false
def dfV (K : PySem.W.Frag) : Value → Bool
  | .ref T => dfT K (K.lookup T)
  | _ => false
def dfF (K : PySem.W.Frag) : Option Obj → Bool
  | some ⟨_, _, .func fd, _⟩ => dfV K fd.defaults
  | _ => false
def dflB (K : PySem.W.Frag) (f : Addr) : Bool := dfF K (K.lookup f)
/-- such a def, by two places, by one, by its two names turned -/
structure CalL (P : Program) (w : World) (K : PySem.W.Frag) (mg : Str → Option Value) (base : Heap) (k : Nat) (x : Str) (sp : Sp) (ks : List Str) : Prop where
  ex : ∃ (f : Addr) (fd : FuncData) (ps : List Str) (a : Addr), FnOk P w K mg base (L2.CX P w) k f fd ps sp ∧ mg x = some (.ref f) ∧ PySem.W.keepIn K (.ref f) = true ∧ Binds K fd ps [] ∧ (∃ ds, Vals [V.ref a] ds ∧ Binds K fd ps ds) ∧ (∀ H, SqT K H a []) ∧
    KBn K fd ps 0 ks (fun _ ws => ws.reverse) (fun _ zs => zs.reverse)
theorem CalL.x {P : Program} {w : World} {K : PySem.W.Frag} {mg : Str → Option Value} {base : Heap} {k : Nat} {x : Str} {sp : Sp} {ks : List Str} (c : CalL P w K mg base k x sp ks) : CalX P w K mg base k x sp := by
  obtain ⟨f, fd, ps, a, F, hm, kp, b, _⟩ := c.ex
  exact ⟨f, fd, ps, F, hm, kp, b⟩
section
variable {X : Cx} {k j : Nat} {x : Str} {sp : Sp} {ks : List Str} {W : WX} {p pos : Pos} {e : Expr} {es : List Expr} {kws : List Keyword} {t tk : TA}
end
end BL
set_option maxRecDepth 100000
set_option maxHeartbeats 1000000
namespace BL
open PySem PySem.Spec PyProof.Rows L2 SX He
abbrev Sq (K : PySem.W.Frag) (H : Hp) (a : Addr) (xs : List V) : Prop := SqL K H a xs ∨ SqT K H a xs
theorem SqT.kept {K : PySem.W.Frag} {H H1 : Hp} {a : Addr} {xs : List V} (s : L2.Same H H1) (h : SqT K H a xs) : SqT K H1 a xs := by
  rcases h with h | h
  · refine .inl ?_
    rcases h with h | ⟨o, h⟩
    · exact .inl (s _ _ h)
    · exact .inr ⟨o, s _ _ h⟩
  · exact .inr h
theorem Sq.kept {K : PySem.W.Frag} {H H1 : Hp} {a : Addr} {xs : List V} (s : L2.Same H H1) (h : Sq K H a xs) : Sq K H1 a xs := h.imp (L2.Same.seq s) (SqT.kept s)
section
variable {X : Cx} {tg : Expr}
end
end BL
set_option maxRecDepth 100000
set_option maxHeartbeats 1000000
namespace BL
open PySem PySem.Spec PyProof.Rows L2 SX He
section
variable {J : It} {n : Nat} {G : Hp → Prop} {Y : Nat → Hp → V → Hp → Prop} {α : Type}
theorem lc_sel (w : Walk J n G Y) {g : TG} {tt : TT} {te : TE} {vs : List Nat} {σ : L2.St} {H1 : Hp} {D : Addr} {Qd : Hp → Prop} (L : List α) (q : α → Bool) (h : α → V) (hn : n = L.length) (hx : n ≤ 1000) (hD : H1 D = none)
    (hG : ∀ H, L2.Same H1 H → G H) (hY : ∀ i H x H', Y i H x H' → L2.Same H H')
    (hs : ∀ (i : Nat) (l : α) (x : V) (H H' : Hp), L[i]? = some l → L2.Same H1 H → Y i H x H' → ∀ (T : V → Hp → Prop) (N : Hp → Prop), (q l = true → ∀ H4, L2.Same H' H4 → T (h l) H4) → (q l = false → ∀ H4, L2.Same H' H4 → N H4) →
      g x (wipe σ vs) H' fun σ2 H2 => wipe σ2 vs = wipe σ vs ∧ tt σ2 H2 fun b H3 => if b = true then te σ2 H3 T else N H3)
    (hd : ∀ H, H D = some (.lst ((L.filter q).map h)) → L2.Same H1 H → Qd H) :
    ∃ W : Nat → Nat → Hp → Prop, (∃ m, W 0 m (upd H1 D (.lst []))) ∧ ∀ i m H, W i m H →
      (J.stop i H ∧ Qd H) ∨ (J.go i H ∧ ∃ Nx : Hp → Prop, (∀ H', Nx H' → ∃ m', m' < m ∧ W (i + 1) m' H') ∧ ∀ x H', J.yld i H x H' → g x (wipe σ vs) H' fun σ2 H2 => wipe σ2 vs = wipe σ vs ∧ tt σ2 H2 fun b H3 =>
        if b = true then te σ2 H3 fun y H4 => ∃ acc, H4 D = some (.lst acc) ∧ acc.length < sizeLine ∧ Nx (upd H4 D (.lst (acc ++ [y]))) else Nx H3) := by
  have sl0 : sizeLine = 16777216 := rfl
  refine lc_it w (fun i H => H D = some (.lst (((L.take i).filter q).map h)) ∧ L2.Same H1 H) ⟨upd_same, Same.new hD⟩ (fun i H _ p => hG H p.2) ?_ ?_
  · rintro i x H H' hi ⟨hH, s⟩ y
    have hz : L[i]? = some (L[i]'(by omega)) := List.getElem?_eq_getElem (by omega)
    generalize (L[i]'(by omega)) = l at hz
    have sH := hY i H x H' y
    have len : ((L.take i).filter q).length ≤ 1000 := by
      have h1 := List.length_filter_le q (L.take i)
      rw [List.length_take] at h1
      omega
    refine hs i l x H H' hz s y _ _ (fun e H4 s4 => ?_) (fun e H4 s4 => ?_)
    · refine ⟨_, s4 _ _ (sH _ _ hH), by rw [List.length_map]; omega, ?_, ?_⟩
      · rw [upd_same, take_snoc hz, List.filter_append, List.map_append]
        have : [l].filter q = [l] := by rw [List.filter_cons, if_pos e]; rfl
        rw [this]; rfl
      · intro b o e'
        have bD : b ≠ D := by rintro rfl; rw [hD] at e'; cases e'
        exact (upd_ne bD).trans (s4 _ _ (sH _ _ (s _ _ e')))
    · refine ⟨?_, s.trans (sH.trans s4)⟩
      rw [take_snoc hz, List.filter_append]
      have : [l].filter q = [] := by rw [List.filter_cons, if_neg (by rw [e]; decide)]; rfl
      rw [this, List.append_nil]
      exact s4 _ _ (sH _ _ hH)
  · rintro H ⟨hH, s⟩
    rw [hn, List.take_length] at hH
    exact hd H hH s
end
section
variable {α : Type}
/-- over a list of things -/
theorem lc_selL {K : PySem.W.Frag} {a : Addr} {xs : List V} {g : TG} {tt : TT} {te : TE} {vs : List Nat} {σ : L2.St} {H1 : Hp} {D : Addr} {Qd : Hp → Prop} (L : List α) (f : α → V) (q : α → Bool) (h : α → V) (ex : xs = L.map f) (hx : L.length ≤ 1000) (hD : H1 D = none)
    (ha : SqL K H1 a xs)
    (hs : ∀ (l : α) (H : Hp), l ∈ L → L2.Same H1 H → ∀ (T : V → Hp → Prop) (N : Hp → Prop), (q l = true → ∀ H4, L2.Same H H4 → T (h l) H4) → (q l = false → ∀ H4, L2.Same H H4 → N H4) →
      g (f l) (wipe σ vs) H fun σ2 H2 => wipe σ2 vs = wipe σ vs ∧ tt σ2 H2 fun b H3 => if b = true then te σ2 H3 T else N H3)
    (hd : ∀ H, H D = some (.lst ((L.filter q).map h)) → L2.Same H1 H → Qd H) :
    ∃ W : Nat → Nat → Hp → Prop, (∃ m, W 0 m (upd H1 D (.lst []))) ∧ ∀ i m H, W i m H →
      ((Itl K a).stop i H ∧ Qd H) ∨ ((Itl K a).go i H ∧ ∃ Nx : Hp → Prop, (∀ H', Nx H' → ∃ m', m' < m ∧ W (i + 1) m' H') ∧ ∀ x H', (Itl K a).yld i H x H' → g x (wipe σ vs) H' fun σ2 H2 => wipe σ2 vs = wipe σ vs ∧ tt σ2 H2 fun b H3 =>
        if b = true then te σ2 H3 fun y H4 => ∃ acc, H4 D = some (.lst acc) ∧ acc.length < sizeLine ∧ Nx (upd H4 D (.lst (acc ++ [y]))) else Nx H3) := by
  refine lc_sel walk_list L q h (by rw [ex, List.length_map]) (by rw [ex, List.length_map]; exact hx) hD (fun H s => L2.Same.seq s ha) (fun i H x H' y => by rw [y.1]; exact fun _ _ e => e) ?_ hd
  rintro i l x H H' hz s ⟨rfl, hxi⟩ T N hT hN
  rw [ex, List.getElem?_map, hz] at hxi
  cases hxi
  exact hs l H' (List.mem_of_getElem? hz) s T N hT hN
/-- over a range -/
theorem lc_selR {lo : Int} {n : Nat} {g : TG} {tt : TT} {te : TE} {vs : List Nat} {σ : L2.St} {H1 : Hp} {D : Addr} {Qd : Hp → Prop} (q : Nat → Bool) (h : Nat → V) (hx : n ≤ 1000) (hD : H1 D = none)
    (hs : ∀ (i : Nat) (H : Hp), i < n → L2.Same H1 H → ∀ (T : V → Hp → Prop) (N : Hp → Prop), (q i = true → ∀ H4, L2.Same H H4 → T (h i) H4) → (q i = false → ∀ H4, L2.Same H H4 → N H4) →
      g (.int (lo + (i : Nat))) (wipe σ vs) H fun σ2 H2 => wipe σ2 vs = wipe σ vs ∧ tt σ2 H2 fun b H3 => if b = true then te σ2 H3 T else N H3)
    (hd : ∀ H, H D = some (.lst (((List.range n).filter q).map h)) → L2.Same H1 H → Qd H) :
    ∃ W : Nat → Nat → Hp → Prop, (∃ m, W 0 m (upd H1 D (.lst []))) ∧ ∀ i m H, W i m H →
      ((Itr lo n).stop i H ∧ Qd H) ∨ ((Itr lo n).go i H ∧ ∃ Nx : Hp → Prop, (∀ H', Nx H' → ∃ m', m' < m ∧ W (i + 1) m' H') ∧ ∀ x H', (Itr lo n).yld i H x H' → g x (wipe σ vs) H' fun σ2 H2 => wipe σ2 vs = wipe σ vs ∧ tt σ2 H2 fun b H3 =>
        if b = true then te σ2 H3 fun y H4 => ∃ acc, H4 D = some (.lst acc) ∧ acc.length < sizeLine ∧ Nx (upd H4 D (.lst (acc ++ [y]))) else Nx H3) := by
  refine lc_sel walk_range (List.range n) q h (by rw [List.length_range]) hx hD (fun H _ => True.intro) (fun i H x H' y => by rw [y.1]; exact fun _ _ e => e) ?_ hd
  rintro i l x H H' hz s ⟨rfl, rfl⟩ T N hT hN
  obtain ⟨hi, e⟩ := List.getElem?_eq_some_iff.mp hz
  rw [List.getElem_range] at e
  subst e
  rw [List.length_range] at hi
  exact hs i H' hi s T N hT hN
theorem filter_yes {L : List α} : L.filter (fun _ => true) = L := List.filter_eq_self.mpr fun _ _ => rfl
end
end BL
namespace BL
open PySem PySem.Spec PyProof.Rows L2 SX He
theorem if_lastS {c : TT} {x : TS} {D : Ends} {σ : L2.St} {H : Hp} (h : ∀ Q : Bool → Hp → Prop, (∀ H', L2.Same H H' → Q false H') → c σ H Q) (n : ∀ H', L2.Same H H' → D.nx σ H') : tIfS c x tNext D σ H := h _ n
theorem seq_ifS {c : TT} {x B : TS} {D : Ends} {σ : L2.St} {H : Hp} (h : ∀ Q : Bool → Hp → Prop, (∀ H', L2.Same H H' → Q false H') → c σ H Q) (n : ∀ H', L2.Same H H' → B D σ H') : tSeq (tIfS c x tNext) B D σ H := h _ n
theorem none_back {H H' : Hp} {p : Addr} (s : L2.Same H H') (h : H' p = none) : H p = none := by
  cases e : H p with
  | none => rfl
  | some o => rw [s _ _ e] at h; cases h
theorem KpC.same {H H' : Hp} (s : L2.Same H H') : KpC H H' := fun _ _ _ e => s _ _ e
theorem KpC.trans {H H1 H2 : Hp} (h : KpC H H1) (k : KpC H1 H2) : KpC H H2 := fun a o n e => k a o n (h a o n e)
theorem KpC.refl (H : Hp) : KpC H H := fun _ _ _ e => e
end BL
namespace BL
open PySem PySem.Spec PyProof.Rows L2 SX He
end BL
namespace BL
open PySem PySem.Spec PyProof.Rows L2 SX He
end BL
set_option maxRecDepth 100000
set_option maxHeartbeats 2000000
namespace K02
open PySem PySem.Spec PyProof.Rows L2 He BL
def top (i : Nat) : Stmt := PySem.Challenge.pw_bothlanes_k02_uneven_towns.main.body.getD i (.Pass ⟨0, 0, 0, 0⟩)
abbrev s_BadTown___init__ : Stmt := inClass (top 2) 0
abbrev s_Uneven___init__ : Stmt := inClass (top 3) 0
abbrev s_TooMany___init__ : Stmt := inClass (top 4) 0
abbrev s_Groups___init__ : Stmt := inClass (top 7) 0
abbrev s_Groups_unite : Stmt := inClass (top 7) 1
abbrev s_Groups_members : Stmt := inClass (top 7) 2
abbrev s_Layout___init__ : Stmt := inClass (top 9) 0
abbrev s_check_text : Stmt := top 15
abbrev s_check_sizes : Stmt := top 16
abbrev s_is_name : Stmt := top 24
abbrev s_number_in : Stmt := top 25
abbrev s_kind_in : Stmt := top 26
abbrev s_lines_of : Stmt := top 27
abbrev s_Road___init__ : Stmt := inClass (top 32) 0
abbrev s_Road_two_way : Stmt := inClass (top 32) 1
abbrev s_TownReader___init__ : Stmt := inClass (top 33) 0
abbrev s_TownReader_read_text : Stmt := inClass (top 33) 1
abbrev s_TownReader_read_line : Stmt := inClass (top 33) 2
abbrev s_TownReader_read_crossing : Stmt := inClass (top 33) 3
abbrev s_TownReader_read_road : Stmt := inClass (top 33) 4
abbrev s_TownReader_read_done : Stmt := inClass (top 33) 5
abbrev s_TownReader_check_oneways : Stmt := inClass (top 33) 6
abbrev s_town_lanes : Stmt := top 35
abbrev s_town_heights : Stmt := top 36
abbrev s_Town___init__ : Stmt := inClass (top 37) 0
abbrev s_Town_text : Stmt := inClass (top 37) 7
abbrev s__law_bag : Stmt := top 39
abbrev s__law_draw : Stmt := top 40
abbrev s__law_of : Stmt := top 41
abbrev s__law_mixed : Stmt := top 42
abbrev s__law_kept : Stmt := top 43
abbrev s__law_name : Stmt := top 44
abbrev s__law_fresh : Stmt := top 45
abbrev s__law_kind : Stmt := top 46
abbrev s__law_shape : Stmt := top 47
abbrev s__law_world : Stmt := top 48
abbrev s__law_line : Stmt := top 49
abbrev s__law_lines : Stmt := top 50
abbrev s__law_text : Stmt := top 51
abbrev s__law_read : Stmt := top 52
abbrev s__law_rounds : Stmt := top 53
abbrev s__law_first_uneven : Stmt := top 54
abbrev s__law_bent : Stmt := top 55
abbrev s_law : Stmt := top 56
def fa : List Fa := [.free "len",
  .free "min",
  .free "any",
  .free "all",
  .free "int",
  .free "str",
  .free "list",
  .free "range",
  .free "enumerate",
  .free "isinstance",
  .free "ValueError",
  .meth "Groups" "unite",
  .meth "Groups" "members",
  .glo "check_text",
  .glo "check_sizes",
  .glo "is_name",
  .glo "number_in",
  .glo "kind_in",
  .glo "lines_of",
  .meth "Road" "two_way",
  .meth "TownReader" "read_text",
  .meth "TownReader" "read_line",
  .meth "TownReader" "read_crossing",
  .meth "TownReader" "read_road",
  .meth "TownReader" "read_done",
  .meth "TownReader" "check_oneways",
  .glo "town_lanes",
  .glo "town_heights",
  .glo "_law_bag",
  .glo "_law_draw",
  .glo "_law_of",
  .glo "_law_mixed",
  .glo "_law_kept",
  .glo "_law_name",
  .glo "_law_fresh",
  .glo "_law_kind",
  .glo "_law_shape",
  .glo "_law_world",
  .glo "_law_line",
  .glo "_law_lines",
  .glo "_law_text",
  .glo "_law_read",
  .glo "_law_rounds",
  .glo "_law_first_uneven",
  .glo "_law_bent",
  .glo "law",
  .glo "BadTown",
  .glo "Uneven",
  .glo "TooMany",
  .glo "Groups",
  .cls "Groups",
  .mkr "Groups",
  .noat "Groups" "labels",
  .glo "Layout",
  .cls "Layout",
  .mkr "Layout",
  .noat "Layout" "groups",
  .noat "Layout" "spot_at",
  .noat "Layout" "joins",
  .noat "Layout" "degrees",
  .noat "Layout" "kinds",
  .glo "Road",
  .cls "Road",
  .mkr "Road",
  .noat "Road" "start",
  .noat "Road" "goal",
  .noat "Road" "times",
  .noat "Road" "load",
  .noat "Road" "weight",
  .glo "TownReader",
  .cls "TownReader",
  .mkr "TownReader",
  .noat "TownReader" "kinds",
  .noat "TownReader" "roads",
  .noat "TownReader" "ended",
  .glo "Town",
  .cls "Town",
  .mkr "Town",
  .noat "Town" "_text",
  .noat "Town" "_kinds",
  .noat "Town" "_roads",
  .noat "Town" "_lanes",
  .noat "Town" "_streets",
  .noat "Town" "_oneways",
  .noat "Town" "_heights",
  .noat "Town" "layout",
  .int "TEXT_LIMIT" 20000,
  .int "CROSSING_LIMIT" 24,
  .int "STREET_LIMIT" 36,
  .int "ONEWAY_LIMIT" 12,
  .str "DIGITS" "0123456789",
  .str "LETTERS" "abcdefghijklmnopqrstuvwxyz",
  .glo "RESERVED",
  .int "NAME_LENGTH" 8,
  .int "NUMBER_LENGTH" 9,
  .int "GREATEST_PRICE" 40,
  .int "MOST_MINUTES" 60,
  .int "MOST_SACKS" 9,
  .int "LAST_RANK" 3]
def fn : List DefA := [⟨fun K => ma K (ga K "Groups") "__init__", "__init__", "Groups.__init__", defArgs s_Groups___init__, defBody s_Groups___init__, defScope s_Groups___init__, 0⟩,
  ⟨fun K => ma K (ga K "Groups") "unite", "unite", "Groups.unite", defArgs s_Groups_unite, defBody s_Groups_unite, defScope s_Groups_unite, 0⟩,
  ⟨fun K => ma K (ga K "Groups") "members", "members", "Groups.members", defArgs s_Groups_members, defBody s_Groups_members, defScope s_Groups_members, 0⟩,
  ⟨fun K => ma K (ga K "Layout") "__init__", "__init__", "Layout.__init__", defArgs s_Layout___init__, defBody s_Layout___init__, defScope s_Layout___init__, 0⟩,
  ⟨fun K => ga K "check_text", "check_text", "check_text", defArgs s_check_text, defBody s_check_text, defScope s_check_text, 0⟩,
  ⟨fun K => ga K "check_sizes", "check_sizes", "check_sizes", defArgs s_check_sizes, defBody s_check_sizes, defScope s_check_sizes, 0⟩,
  ⟨fun K => ga K "is_name", "is_name", "is_name", defArgs s_is_name, defBody s_is_name, defScope s_is_name, 0⟩,
  ⟨fun K => ga K "number_in", "number_in", "number_in", defArgs s_number_in, defBody s_number_in, defScope s_number_in, 0⟩,
  ⟨fun K => ga K "kind_in", "kind_in", "kind_in", defArgs s_kind_in, defBody s_kind_in, defScope s_kind_in, 0⟩,
  ⟨fun K => ga K "lines_of", "lines_of", "lines_of", defArgs s_lines_of, defBody s_lines_of, defScope s_lines_of, 0⟩,
  ⟨fun K => ma K (ga K "Road") "__init__", "__init__", "Road.__init__", defArgs s_Road___init__, defBody s_Road___init__, defScope s_Road___init__, 0⟩,
  ⟨fun K => ma K (ga K "Road") "two_way", "two_way", "Road.two_way", defArgs s_Road_two_way, defBody s_Road_two_way, defScope s_Road_two_way, 0⟩,
  ⟨fun K => ma K (ga K "TownReader") "__init__", "__init__", "TownReader.__init__", defArgs s_TownReader___init__, defBody s_TownReader___init__, defScope s_TownReader___init__, 0⟩,
  ⟨fun K => ma K (ga K "TownReader") "read_text", "read_text", "TownReader.read_text", defArgs s_TownReader_read_text, defBody s_TownReader_read_text, defScope s_TownReader_read_text, 0⟩,
  ⟨fun K => ma K (ga K "TownReader") "read_line", "read_line", "TownReader.read_line", defArgs s_TownReader_read_line, defBody s_TownReader_read_line, defScope s_TownReader_read_line, 0⟩,
  ⟨fun K => ma K (ga K "TownReader") "read_crossing", "read_crossing", "TownReader.read_crossing", defArgs s_TownReader_read_crossing, defBody s_TownReader_read_crossing, defScope s_TownReader_read_crossing, 0⟩,
  ⟨fun K => ma K (ga K "TownReader") "read_road", "read_road", "TownReader.read_road", defArgs s_TownReader_read_road, defBody s_TownReader_read_road, defScope s_TownReader_read_road, 0⟩,
  ⟨fun K => ma K (ga K "TownReader") "read_done", "read_done", "TownReader.read_done", defArgs s_TownReader_read_done, defBody s_TownReader_read_done, defScope s_TownReader_read_done, 0⟩,
  ⟨fun K => ma K (ga K "TownReader") "check_oneways", "check_oneways", "TownReader.check_oneways", defArgs s_TownReader_check_oneways, defBody s_TownReader_check_oneways, defScope s_TownReader_check_oneways, 0⟩,
  ⟨fun K => ga K "town_lanes", "town_lanes", "town_lanes", defArgs s_town_lanes, defBody s_town_lanes, defScope s_town_lanes, 0⟩,
  ⟨fun K => ga K "town_heights", "town_heights", "town_heights", defArgs s_town_heights, defBody s_town_heights, defScope s_town_heights, 0⟩,
  ⟨fun K => ma K (ga K "Town") "__init__", "__init__", "Town.__init__", defArgs s_Town___init__, defBody s_Town___init__, defScope s_Town___init__, 0⟩,
  ⟨gAd "Town" "text", "text", "Town.text", defArgs s_Town_text, defBody s_Town_text, defScope s_Town_text, 0⟩,
  ⟨fun K => ga K "_law_bag", "_law_bag", "_law_bag", defArgs s__law_bag, defBody s__law_bag, defScope s__law_bag, 0⟩,
  ⟨fun K => ga K "_law_draw", "_law_draw", "_law_draw", defArgs s__law_draw, defBody s__law_draw, defScope s__law_draw, 0⟩,
  ⟨fun K => ga K "_law_of", "_law_of", "_law_of", defArgs s__law_of, defBody s__law_of, defScope s__law_of, 0⟩,
  ⟨fun K => ga K "_law_mixed", "_law_mixed", "_law_mixed", defArgs s__law_mixed, defBody s__law_mixed, defScope s__law_mixed, 0⟩,
  ⟨fun K => ga K "_law_kept", "_law_kept", "_law_kept", defArgs s__law_kept, defBody s__law_kept, defScope s__law_kept, 0⟩,
  ⟨fun K => ga K "_law_name", "_law_name", "_law_name", defArgs s__law_name, defBody s__law_name, defScope s__law_name, 0⟩,
  ⟨fun K => ga K "_law_fresh", "_law_fresh", "_law_fresh", defArgs s__law_fresh, defBody s__law_fresh, defScope s__law_fresh, 0⟩,
  ⟨fun K => ga K "_law_kind", "_law_kind", "_law_kind", defArgs s__law_kind, defBody s__law_kind, defScope s__law_kind, 0⟩,
  ⟨fun K => ga K "_law_shape", "_law_shape", "_law_shape", defArgs s__law_shape, defBody s__law_shape, defScope s__law_shape, 0⟩,
  ⟨fun K => ga K "_law_world", "_law_world", "_law_world", defArgs s__law_world, defBody s__law_world, defScope s__law_world, 0⟩,
  ⟨fun K => ga K "_law_line", "_law_line", "_law_line", defArgs s__law_line, defBody s__law_line, defScope s__law_line, 0⟩,
  ⟨fun K => ga K "_law_lines", "_law_lines", "_law_lines", defArgs s__law_lines, defBody s__law_lines, defScope s__law_lines, 0⟩,
  ⟨fun K => ga K "_law_text", "_law_text", "_law_text", defArgs s__law_text, defBody s__law_text, defScope s__law_text, 0⟩,
  ⟨fun K => ga K "_law_read", "_law_read", "_law_read", defArgs s__law_read, defBody s__law_read, defScope s__law_read, 0⟩,
  ⟨fun K => ga K "_law_rounds", "_law_rounds", "_law_rounds", defArgs s__law_rounds, defBody s__law_rounds, defScope s__law_rounds, 0⟩,
  ⟨fun K => ga K "_law_first_uneven", "_law_first_uneven", "_law_first_uneven", defArgs s__law_first_uneven, defBody s__law_first_uneven, defScope s__law_first_uneven, 0⟩,
  ⟨fun K => ga K "_law_bent", "_law_bent", "_law_bent", defArgs s__law_bent, defBody s__law_bent, defScope s__law_bent, 0⟩,
  ⟨fun K => ga K "law", "law", "law", defArgs s_law, defBody s_law, defScope s_law, 0⟩,
  ⟨fun K => ma K (ga K "BadTown") "__init__", "__init__", "BadTown.__init__", defArgs s_BadTown___init__, defBody s_BadTown___init__, defScope s_BadTown___init__, 0⟩,
  ⟨fun K => ma K (ga K "TooMany") "__init__", "__init__", "TooMany.__init__", defArgs s_TooMany___init__, defBody s_TooMany___init__, defScope s_TooMany___init__, 0⟩,
  ⟨fun K => ma K (ga K "Uneven") "__init__", "__init__", "Uneven.__init__", defArgs s_Uneven___init__, defBody s_Uneven___init__, defScope s_Uneven___init__, 0⟩]
def exl (K : PySem.W.Frag) : List Bool := [propB "Town" "text" K, decide (PySem.W.exmAny K (.ref (ga K "BadTown")) [.ref (ga K "BadTown"), .ref (ga K "TooMany"), .ref (ga K "Uneven")] = some true), decide (PySem.W.exmAny K (.ref (ga K "TooMany")) [.ref (ga K "BadTown"), .ref (ga K "TooMany"), .ref (ga K "Uneven")] = some true), decide (PySem.W.exmAny K (.ref (ga K "Uneven")) [.ref (ga K "BadTown"), .ref (ga K "TooMany"), .ref (ga K "Uneven")] = some true), veB "BadTown" K, veB "TooMany" K, veB "Uneven" K, xfB K (ga K "BadTown"), isxB K (ga K "BadTown"), eqO (PySem.W.findIn K (.ref (ga K "BadTown")) "line") (some none), eqO (PySem.W.findIn K (.ref (ga K "BadTown")) "why") (some none), kitB1 K (ga K "BadTown") (.ref (ga K "BadTown")) true, kitB1 K (ga K "BadTown") (.ref (ga K "TooMany")) false, kitB1 K (ga K "BadTown") (.ref (ga K "Uneven")) false, kitB1 K (ga K "BadTown") (.type "ValueError") true, xfB K (ga K "TooMany"), isxB K (ga K "TooMany"), eqO (PySem.W.findIn K (.ref (ga K "TooMany")) "what") (some none), eqO (PySem.W.findIn K (.ref (ga K "TooMany")) "count") (some none), kitB1 K (ga K "TooMany") (.ref (ga K "BadTown")) false, kitB1 K (ga K "TooMany") (.ref (ga K "TooMany")) true, kitB1 K (ga K "TooMany") (.ref (ga K "Uneven")) false, kitB1 K (ga K "TooMany") (.type "ValueError") true, xfB K (ga K "Uneven"), isxB K (ga K "Uneven"), eqO (PySem.W.findIn K (.ref (ga K "Uneven")) "crossing") (some none), kitB1 K (ga K "Uneven") (.ref (ga K "BadTown")) false, kitB1 K (ga K "Uneven") (.ref (ga K "TooMany")) false, kitB1 K (ga K "Uneven") (.ref (ga K "Uneven")) true, kitB1 K (ga K "Uneven") (.type "ValueError") true, tupB K "RESERVED" [.str "as", .str "apart", .str "bill", .str "bound", .str "cross", .str "deal", .str "depot", .str "done", .str "drive", .str "fall", .str "heap", .str "height", .str "ladder", .str "never", .str "none", .str "oneway", .str "place", .str "plan", .str "salt", .str "share", .str "shares", .str "storm", .str "street", .str "together", .str "town"]]
def ex (K : PySem.W.Frag) : Bool := (exl K).all fun b => b
abbrev Md (K : PySem.W.Frag) (mg : Str → Option Value) : Prop := BL.Md fa fn ex K mg
theorem _root_.BL.Md.exs {K : PySem.W.Frag} {mg : Str → Option Value} (M : Md K mg) (i : Nat) {b : Bool} (h : (exl K)[i]? = some b := by rfl) : b = true := List.all_eq_true.mp (show ((exl K).all fun b => b) = true from M.c.exq) b (List.mem_of_getElem? h)
section
variable {K : PySem.W.Frag} {mg : Str → Option Value}
theorem b_len (M : Md K mg) : mg "len" = none := M.free 0
theorem b_min (M : Md K mg) : mg "min" = none := M.free 1
theorem b_any (M : Md K mg) : mg "any" = none := M.free 2
theorem b_all (M : Md K mg) : mg "all" = none := M.free 3
theorem b_int (M : Md K mg) : mg "int" = none := M.free 4
theorem b_str (M : Md K mg) : mg "str" = none := M.free 5
theorem b_list (M : Md K mg) : mg "list" = none := M.free 6
theorem b_range (M : Md K mg) : mg "range" = none := M.free 7
theorem b_enumerate (M : Md K mg) : mg "enumerate" = none := M.free 8
theorem b_isinstance (M : Md K mg) : mg "isinstance" = none := M.free 9
theorem b_ValueError (M : Md K mg) : mg "ValueError" = none := M.free 10
theorem F_Groups___init__ (M : Md K mg) : ∃ fd, FunD K "__init__" "Groups.__init__" (defArgs s_Groups___init__) (defBody s_Groups___init__) (defScope s_Groups___init__) [] [] (ma K (ga K "Groups") "__init__") fd := M.c.def_ 0 (d := ⟨fun K => ma K (ga K "Groups") "__init__", "__init__", "Groups.__init__", defArgs s_Groups___init__, defBody s_Groups___init__, defScope s_Groups___init__, 0⟩)
theorem m_Groups_unite (M : Md K mg) : Meth K (ga K "Groups") "unite" (ma K (ga K "Groups") "unite") := meth_ok (M.c.fact 11 (f := .meth "Groups" "unite"))
theorem F_Groups_unite (M : Md K mg) : ∃ fd, FunD K "unite" "Groups.unite" (defArgs s_Groups_unite) (defBody s_Groups_unite) (defScope s_Groups_unite) [] [] (ma K (ga K "Groups") "unite") fd := M.c.def_ 1 (d := ⟨fun K => ma K (ga K "Groups") "unite", "unite", "Groups.unite", defArgs s_Groups_unite, defBody s_Groups_unite, defScope s_Groups_unite, 0⟩)
theorem m_Groups_members (M : Md K mg) : Meth K (ga K "Groups") "members" (ma K (ga K "Groups") "members") := meth_ok (M.c.fact 12 (f := .meth "Groups" "members"))
theorem F_Groups_members (M : Md K mg) : ∃ fd, FunD K "members" "Groups.members" (defArgs s_Groups_members) (defBody s_Groups_members) (defScope s_Groups_members) [] [] (ma K (ga K "Groups") "members") fd := M.c.def_ 2 (d := ⟨fun K => ma K (ga K "Groups") "members", "members", "Groups.members", defArgs s_Groups_members, defBody s_Groups_members, defScope s_Groups_members, 0⟩)
theorem F_Layout___init__ (M : Md K mg) : ∃ fd, FunD K "__init__" "Layout.__init__" (defArgs s_Layout___init__) (defBody s_Layout___init__) (defScope s_Layout___init__) [] [] (ma K (ga K "Layout") "__init__") fd := M.c.def_ 3 (d := ⟨fun K => ma K (ga K "Layout") "__init__", "__init__", "Layout.__init__", defArgs s_Layout___init__, defBody s_Layout___init__, defScope s_Layout___init__, 0⟩)
theorem g_check_text (M : Md K mg) : mg "check_text" = some (.ref (ga K "check_text")) := M.glo 13
theorem F_check_text (M : Md K mg) : ∃ fd, FunD K "check_text" "check_text" (defArgs s_check_text) (defBody s_check_text) (defScope s_check_text) [] [] (ga K "check_text") fd := M.c.def_ 4 (d := ⟨fun K => ga K "check_text", "check_text", "check_text", defArgs s_check_text, defBody s_check_text, defScope s_check_text, 0⟩)
theorem g_check_sizes (M : Md K mg) : mg "check_sizes" = some (.ref (ga K "check_sizes")) := M.glo 14
theorem F_check_sizes (M : Md K mg) : ∃ fd, FunD K "check_sizes" "check_sizes" (defArgs s_check_sizes) (defBody s_check_sizes) (defScope s_check_sizes) [] [] (ga K "check_sizes") fd := M.c.def_ 5 (d := ⟨fun K => ga K "check_sizes", "check_sizes", "check_sizes", defArgs s_check_sizes, defBody s_check_sizes, defScope s_check_sizes, 0⟩)
theorem g_is_name (M : Md K mg) : mg "is_name" = some (.ref (ga K "is_name")) := M.glo 15
theorem F_is_name (M : Md K mg) : ∃ fd, FunD K "is_name" "is_name" (defArgs s_is_name) (defBody s_is_name) (defScope s_is_name) [] [] (ga K "is_name") fd := M.c.def_ 6 (d := ⟨fun K => ga K "is_name", "is_name", "is_name", defArgs s_is_name, defBody s_is_name, defScope s_is_name, 0⟩)
theorem g_number_in (M : Md K mg) : mg "number_in" = some (.ref (ga K "number_in")) := M.glo 16
theorem F_number_in (M : Md K mg) : ∃ fd, FunD K "number_in" "number_in" (defArgs s_number_in) (defBody s_number_in) (defScope s_number_in) [] [] (ga K "number_in") fd := M.c.def_ 7 (d := ⟨fun K => ga K "number_in", "number_in", "number_in", defArgs s_number_in, defBody s_number_in, defScope s_number_in, 0⟩)
theorem g_kind_in (M : Md K mg) : mg "kind_in" = some (.ref (ga K "kind_in")) := M.glo 17
theorem F_kind_in (M : Md K mg) : ∃ fd, FunD K "kind_in" "kind_in" (defArgs s_kind_in) (defBody s_kind_in) (defScope s_kind_in) [] [] (ga K "kind_in") fd := M.c.def_ 8 (d := ⟨fun K => ga K "kind_in", "kind_in", "kind_in", defArgs s_kind_in, defBody s_kind_in, defScope s_kind_in, 0⟩)
theorem g_lines_of (M : Md K mg) : mg "lines_of" = some (.ref (ga K "lines_of")) := M.glo 18
theorem F_lines_of (M : Md K mg) : ∃ fd, FunD K "lines_of" "lines_of" (defArgs s_lines_of) (defBody s_lines_of) (defScope s_lines_of) [] [] (ga K "lines_of") fd := M.c.def_ 9 (d := ⟨fun K => ga K "lines_of", "lines_of", "lines_of", defArgs s_lines_of, defBody s_lines_of, defScope s_lines_of, 0⟩)
theorem F_Road___init__ (M : Md K mg) : ∃ fd, FunD K "__init__" "Road.__init__" (defArgs s_Road___init__) (defBody s_Road___init__) (defScope s_Road___init__) [] [] (ma K (ga K "Road") "__init__") fd := M.c.def_ 10 (d := ⟨fun K => ma K (ga K "Road") "__init__", "__init__", "Road.__init__", defArgs s_Road___init__, defBody s_Road___init__, defScope s_Road___init__, 0⟩)
theorem m_Road_two_way (M : Md K mg) : Meth K (ga K "Road") "two_way" (ma K (ga K "Road") "two_way") := meth_ok (M.c.fact 19 (f := .meth "Road" "two_way"))
theorem F_Road_two_way (M : Md K mg) : ∃ fd, FunD K "two_way" "Road.two_way" (defArgs s_Road_two_way) (defBody s_Road_two_way) (defScope s_Road_two_way) [] [] (ma K (ga K "Road") "two_way") fd := M.c.def_ 11 (d := ⟨fun K => ma K (ga K "Road") "two_way", "two_way", "Road.two_way", defArgs s_Road_two_way, defBody s_Road_two_way, defScope s_Road_two_way, 0⟩)
theorem F_TownReader___init__ (M : Md K mg) : ∃ fd, FunD K "__init__" "TownReader.__init__" (defArgs s_TownReader___init__) (defBody s_TownReader___init__) (defScope s_TownReader___init__) [] [] (ma K (ga K "TownReader") "__init__") fd := M.c.def_ 12 (d := ⟨fun K => ma K (ga K "TownReader") "__init__", "__init__", "TownReader.__init__", defArgs s_TownReader___init__, defBody s_TownReader___init__, defScope s_TownReader___init__, 0⟩)
theorem m_TownReader_read_text (M : Md K mg) : Meth K (ga K "TownReader") "read_text" (ma K (ga K "TownReader") "read_text") := meth_ok (M.c.fact 20 (f := .meth "TownReader" "read_text"))
theorem F_TownReader_read_text (M : Md K mg) : ∃ fd, FunD K "read_text" "TownReader.read_text" (defArgs s_TownReader_read_text) (defBody s_TownReader_read_text) (defScope s_TownReader_read_text) [] [] (ma K (ga K "TownReader") "read_text") fd := M.c.def_ 13 (d := ⟨fun K => ma K (ga K "TownReader") "read_text", "read_text", "TownReader.read_text", defArgs s_TownReader_read_text, defBody s_TownReader_read_text, defScope s_TownReader_read_text, 0⟩)
theorem m_TownReader_read_line (M : Md K mg) : Meth K (ga K "TownReader") "read_line" (ma K (ga K "TownReader") "read_line") := meth_ok (M.c.fact 21 (f := .meth "TownReader" "read_line"))
theorem F_TownReader_read_line (M : Md K mg) : ∃ fd, FunD K "read_line" "TownReader.read_line" (defArgs s_TownReader_read_line) (defBody s_TownReader_read_line) (defScope s_TownReader_read_line) [] [] (ma K (ga K "TownReader") "read_line") fd := M.c.def_ 14 (d := ⟨fun K => ma K (ga K "TownReader") "read_line", "read_line", "TownReader.read_line", defArgs s_TownReader_read_line, defBody s_TownReader_read_line, defScope s_TownReader_read_line, 0⟩)
theorem m_TownReader_read_crossing (M : Md K mg) : Meth K (ga K "TownReader") "read_crossing" (ma K (ga K "TownReader") "read_crossing") := meth_ok (M.c.fact 22 (f := .meth "TownReader" "read_crossing"))
theorem F_TownReader_read_crossing (M : Md K mg) : ∃ fd, FunD K "read_crossing" "TownReader.read_crossing" (defArgs s_TownReader_read_crossing) (defBody s_TownReader_read_crossing) (defScope s_TownReader_read_crossing) [] [] (ma K (ga K "TownReader") "read_crossing") fd := M.c.def_ 15 (d := ⟨fun K => ma K (ga K "TownReader") "read_crossing", "read_crossing", "TownReader.read_crossing", defArgs s_TownReader_read_crossing, defBody s_TownReader_read_crossing, defScope s_TownReader_read_crossing, 0⟩)
theorem m_TownReader_read_road (M : Md K mg) : Meth K (ga K "TownReader") "read_road" (ma K (ga K "TownReader") "read_road") := meth_ok (M.c.fact 23 (f := .meth "TownReader" "read_road"))
theorem F_TownReader_read_road (M : Md K mg) : ∃ fd, FunD K "read_road" "TownReader.read_road" (defArgs s_TownReader_read_road) (defBody s_TownReader_read_road) (defScope s_TownReader_read_road) [] [] (ma K (ga K "TownReader") "read_road") fd := M.c.def_ 16 (d := ⟨fun K => ma K (ga K "TownReader") "read_road", "read_road", "TownReader.read_road", defArgs s_TownReader_read_road, defBody s_TownReader_read_road, defScope s_TownReader_read_road, 0⟩)
theorem m_TownReader_read_done (M : Md K mg) : Meth K (ga K "TownReader") "read_done" (ma K (ga K "TownReader") "read_done") := meth_ok (M.c.fact 24 (f := .meth "TownReader" "read_done"))
theorem F_TownReader_read_done (M : Md K mg) : ∃ fd, FunD K "read_done" "TownReader.read_done" (defArgs s_TownReader_read_done) (defBody s_TownReader_read_done) (defScope s_TownReader_read_done) [] [] (ma K (ga K "TownReader") "read_done") fd := M.c.def_ 17 (d := ⟨fun K => ma K (ga K "TownReader") "read_done", "read_done", "TownReader.read_done", defArgs s_TownReader_read_done, defBody s_TownReader_read_done, defScope s_TownReader_read_done, 0⟩)
theorem m_TownReader_check_oneways (M : Md K mg) : Meth K (ga K "TownReader") "check_oneways" (ma K (ga K "TownReader") "check_oneways") := meth_ok (M.c.fact 25 (f := .meth "TownReader" "check_oneways"))
theorem F_TownReader_check_oneways (M : Md K mg) : ∃ fd, FunD K "check_oneways" "TownReader.check_oneways" (defArgs s_TownReader_check_oneways) (defBody s_TownReader_check_oneways) (defScope s_TownReader_check_oneways) [] [] (ma K (ga K "TownReader") "check_oneways") fd := M.c.def_ 18 (d := ⟨fun K => ma K (ga K "TownReader") "check_oneways", "check_oneways", "TownReader.check_oneways", defArgs s_TownReader_check_oneways, defBody s_TownReader_check_oneways, defScope s_TownReader_check_oneways, 0⟩)
theorem g_town_lanes (M : Md K mg) : mg "town_lanes" = some (.ref (ga K "town_lanes")) := M.glo 26
theorem F_town_lanes (M : Md K mg) : ∃ fd, FunD K "town_lanes" "town_lanes" (defArgs s_town_lanes) (defBody s_town_lanes) (defScope s_town_lanes) [] [] (ga K "town_lanes") fd := M.c.def_ 19 (d := ⟨fun K => ga K "town_lanes", "town_lanes", "town_lanes", defArgs s_town_lanes, defBody s_town_lanes, defScope s_town_lanes, 0⟩)
theorem g_town_heights (M : Md K mg) : mg "town_heights" = some (.ref (ga K "town_heights")) := M.glo 27
theorem F_town_heights (M : Md K mg) : ∃ fd, FunD K "town_heights" "town_heights" (defArgs s_town_heights) (defBody s_town_heights) (defScope s_town_heights) [] [] (ga K "town_heights") fd := M.c.def_ 20 (d := ⟨fun K => ga K "town_heights", "town_heights", "town_heights", defArgs s_town_heights, defBody s_town_heights, defScope s_town_heights, 0⟩)
theorem F_Town___init__ (M : Md K mg) : ∃ fd, FunD K "__init__" "Town.__init__" (defArgs s_Town___init__) (defBody s_Town___init__) (defScope s_Town___init__) [] [] (ma K (ga K "Town") "__init__") fd := M.c.def_ 21 (d := ⟨fun K => ma K (ga K "Town") "__init__", "__init__", "Town.__init__", defArgs s_Town___init__, defBody s_Town___init__, defScope s_Town___init__, 0⟩)
theorem pp_Town_text (M : Md K mg) : PropOf K (ga K "Town") "text" (pAd "Town" "text" K) (gAd "Town" "text" K) := propB_ok (M.exs 0)
theorem F_Town_text (M : Md K mg) : ∃ fd, FunD K "text" "Town.text" (defArgs s_Town_text) (defBody s_Town_text) (defScope s_Town_text) [] [] (gAd "Town" "text" K) fd := M.c.def_ 22 (d := ⟨gAd "Town" "text", "text", "Town.text", defArgs s_Town_text, defBody s_Town_text, defScope s_Town_text, 0⟩)
theorem g__law_bag (M : Md K mg) : mg "_law_bag" = some (.ref (ga K "_law_bag")) := M.glo 28
theorem F__law_bag (M : Md K mg) : ∃ fd, FunD K "_law_bag" "_law_bag" (defArgs s__law_bag) (defBody s__law_bag) (defScope s__law_bag) [] [] (ga K "_law_bag") fd := M.c.def_ 23 (d := ⟨fun K => ga K "_law_bag", "_law_bag", "_law_bag", defArgs s__law_bag, defBody s__law_bag, defScope s__law_bag, 0⟩)
theorem g__law_draw (M : Md K mg) : mg "_law_draw" = some (.ref (ga K "_law_draw")) := M.glo 29
theorem F__law_draw (M : Md K mg) : ∃ fd, FunD K "_law_draw" "_law_draw" (defArgs s__law_draw) (defBody s__law_draw) (defScope s__law_draw) [] [] (ga K "_law_draw") fd := M.c.def_ 24 (d := ⟨fun K => ga K "_law_draw", "_law_draw", "_law_draw", defArgs s__law_draw, defBody s__law_draw, defScope s__law_draw, 0⟩)
theorem g__law_of (M : Md K mg) : mg "_law_of" = some (.ref (ga K "_law_of")) := M.glo 30
theorem F__law_of (M : Md K mg) : ∃ fd, FunD K "_law_of" "_law_of" (defArgs s__law_of) (defBody s__law_of) (defScope s__law_of) [] [] (ga K "_law_of") fd := M.c.def_ 25 (d := ⟨fun K => ga K "_law_of", "_law_of", "_law_of", defArgs s__law_of, defBody s__law_of, defScope s__law_of, 0⟩)
theorem g__law_mixed (M : Md K mg) : mg "_law_mixed" = some (.ref (ga K "_law_mixed")) := M.glo 31
theorem F__law_mixed (M : Md K mg) : ∃ fd, FunD K "_law_mixed" "_law_mixed" (defArgs s__law_mixed) (defBody s__law_mixed) (defScope s__law_mixed) [] [] (ga K "_law_mixed") fd := M.c.def_ 26 (d := ⟨fun K => ga K "_law_mixed", "_law_mixed", "_law_mixed", defArgs s__law_mixed, defBody s__law_mixed, defScope s__law_mixed, 0⟩)
theorem g__law_kept (M : Md K mg) : mg "_law_kept" = some (.ref (ga K "_law_kept")) := M.glo 32
theorem F__law_kept (M : Md K mg) : ∃ fd, FunD K "_law_kept" "_law_kept" (defArgs s__law_kept) (defBody s__law_kept) (defScope s__law_kept) [] [] (ga K "_law_kept") fd := M.c.def_ 27 (d := ⟨fun K => ga K "_law_kept", "_law_kept", "_law_kept", defArgs s__law_kept, defBody s__law_kept, defScope s__law_kept, 0⟩)
theorem g__law_name (M : Md K mg) : mg "_law_name" = some (.ref (ga K "_law_name")) := M.glo 33
theorem F__law_name (M : Md K mg) : ∃ fd, FunD K "_law_name" "_law_name" (defArgs s__law_name) (defBody s__law_name) (defScope s__law_name) [] [] (ga K "_law_name") fd := M.c.def_ 28 (d := ⟨fun K => ga K "_law_name", "_law_name", "_law_name", defArgs s__law_name, defBody s__law_name, defScope s__law_name, 0⟩)
theorem g__law_fresh (M : Md K mg) : mg "_law_fresh" = some (.ref (ga K "_law_fresh")) := M.glo 34
theorem F__law_fresh (M : Md K mg) : ∃ fd, FunD K "_law_fresh" "_law_fresh" (defArgs s__law_fresh) (defBody s__law_fresh) (defScope s__law_fresh) [] [] (ga K "_law_fresh") fd := M.c.def_ 29 (d := ⟨fun K => ga K "_law_fresh", "_law_fresh", "_law_fresh", defArgs s__law_fresh, defBody s__law_fresh, defScope s__law_fresh, 0⟩)
theorem g__law_kind (M : Md K mg) : mg "_law_kind" = some (.ref (ga K "_law_kind")) := M.glo 35
theorem F__law_kind (M : Md K mg) : ∃ fd, FunD K "_law_kind" "_law_kind" (defArgs s__law_kind) (defBody s__law_kind) (defScope s__law_kind) [] [] (ga K "_law_kind") fd := M.c.def_ 30 (d := ⟨fun K => ga K "_law_kind", "_law_kind", "_law_kind", defArgs s__law_kind, defBody s__law_kind, defScope s__law_kind, 0⟩)
theorem g__law_shape (M : Md K mg) : mg "_law_shape" = some (.ref (ga K "_law_shape")) := M.glo 36
theorem F__law_shape (M : Md K mg) : ∃ fd, FunD K "_law_shape" "_law_shape" (defArgs s__law_shape) (defBody s__law_shape) (defScope s__law_shape) [] [] (ga K "_law_shape") fd := M.c.def_ 31 (d := ⟨fun K => ga K "_law_shape", "_law_shape", "_law_shape", defArgs s__law_shape, defBody s__law_shape, defScope s__law_shape, 0⟩)
theorem g__law_world (M : Md K mg) : mg "_law_world" = some (.ref (ga K "_law_world")) := M.glo 37
theorem F__law_world (M : Md K mg) : ∃ fd, FunD K "_law_world" "_law_world" (defArgs s__law_world) (defBody s__law_world) (defScope s__law_world) [] [] (ga K "_law_world") fd := M.c.def_ 32 (d := ⟨fun K => ga K "_law_world", "_law_world", "_law_world", defArgs s__law_world, defBody s__law_world, defScope s__law_world, 0⟩)
theorem g__law_line (M : Md K mg) : mg "_law_line" = some (.ref (ga K "_law_line")) := M.glo 38
theorem F__law_line (M : Md K mg) : ∃ fd, FunD K "_law_line" "_law_line" (defArgs s__law_line) (defBody s__law_line) (defScope s__law_line) [] [] (ga K "_law_line") fd := M.c.def_ 33 (d := ⟨fun K => ga K "_law_line", "_law_line", "_law_line", defArgs s__law_line, defBody s__law_line, defScope s__law_line, 0⟩)
theorem g__law_lines (M : Md K mg) : mg "_law_lines" = some (.ref (ga K "_law_lines")) := M.glo 39
theorem F__law_lines (M : Md K mg) : ∃ fd, FunD K "_law_lines" "_law_lines" (defArgs s__law_lines) (defBody s__law_lines) (defScope s__law_lines) [] [] (ga K "_law_lines") fd := M.c.def_ 34 (d := ⟨fun K => ga K "_law_lines", "_law_lines", "_law_lines", defArgs s__law_lines, defBody s__law_lines, defScope s__law_lines, 0⟩)
theorem g__law_text (M : Md K mg) : mg "_law_text" = some (.ref (ga K "_law_text")) := M.glo 40
theorem F__law_text (M : Md K mg) : ∃ fd, FunD K "_law_text" "_law_text" (defArgs s__law_text) (defBody s__law_text) (defScope s__law_text) [] [] (ga K "_law_text") fd := M.c.def_ 35 (d := ⟨fun K => ga K "_law_text", "_law_text", "_law_text", defArgs s__law_text, defBody s__law_text, defScope s__law_text, 0⟩)
theorem g__law_read (M : Md K mg) : mg "_law_read" = some (.ref (ga K "_law_read")) := M.glo 41
theorem F__law_read (M : Md K mg) : ∃ fd, FunD K "_law_read" "_law_read" (defArgs s__law_read) (defBody s__law_read) (defScope s__law_read) [] [] (ga K "_law_read") fd := M.c.def_ 36 (d := ⟨fun K => ga K "_law_read", "_law_read", "_law_read", defArgs s__law_read, defBody s__law_read, defScope s__law_read, 0⟩)
theorem g__law_rounds (M : Md K mg) : mg "_law_rounds" = some (.ref (ga K "_law_rounds")) := M.glo 42
theorem F__law_rounds (M : Md K mg) : ∃ fd, FunD K "_law_rounds" "_law_rounds" (defArgs s__law_rounds) (defBody s__law_rounds) (defScope s__law_rounds) [] [] (ga K "_law_rounds") fd := M.c.def_ 37 (d := ⟨fun K => ga K "_law_rounds", "_law_rounds", "_law_rounds", defArgs s__law_rounds, defBody s__law_rounds, defScope s__law_rounds, 0⟩)
theorem g__law_first_uneven (M : Md K mg) : mg "_law_first_uneven" = some (.ref (ga K "_law_first_uneven")) := M.glo 43
theorem F__law_first_uneven (M : Md K mg) : ∃ fd, FunD K "_law_first_uneven" "_law_first_uneven" (defArgs s__law_first_uneven) (defBody s__law_first_uneven) (defScope s__law_first_uneven) [] [] (ga K "_law_first_uneven") fd := M.c.def_ 38 (d := ⟨fun K => ga K "_law_first_uneven", "_law_first_uneven", "_law_first_uneven", defArgs s__law_first_uneven, defBody s__law_first_uneven, defScope s__law_first_uneven, 0⟩)
theorem g__law_bent (M : Md K mg) : mg "_law_bent" = some (.ref (ga K "_law_bent")) := M.glo 44
theorem F__law_bent (M : Md K mg) : ∃ fd, FunD K "_law_bent" "_law_bent" (defArgs s__law_bent) (defBody s__law_bent) (defScope s__law_bent) [] [] (ga K "_law_bent") fd := M.c.def_ 39 (d := ⟨fun K => ga K "_law_bent", "_law_bent", "_law_bent", defArgs s__law_bent, defBody s__law_bent, defScope s__law_bent, 0⟩)
theorem g_law (M : Md K mg) : mg "law" = some (.ref (ga K "law")) := M.glo 45
theorem F_law (M : Md K mg) : ∃ fd, FunD K "law" "law" (defArgs s_law) (defBody s_law) (defScope s_law) [] [] (ga K "law") fd := M.c.def_ 40 (d := ⟨fun K => ga K "law", "law", "law", defArgs s_law, defBody s_law, defScope s_law, 0⟩)
theorem kg_BadTown (M : Md K mg) : mg "BadTown" = some (.ref (ga K "BadTown")) := M.glo 46
theorem kc_BadTown (M : Md K mg) : ∃ u, mg "BadTown" = some u ∧ RelV (.ref (ga K "BadTown")) u := ⟨_, kg_BadTown M, rfl⟩
theorem kg_Uneven (M : Md K mg) : mg "Uneven" = some (.ref (ga K "Uneven")) := M.glo 47
theorem kc_Uneven (M : Md K mg) : ∃ u, mg "Uneven" = some u ∧ RelV (.ref (ga K "Uneven")) u := ⟨_, kg_Uneven M, rfl⟩
theorem kg_TooMany (M : Md K mg) : mg "TooMany" = some (.ref (ga K "TooMany")) := M.glo 48
theorem kc_TooMany (M : Md K mg) : ∃ u, mg "TooMany" = some u ∧ RelV (.ref (ga K "TooMany")) u := ⟨_, kg_TooMany M, rfl⟩
theorem kg_Groups (M : Md K mg) : mg "Groups" = some (.ref (ga K "Groups")) := M.glo 49
theorem c_Groups (M : Md K mg) : Cls K (ga K "Groups") := cls_ok (M.c.fact 50 (f := .cls "Groups"))
theorem mk_Groups (M : Md K mg) : Mk K (ga K "Groups") (ma K (ga K "Groups") "__init__") := mkr_ok (M.c.fact 51 (f := .mkr "Groups"))
theorem na_Groups_labels (M : Md K mg) : NoAttr K (ga K "Groups") "labels" := noat_ok (M.c.fact 52 (f := .noat "Groups" "labels"))
theorem kg_Layout (M : Md K mg) : mg "Layout" = some (.ref (ga K "Layout")) := M.glo 53
theorem c_Layout (M : Md K mg) : Cls K (ga K "Layout") := cls_ok (M.c.fact 54 (f := .cls "Layout"))
theorem mk_Layout (M : Md K mg) : Mk K (ga K "Layout") (ma K (ga K "Layout") "__init__") := mkr_ok (M.c.fact 55 (f := .mkr "Layout"))
theorem na_Layout_groups (M : Md K mg) : NoAttr K (ga K "Layout") "groups" := noat_ok (M.c.fact 56 (f := .noat "Layout" "groups"))
theorem na_Layout_spot_at (M : Md K mg) : NoAttr K (ga K "Layout") "spot_at" := noat_ok (M.c.fact 57 (f := .noat "Layout" "spot_at"))
theorem na_Layout_joins (M : Md K mg) : NoAttr K (ga K "Layout") "joins" := noat_ok (M.c.fact 58 (f := .noat "Layout" "joins"))
theorem na_Layout_degrees (M : Md K mg) : NoAttr K (ga K "Layout") "degrees" := noat_ok (M.c.fact 59 (f := .noat "Layout" "degrees"))
theorem na_Layout_kinds (M : Md K mg) : NoAttr K (ga K "Layout") "kinds" := noat_ok (M.c.fact 60 (f := .noat "Layout" "kinds"))
theorem kg_Road (M : Md K mg) : mg "Road" = some (.ref (ga K "Road")) := M.glo 61
theorem c_Road (M : Md K mg) : Cls K (ga K "Road") := cls_ok (M.c.fact 62 (f := .cls "Road"))
theorem mk_Road (M : Md K mg) : Mk K (ga K "Road") (ma K (ga K "Road") "__init__") := mkr_ok (M.c.fact 63 (f := .mkr "Road"))
theorem na_Road_start (M : Md K mg) : NoAttr K (ga K "Road") "start" := noat_ok (M.c.fact 64 (f := .noat "Road" "start"))
theorem na_Road_goal (M : Md K mg) : NoAttr K (ga K "Road") "goal" := noat_ok (M.c.fact 65 (f := .noat "Road" "goal"))
theorem na_Road_times (M : Md K mg) : NoAttr K (ga K "Road") "times" := noat_ok (M.c.fact 66 (f := .noat "Road" "times"))
theorem na_Road_load (M : Md K mg) : NoAttr K (ga K "Road") "load" := noat_ok (M.c.fact 67 (f := .noat "Road" "load"))
theorem na_Road_weight (M : Md K mg) : NoAttr K (ga K "Road") "weight" := noat_ok (M.c.fact 68 (f := .noat "Road" "weight"))
theorem kg_TownReader (M : Md K mg) : mg "TownReader" = some (.ref (ga K "TownReader")) := M.glo 69
theorem c_TownReader (M : Md K mg) : Cls K (ga K "TownReader") := cls_ok (M.c.fact 70 (f := .cls "TownReader"))
theorem mk_TownReader (M : Md K mg) : Mk K (ga K "TownReader") (ma K (ga K "TownReader") "__init__") := mkr_ok (M.c.fact 71 (f := .mkr "TownReader"))
theorem na_TownReader_kinds (M : Md K mg) : NoAttr K (ga K "TownReader") "kinds" := noat_ok (M.c.fact 72 (f := .noat "TownReader" "kinds"))
theorem na_TownReader_roads (M : Md K mg) : NoAttr K (ga K "TownReader") "roads" := noat_ok (M.c.fact 73 (f := .noat "TownReader" "roads"))
theorem na_TownReader_ended (M : Md K mg) : NoAttr K (ga K "TownReader") "ended" := noat_ok (M.c.fact 74 (f := .noat "TownReader" "ended"))
theorem kg_Town (M : Md K mg) : mg "Town" = some (.ref (ga K "Town")) := M.glo 75
theorem c_Town (M : Md K mg) : Cls K (ga K "Town") := cls_ok (M.c.fact 76 (f := .cls "Town"))
theorem mk_Town (M : Md K mg) : Mk K (ga K "Town") (ma K (ga K "Town") "__init__") := mkr_ok (M.c.fact 77 (f := .mkr "Town"))
theorem na_Town__text (M : Md K mg) : NoAttr K (ga K "Town") "_text" := noat_ok (M.c.fact 78 (f := .noat "Town" "_text"))
theorem na_Town__kinds (M : Md K mg) : NoAttr K (ga K "Town") "_kinds" := noat_ok (M.c.fact 79 (f := .noat "Town" "_kinds"))
theorem na_Town__roads (M : Md K mg) : NoAttr K (ga K "Town") "_roads" := noat_ok (M.c.fact 80 (f := .noat "Town" "_roads"))
theorem na_Town__lanes (M : Md K mg) : NoAttr K (ga K "Town") "_lanes" := noat_ok (M.c.fact 81 (f := .noat "Town" "_lanes"))
theorem na_Town__streets (M : Md K mg) : NoAttr K (ga K "Town") "_streets" := noat_ok (M.c.fact 82 (f := .noat "Town" "_streets"))
theorem na_Town__oneways (M : Md K mg) : NoAttr K (ga K "Town") "_oneways" := noat_ok (M.c.fact 83 (f := .noat "Town" "_oneways"))
theorem na_Town__heights (M : Md K mg) : NoAttr K (ga K "Town") "_heights" := noat_ok (M.c.fact 84 (f := .noat "Town" "_heights"))
theorem na_Town_layout (M : Md K mg) : NoAttr K (ga K "Town") "layout" := noat_ok (M.c.fact 85 (f := .noat "Town" "layout"))
theorem EX_BadTown (M : Md K mg) : PySem.W.exmAny K (.ref (ga K "BadTown")) [.ref (ga K "BadTown"), .ref (ga K "TooMany"), .ref (ga K "Uneven")] = some true := of_decide_eq_true (M.exs 1)
theorem EX_TooMany (M : Md K mg) : PySem.W.exmAny K (.ref (ga K "TooMany")) [.ref (ga K "BadTown"), .ref (ga K "TooMany"), .ref (ga K "Uneven")] = some true := of_decide_eq_true (M.exs 2)
theorem EX_Uneven (M : Md K mg) : PySem.W.exmAny K (.ref (ga K "Uneven")) [.ref (ga K "BadTown"), .ref (ga K "TooMany"), .ref (ga K "Uneven")] = some true := of_decide_eq_true (M.exs 3)
theorem F_BadTown___init__ (M : Md K mg) : ∃ fd, FunD K "__init__" "BadTown.__init__" (defArgs s_BadTown___init__) (defBody s_BadTown___init__) (defScope s_BadTown___init__) [] [] (ma K (ga K "BadTown") "__init__") fd := M.c.def_ 41 (d := ⟨fun K => ma K (ga K "BadTown") "__init__", "__init__", "BadTown.__init__", defArgs s_BadTown___init__, defBody s_BadTown___init__, defScope s_BadTown___init__, 0⟩)
theorem V_BadTown (M : Md K mg) : VeC K "BadTown" := ve_ok (M.exs 4)
theorem F_TooMany___init__ (M : Md K mg) : ∃ fd, FunD K "__init__" "TooMany.__init__" (defArgs s_TooMany___init__) (defBody s_TooMany___init__) (defScope s_TooMany___init__) [] [] (ma K (ga K "TooMany") "__init__") fd := M.c.def_ 42 (d := ⟨fun K => ma K (ga K "TooMany") "__init__", "__init__", "TooMany.__init__", defArgs s_TooMany___init__, defBody s_TooMany___init__, defScope s_TooMany___init__, 0⟩)
theorem V_TooMany (M : Md K mg) : VeC K "TooMany" := ve_ok (M.exs 5)
theorem F_Uneven___init__ (M : Md K mg) : ∃ fd, FunD K "__init__" "Uneven.__init__" (defArgs s_Uneven___init__) (defBody s_Uneven___init__) (defScope s_Uneven___init__) [] [] (ma K (ga K "Uneven") "__init__") fd := M.c.def_ 43 (d := ⟨fun K => ma K (ga K "Uneven") "__init__", "__init__", "Uneven.__init__", defArgs s_Uneven___init__, defBody s_Uneven___init__, defScope s_Uneven___init__, 0⟩)
theorem V_Uneven (M : Md K mg) : VeC K "Uneven" := ve_ok (M.exs 6)
theorem XF_BadTown (M : Md K mg) : XfC K (ga K "BadTown") := xfB_ok (M.exs 7)
theorem IX_BadTown (M : Md K mg) : IsxC K (ga K "BadTown") := isxB_ok (M.exs 8)
theorem NF_BadTown_line (M : Md K mg) : PySem.W.findIn K (.ref (ga K "BadTown")) "line" = some none := eqO_ok (M.exs 9)
theorem NF_BadTown_why (M : Md K mg) : PySem.W.findIn K (.ref (ga K "BadTown")) "why" = some none := eqO_ok (M.exs 10)
theorem KI_BadTown_BadTown (M : Md K mg) : PySem.W.kitOne K (.ref (ga K "BadTown")) (.ref (ga K "BadTown")) = some true := of_decide_eq_true (M.exs 11)
theorem KI_BadTown_TooMany (M : Md K mg) : PySem.W.kitOne K (.ref (ga K "BadTown")) (.ref (ga K "TooMany")) = some false := of_decide_eq_true (M.exs 12)
theorem KI_BadTown_Uneven (M : Md K mg) : PySem.W.kitOne K (.ref (ga K "BadTown")) (.ref (ga K "Uneven")) = some false := of_decide_eq_true (M.exs 13)
theorem KI_BadTown_ValueError (M : Md K mg) : PySem.W.kitOne K (.ref (ga K "BadTown")) (.type "ValueError") = some true := of_decide_eq_true (M.exs 14)
theorem XF_TooMany (M : Md K mg) : XfC K (ga K "TooMany") := xfB_ok (M.exs 15)
theorem IX_TooMany (M : Md K mg) : IsxC K (ga K "TooMany") := isxB_ok (M.exs 16)
theorem NF_TooMany_what (M : Md K mg) : PySem.W.findIn K (.ref (ga K "TooMany")) "what" = some none := eqO_ok (M.exs 17)
theorem NF_TooMany_count (M : Md K mg) : PySem.W.findIn K (.ref (ga K "TooMany")) "count" = some none := eqO_ok (M.exs 18)
theorem KI_TooMany_BadTown (M : Md K mg) : PySem.W.kitOne K (.ref (ga K "TooMany")) (.ref (ga K "BadTown")) = some false := of_decide_eq_true (M.exs 19)
theorem KI_TooMany_TooMany (M : Md K mg) : PySem.W.kitOne K (.ref (ga K "TooMany")) (.ref (ga K "TooMany")) = some true := of_decide_eq_true (M.exs 20)
theorem KI_TooMany_Uneven (M : Md K mg) : PySem.W.kitOne K (.ref (ga K "TooMany")) (.ref (ga K "Uneven")) = some false := of_decide_eq_true (M.exs 21)
theorem KI_TooMany_ValueError (M : Md K mg) : PySem.W.kitOne K (.ref (ga K "TooMany")) (.type "ValueError") = some true := of_decide_eq_true (M.exs 22)
theorem XF_Uneven (M : Md K mg) : XfC K (ga K "Uneven") := xfB_ok (M.exs 23)
theorem IX_Uneven (M : Md K mg) : IsxC K (ga K "Uneven") := isxB_ok (M.exs 24)
theorem NF_Uneven_crossing (M : Md K mg) : PySem.W.findIn K (.ref (ga K "Uneven")) "crossing" = some none := eqO_ok (M.exs 25)
theorem KI_Uneven_BadTown (M : Md K mg) : PySem.W.kitOne K (.ref (ga K "Uneven")) (.ref (ga K "BadTown")) = some false := of_decide_eq_true (M.exs 26)
theorem KI_Uneven_TooMany (M : Md K mg) : PySem.W.kitOne K (.ref (ga K "Uneven")) (.ref (ga K "TooMany")) = some false := of_decide_eq_true (M.exs 27)
theorem KI_Uneven_Uneven (M : Md K mg) : PySem.W.kitOne K (.ref (ga K "Uneven")) (.ref (ga K "Uneven")) = some true := of_decide_eq_true (M.exs 28)
theorem KI_Uneven_ValueError (M : Md K mg) : PySem.W.kitOne K (.ref (ga K "Uneven")) (.type "ValueError") = some true := of_decide_eq_true (M.exs 29)
abbrev kv_TEXT_LIMIT (_ : PySem.W.Frag) : V := .int 20000
theorem k_TEXT_LIMIT (M : Md K mg) : ∃ u, mg "TEXT_LIMIT" = some u ∧ RelV (kv_TEXT_LIMIT K) u := M.int 86
abbrev kv_CROSSING_LIMIT (_ : PySem.W.Frag) : V := .int 24
theorem k_CROSSING_LIMIT (M : Md K mg) : ∃ u, mg "CROSSING_LIMIT" = some u ∧ RelV (kv_CROSSING_LIMIT K) u := M.int 87
abbrev kv_STREET_LIMIT (_ : PySem.W.Frag) : V := .int 36
theorem k_STREET_LIMIT (M : Md K mg) : ∃ u, mg "STREET_LIMIT" = some u ∧ RelV (kv_STREET_LIMIT K) u := M.int 88
abbrev kv_ONEWAY_LIMIT (_ : PySem.W.Frag) : V := .int 12
theorem k_ONEWAY_LIMIT (M : Md K mg) : ∃ u, mg "ONEWAY_LIMIT" = some u ∧ RelV (kv_ONEWAY_LIMIT K) u := M.int 89
abbrev kv_DIGITS (_ : PySem.W.Frag) : V := .str "0123456789"
theorem k_DIGITS (M : Md K mg) : ∃ u, mg "DIGITS" = some u ∧ RelV (kv_DIGITS K) u := M.str 90
abbrev kv_LETTERS (_ : PySem.W.Frag) : V := .str "abcdefghijklmnopqrstuvwxyz"
theorem k_LETTERS (M : Md K mg) : ∃ u, mg "LETTERS" = some u ∧ RelV (kv_LETTERS K) u := M.str 91
abbrev kv_RESERVED (K : PySem.W.Frag) : V := .ref (ga K "RESERVED")
theorem k_RESERVED (M : Md K mg) : ∃ u, mg "RESERVED" = some u ∧ RelV (kv_RESERVED K) u := ⟨_, M.glo 92 (x := "RESERVED"), rfl⟩
theorem kt_RESERVED (M : Md K mg) (H : Hp) : SqT K H (ga K "RESERVED") (([.str "as", .str "apart", .str "bill", .str "bound", .str "cross", .str "deal", .str "depot", .str "done", .str "drive", .str "fall", .str "heap", .str "height", .str "ladder", .str "never", .str "none", .str "oneway", .str "place", .str "plan", .str "salt", .str "share", .str "shares", .str "storm", .str "street", .str "together", .str "town"] : List Dv).map (Dv.v K)) := tupB_ok (M.exs 30) H
abbrev kv_NAME_LENGTH (_ : PySem.W.Frag) : V := .int 8
theorem k_NAME_LENGTH (M : Md K mg) : ∃ u, mg "NAME_LENGTH" = some u ∧ RelV (kv_NAME_LENGTH K) u := M.int 93
abbrev kv_NUMBER_LENGTH (_ : PySem.W.Frag) : V := .int 9
theorem k_NUMBER_LENGTH (M : Md K mg) : ∃ u, mg "NUMBER_LENGTH" = some u ∧ RelV (kv_NUMBER_LENGTH K) u := M.int 94
abbrev kv_GREATEST_PRICE (_ : PySem.W.Frag) : V := .int 40
theorem k_GREATEST_PRICE (M : Md K mg) : ∃ u, mg "GREATEST_PRICE" = some u ∧ RelV (kv_GREATEST_PRICE K) u := M.int 95
abbrev kv_MOST_MINUTES (_ : PySem.W.Frag) : V := .int 60
theorem k_MOST_MINUTES (M : Md K mg) : ∃ u, mg "MOST_MINUTES" = some u ∧ RelV (kv_MOST_MINUTES K) u := M.int 96
abbrev kv_MOST_SACKS (_ : PySem.W.Frag) : V := .int 9
theorem k_MOST_SACKS (M : Md K mg) : ∃ u, mg "MOST_SACKS" = some u ∧ RelV (kv_MOST_SACKS K) u := M.int 97
abbrev kv_LAST_RANK (_ : PySem.W.Frag) : V := .int 3
theorem k_LAST_RANK (M : Md K mg) : ∃ u, mg "LAST_RANK" = some u ∧ RelV (kv_LAST_RANK K) u := M.int 98
end
end K02
set_option maxRecDepth 100000
namespace BL
open PySem PySem.Spec PyProof.Rows L2 SX He
/-- the addresses that the Hook reads: four steps from the top's names, one more behind the getters -/
def asP (g : Addr → Option Obj) : List Addr :=
  let b := asD g 4
  b ++ b.flatMap fun a => match g a with
    | some o => if o.cls = .type "property" then (refsD o).flatMap fun q => match g q with
      | some f => refsD f
      | none => [] else []
    | none => []
def obsPG (fa : List Fa) (fn : List DefA) (ex : PySem.W.Frag → Bool) (g : Addr → Option Obj) : AlQ := obsQ fa fn ex (frG g (asP g))
def hookP (fa : List Fa) (fn : List DefA) (ex : PySem.W.Frag → Bool) : PySem.W.Hook where
  α := AlQ
  obs := fun s => obsPG fa fn ex s.heap.get?
  val := fun _ => valQ fn
  says := fun _ h => ∃ K : PySem.W.Frag, K.In h ∧ SaysQ fa fn ex K
  of := fun _ _ e => ⟨_, frG_in, e⟩
  keeps := fun _ _ _ ⟨K, hK, c⟩ k => ⟨K, PySem.W.Frag.In.keeps hK k, c⟩
theorem obsPG_eq {fa : List Fa} {fn : List DefA} {ex : PySem.W.Frag → Bool} {g : Addr → Option Obj} {s : Shared} (h : ∀ a, g a = s.heap.get? a) : obsPG fa fn ex g = (hookP fa fn ex).obs s := by
  have e : g = s.heap.get? := funext h
  rw [e] <;> rfl
theorem run_join {S0 β : Type} {o : Option S0} {A : S0 → Bool} {B : S0 → β} {bv : β} {fa : List Fa} {fn : List DefA} {ex : PySem.W.Frag → Bool} {g : S0 → Addr → Option Obj}
    (h1 : o.map (fun s => (A s, B s)) = some (true, bv)) (h2 : o.map (fun s => obsPG fa [] ex (g s)) = some (true, [])) (h3 : o.map (fun s => obsPG [] fn (fun _ => true) (g s)) = some (true, fn.map DefA.val)) :
    o.map (fun s => (A s, B s, obsPG fa fn ex (g s))) = some (true, bv, valQ fn) := by
  cases o with
  | none => cases h1
  | some s =>
    have e1 := Option.some.inj h1
    have e2 := Option.some.inj h2
    have e3 := Option.some.inj h3
    have a1 : A s = true := congrArg Prod.fst e1
    have a2 : B s = bv := congrArg Prod.snd e1
    have b1 : ((fa.all fun f => f.ok (frG (g s) (asP (g s)))) && true && ex (frG (g s) (asP (g s)))) = true := congrArg Prod.fst e2
    have c1 : (true && (fn.all fun d => d.ok (frG (g s) (asP (g s)))) && true) = true := congrArg Prod.fst e3
    have c2 : (fn.map fun d => fnA (frG (g s) (asP (g s))) (d.ad (frG (g s) (asP (g s))))) = fn.map DefA.val := congrArg Prod.snd e3
    rw [Bool.and_true, Bool.and_eq_true] at b1
    rw [Bool.and_true, Bool.true_and] at c1
    show some (A s, B s, ((fa.all fun f => f.ok (frG (g s) (asP (g s)))) && (fn.all fun d => d.ok (frG (g s) (asP (g s)))) && ex (frG (g s) (asP (g s))), fn.map fun d => fnA (frG (g s) (asP (g s))) (d.ad (frG (g s) (asP (g s)))))) = _
    rw [a1, a2, b1.1, b1.2, c1, c2]
    rfl
end BL
set_option maxRecDepth 100000
set_option maxHeartbeats 0
namespace K02
open PySem PySem.Spec PyProof.Rows L2 He BL
abbrev R : PySem.W.OpenRow := PySem.W.OpenLaw.row PySem.Challenge.rw_bothlanes_k02_uneven_towns
abbrev hk : PySem.W.Hook := hookP fa fn ex
def ob (s : PySem.W.SharedT) : AlQ := obsPG fa fn ex (HandSHeadRun.getT s)
theorem ob_eq (s : PySem.W.SharedT) : ob s = hk.obs s.abs := obsPG_eq (HandSHeadRun.getT_eq s)
def loose0 : List Str := ["_wall", "check_text", "check_sizes", "is_name", "number_in", "kind_in", "lines_of", "town_lanes", "town_heights", "_law_bag", "_law_draw", "_law_of", "_law_mixed", "_law_kept", "_law_name", "_law_fresh", "_law_kind", "_law_shape", "_law_world", "_law_line", "_law_lines", "_law_text", "_law_read", "_law_rounds", "_law_first_uneven", "_law_bent", "BadTown", "Uneven", "TooMany", "NoSuch"]
def loose1 : List Str := ["Groups", "Layout", "Road", "TownReader", "Town", "TEXT_LIMIT", "CROSSING_LIMIT", "STREET_LIMIT", "ONEWAY_LIMIT", "DIGITS", "LETTERS", "RESERVED", "NAME_LENGTH", "NUMBER_LENGTH", "GREATEST_PRICE", "MOST_MINUTES", "MOST_SACKS", "LAST_RANK"]
def loose : List Str := loose0 ++ loose1
def lawAt : Nat := 56
open PySem.W PySem.Calls HandSHeadRun in
theorem run1 (w : World) (os : OsState) : (endF (stepQ (denQ tabQ) R.prog w) 9000 R.prog w os).map (fun s => (looksF R.prog (boot_heap w.params) s.abs, seenQ (PySem.W.view R.prog [lawAt]) loose (importedModules R.prog.main.body) (fun s => xlAt (PySem.W.view R.prog [lawAt]) [] s && recOk R.toRowW.records s) s.abs)) = some (true, openGood (PySem.W.view R.prog [lawAt]) loose) := by kernel_rfl
open PySem.W PySem.Calls HandSHeadRun in
theorem run2 (w : World) (os : OsState) : (endF (stepQ (denQ tabQ) R.prog w) 9000 R.prog w os).map (fun s => obsPG fa [] ex (getT s)) = some (true, []) := by kernel_rfl
open PySem.W PySem.Calls HandSHeadRun in
theorem run3 (w : World) (os : OsState) : (endF (stepQ (denQ tabQ) R.prog w) 9000 R.prog w os).map (fun s => obsPG [] fn (fun _ => true) (getT s)) = some (true, fn.map DefA.val) := by kernel_rfl
theorem run (w : World) : HandSHeadRun.RunEq R (PySem.W.view R.prog [lawAt]) hk ob 9000 loose w := fun os => BL.run_join (run1 w os) (run2 w os) (run3 w os)
end K02
set_option maxRecDepth 100000
set_option maxHeartbeats 0
namespace K02
open PySem PySem.W PySem.Calls PyProof.Rows
abbrev RR : PySem.W.OpenRow := PySem.W.OpenLaw.row PySem.Challenge.rw_bothlanes_k02_uneven_towns
abbrev lAt : Nat := 56
theorem opn (h : RR.wellSaid = true → RR.Holds) : PySem.Challenge.rw_bothlanes_k02_uneven_towns.Holds := by
  w_on; o_law
  exact h (by assumption)
theorem h_e : opening RR.prog = plainProg RR.prog.main.scope.names := by kernel_rfl
theorem h_f : ∀ s, fenceModules? RR.prog s = some s := fun s => by kernel_rfl
theorem h_def : defOf (view RR.prog [lAt]) RR.name = some (HandSHeadRun.topDef RR.prog lAt, []) := by kernel_rfl
theorem h_p : RR.prog.theDef RR.name = some ((HandSHeadRun.topDef RR.prog lAt).params, (HandSHeadRun.topDef RR.prog lAt).body, (HandSHeadRun.topDef RR.prog lAt).scope) := by kernel_rfl
theorem h_k : kwWritten? (HandSHeadRun.topDef RR.prog lAt).params.kwonlyargs (HandSHeadRun.topDef RR.prog lAt).params.kw_defaults = some [] := by kernel_rfl
theorem h_w : (!RR.writes || RR.records.isEmpty) = true := by rfl
theorem h_ok : (chainsOk (view RR.prog [lAt]) && opensWell RR.prog && (frees RR.toRowW && RR.within.isEmpty)) = true := by decide +kernel
theorem h_b : RR.prog.bare := ⟨rfl, rfl, rfl, rfl, rfl, by decide +kernel⟩
theorem h_n : (HandSHeadRun.topDef RR.prog lAt).name = ("law" : PySem.Str) := by kernel_rfl
theorem h_df : (HandSHeadRun.topDef RR.prog lAt).params.defaults = [] := by kernel_rfl
end K02
set_option maxRecDepth 100000
set_option maxHeartbeats 4000000
namespace K02
open PySem PySem.Spec PyProof.Rows L2 He BL
local macro_rules | `(tactic| walk_at "ar") => `(tactic| first
  | exact Or.inl ⟨by omega, by omega⟩
  | exact Or.inr ⟨by omega, by omega⟩
  | exact ⟨by omega, by omega⟩
  | exact ⟨by omega, by omega, by omega⟩
  | exact ⟨by decide, by decide, by decide⟩
  | exact Nat.le_of_ble_eq_true rfl
  | exact rfl
  | omega
  | decide
  | fail)
local macro_rules | `(tactic| walk_at "ne") => `(tactic| first
  | assumption
  | (apply Ne.symm; assumption)
  | (refine ne_of_none ?_ (by assumption); walk_at "hp")
  | (apply Ne.symm; refine ne_of_none ?_ (by assumption); walk_at "hp")
  | fail)
local macro_rules | `(tactic| walk_at "hp") => `(tactic| first
  | assumption
  | exact upd_same
  | (refine (upd_ne ?_).trans ?_; · walk_at "ne"; · walk_at "hp")
  | (refine BL.Kp.at (by assumption) ?_ ?_; · walk_at "hp"; · walk_at "ne")
  | (refine BL.Same.at (by assumption) ?_; walk_at "hp")
  | fail)
local macro_rules | `(tactic| walk_at "rd1") => `(tactic| first
  | refine ⟨_, rfl, ?_⟩
  | refine ⟨_, _, rfl, rfl, ?_⟩
  | refine Or.inl ⟨_, rfl, ?_⟩
  | (refine ⟨_, _, _, _, rfl, rfl, SqL.of (by walk_at "hp"), rfl, ?_⟩)
  | (refine ⟨_, _, _, _, rfl, rfl, (by walk_at "hp"), rfl, ?_⟩)
  | (refine And.intro (by walk_at "ar") ?_)
  | fail)
local macro_rules | `(tactic| walk_at "rd") => `(tactic| (walk_at "rd1"; repeat' walk_at "rd1"))
variable {P : Program} {w : World} {K : PySem.W.Frag} {mg : Str → Option Value} {base : Heap}
theorem sc__law_draw : FnScope ["bag", "limit", "cell", "digit", "mix"] ["bag", "limit"] (defScope s__law_draw) := ⟨rfl, rfl, rfl, by decide +kernel, rfl, by decide +kernel, by decide +kernel⟩
abbrev sp__law_draw : Sp := fun vs H Q _ => ∃ (b c : Addr) (lim : Int), vs = [.ref b, .int lim] ∧ BagAt H b c ∧ 0 < lim ∧ lim < 1000000 ∧
  ∀ (r : Int) (H' : Hp), 0 ≤ r → r < lim → Kp b H H' → BagAt H' b c → Q (.int r) H'
theorem cal__law_draw (M : Md K mg) : C8.Cal P w K mg base 1 "_law_draw" sp__law_draw [] := by
  refine cal_of (F__law_draw M) (g__law_draw M) sc__law_draw (fun _ _ _ _ _ _ us hl => match us, hl with | [_, _], _ => rfl) (fun vs H Q E h => ?_) (fun cdv A outer s H vs Q E hr h => ?_)
  · obtain ⟨b, c, lim, rfl, _⟩ := h
    rfl
  · obtain ⟨b, c, lim, rfl, hb, l0, l1, k⟩ := h
    obtain ⟨ncb, cs, i, g, m, n, h1, h2, i0, g0, m0, m1⟩ := hb
    refine ⟨_, (pss_cons (ps_asg (pe_op op_add (pe_ix ix_list (pv 0) pe_int (fun _ _ => rfl)) pe_int) (pg_sub (pv 0) pe_int set_list))
  (C8.pss_cut (ps_if (PW.pt (pw_and (pt_cmpR op_eq (pe_ix ix_list (pv 0) pe_int (fun _ _ => rfl)) pe_int (nomark _)) (pw_and1 (pt_cmpR op_lt (pe_ix ix_list (pv 0) pe_int (fun _ _ => rfl)) (pe_callB call_len_seq (by rfl) (b_len M) PySem.boot_len (pa_cons (pe_ix ix_list (pv 0) pe_int (fun _ _ => rfl)) pa_nil)) (nomark _))))) (pss_cons (ps_set (i := 2) sc__law_draw.nd rfl (Or.inl rfl) (pe_callTy call_int1 (by rfl) (b_int M) (by decide +kernel) (pa_cons (pe_ix ix_list (pe_ix ix_list (pv 0) pe_int (fun _ _ => rfl)) (pe_ix ix_list (pv 0) pe_int (fun _ _ => rfl)) (fun _ _ => rfl)) pa_nil)))
  (pss_cons (ps_asg (pe_op op_add (pe_ix ix_list (pv 0) pe_int (fun _ _ => rfl)) pe_int) (pg_sub (pv 0) pe_int set_list))
  (pss_one (ps_if (pt_cmpR op_ge (pv 2) (pe_op op_pow pe_int pe_int) (nomark _)) (pss_one (ps_asg (pv 2) (pg_sub (pv 0) pe_int set_list))) (pss_one (ps_asg (pe_op op_mod (pe_callTy call_int1 (by rfl) (b_int M) (by decide +kernel) (pa_cons (pe_op op_add (pe_op op_add (pe_op op_mul (pe_ix ix_list (pv 0) pe_int (fun _ _ => rfl)) pe_int) (pe_op op_mul (pe_op op_mod (pe_callTy call_int1 (by rfl) (b_int M) (by decide +kernel) (pa_cons (pv 2) pa_nil)) pe_int) pe_int)) pe_int) pa_nil)) pe_int) (pg_sub (pv 0) pe_int set_list))))))) pss_nil)
  (pss_cons (ps_if (pt_cmpR op_gt (pe_ix ix_list (pv 0) pe_int (fun _ _ => rfl)) pe_int (nomark _)) (pss_cons (ps_set (i := 3) sc__law_draw.nd rfl (Or.inl rfl) (pe_op op_mod (pe_callTy call_int1 (by rfl) (b_int M) (by decide +kernel) (pa_cons (pe_ix ix_list (pv 0) pe_int (fun _ _ => rfl)) pa_nil)) (pv 1)))
  (pss_cons (ps_asg (pe_op op_fdiv (pe_ix ix_list (pv 0) pe_int (fun _ _ => rfl)) (pv 1)) (pg_sub (pv 0) pe_int set_list))
  (pss_one (ps_ret (pv 3))))) pss_nil)
  (pss_cons (ps_set (i := 4) sc__law_draw.nd rfl (Or.inl rfl) (pe_callTy call_int1 (by rfl) (b_int M) (by decide +kernel) (pa_cons (pe_ix ix_list (pv 0) pe_int (fun _ _ => rfl)) pa_nil)))
  (pss_cons (ps_asg (pe_op op_mod (pe_callTy call_int1 (by rfl) (b_int M) (by decide +kernel) (pa_cons (pe_op op_add (pe_op op_add (pe_op op_add (pe_op op_pow (pv 4) pe_int) (pe_op op_mul (pv 4) pe_int)) (pe_op op_mul (pe_ix ix_list (pv 0) pe_int (fun _ _ => rfl)) pe_int)) pe_int) pa_nil)) pe_int) (pg_sub (pv 0) pe_int set_list))
  (pss_one (ps_ret (pe_op op_mod (pe_callTy call_int1 (by rfl) (b_int M) (by decide +kernel) (pa_cons (pe_op op_add (pe_op op_fdiv (pe_ix ix_list (pv 0) pe_int (fun _ _ => rfl)) pe_int) (pe_op op_mul (pe_op op_mod (pe_callTy call_int1 (by rfl) (b_int M) (by decide +kernel) (pa_cons (pe_ix ix_list (pv 0) pe_int (fun _ _ => rfl)) pa_nil)) pe_int) pe_int)) pa_nil)) (pv 1))))))))), ?_⟩
    -- bag[4] = bag[4] + 1
    walk_at "rd"
    refine ⟨fun σ H1 => ∃ (o : Option V) (i' g' m' n' : Int), σ = [some (.ref b), some (.int lim), o, none, none] ∧ Kp b H H1 ∧ H1 b = some (.lst [.ref c, .int i', .int g', .int m', .int n']) ∧ H1 c = some (.lst (cs.map .int)) ∧ 0 ≤ i' ∧ 0 ≤ g' ∧ 0 ≤ m' ∧ m' < 2147483647, ?_, ?_⟩
    · have kp_set : Kp b H (upd H b (.lst [.ref c, .int i, .int g, .int m, .int (n + 1)])) := Kp.upd
      have hc0 : (upd H b (.lst [.ref c, .int i, .int g, .int m, .int (n + 1)])) c = some (.lst (cs.map .int)) := (upd_ne ncb).trans h2
      walk_at "rd"
      refine iteI (fun e1 => ?_) (fun e1 => ?_)
      · walk_at "rd"
        refine ⟨_, _, rfl, .inl (SqL.of hc0), ?_⟩
        walk_at "rd"
        refine iteD (fun e2 => ?_) (fun e2 => ?_)
        · obtain ⟨z, hz⟩ : ∃ z, cs[i.toNat]? = some z := ⟨_, List.getElem?_eq_getElem (by rw [List.length_map] at e2; omega)⟩
          walk_at "rd"
          refine ⟨_, _, _, _, rfl, rfl, SqL.of hc0, at_of (show i = ((i.toNat : Nat) : Int) by omega) (show (cs.map V.int)[i.toNat]? = some (.int z) by rw [List.getElem?_map, hz]; rfl), ?_⟩
          walk_at "rd"
          refine iteD (fun e3 => ?_) (fun e3 => ?_)
          · walk_at "rd"
            exact ⟨some (.int z), i + 1, z, m, n + 1, rfl, (kp_set.trans Kp.upd).trans Kp.upd, upd_same, (upd_ne ncb).trans ((upd_ne ncb).trans hc0), by omega, Int.le_trans p18 e3, m0, m1⟩
          · walk_at "rd"
            refine ⟨some (.int z), i + 1, g, _, n + 1, rfl, (kp_set.trans Kp.upd).trans Kp.upd, upd_same, (upd_ne ncb).trans ((upd_ne ncb).trans hc0), by omega, by omega, Int.emod_nonneg _ (by decide), Int.emod_lt_of_pos _ (by decide)⟩
        · exact ⟨none, i, g, m, n + 1, rfl, kp_set, upd_same, hc0, i0, g0, m0, m1⟩
      · exact ⟨none, i, g, m, n + 1, rfl, kp_set, upd_same, hc0, i0, g0, m0, m1⟩
    · rintro σ H1 ⟨o, i', g', m', n', rfl, k1, h1, h2, i0, g0, m0, m1⟩
      walk_at "rd"
      refine iteD (fun e1 => ?_) (fun e1 => ?_)
      · walk_at "rd"
        exact k _ _ (Int.emod_nonneg _ (by omega)) (Int.emod_lt_of_pos _ l0) (k1.trans Kp.upd) ⟨ncb, cs, i', _, m', n', upd_same, (upd_ne ncb).trans h2, i0, Int.ediv_nonneg g0 (by omega), m0, m1⟩
      · walk_at "rd"
        exact k _ _ (Int.emod_nonneg _ (by omega)) (Int.emod_lt_of_pos _ l0) (k1.trans Kp.upd) ⟨ncb, cs, i', g', _, n', upd_same, (upd_ne ncb).trans h2, i0, g0, Int.emod_nonneg _ (by decide), Int.emod_lt_of_pos _ (by decide)⟩
end K02
set_option maxRecDepth 100000
set_option maxHeartbeats 4000000
namespace K02
open PySem PySem.Spec PyProof.Rows L2 He BL
local macro_rules | `(tactic| walk_at "ar") => `(tactic| first
  | exact Or.inl ⟨by omega, by omega⟩
  | exact Or.inr ⟨by omega, by omega⟩
  | exact ⟨by omega, by omega⟩
  | exact ⟨by omega, by omega, by omega⟩
  | exact ⟨by decide, by decide, by decide⟩
  | exact Nat.le_of_ble_eq_true rfl
  | exact rfl
  | omega
  | decide
  | fail)
local macro_rules | `(tactic| walk_at "ne") => `(tactic| first
  | assumption
  | (apply Ne.symm; assumption)
  | (refine ne_of_none ?_ (by assumption); walk_at "hp")
  | (apply Ne.symm; refine ne_of_none ?_ (by assumption); walk_at "hp")
  | fail)
local macro_rules | `(tactic| walk_at "hp") => `(tactic| first
  | assumption
  | exact upd_same
  | (refine (upd_ne ?_).trans ?_; · walk_at "ne"; · walk_at "hp")
  | (refine BL.Kp.at (by assumption) ?_ ?_; · walk_at "hp"; · walk_at "ne")
  | (refine BL.Same.at (by assumption) ?_; walk_at "hp")
  | fail)
local macro_rules | `(tactic| walk_at "rd1") => `(tactic| first
  | refine ⟨_, rfl, ?_⟩
  | refine ⟨_, _, rfl, rfl, ?_⟩
  | refine Or.inl ⟨_, rfl, ?_⟩
  | (refine ⟨_, _, _, _, rfl, rfl, SqL.of (by walk_at "hp"), rfl, ?_⟩)
  | (refine ⟨_, _, _, _, rfl, rfl, (by walk_at "hp"), rfl, ?_⟩)
  | (refine And.intro (by walk_at "ar") ?_)
  | fail)
local macro_rules | `(tactic| walk_at "rd") => `(tactic| (walk_at "rd1"; repeat' walk_at "rd1"))

variable {P : Program} {w : World} {K : PySem.W.Frag} {mg : Str → Option Value} {base : Heap}
theorem sc__law_bag : FnScope ["script", "mix", "cell"] ["script"] (defScope s__law_bag) := ⟨rfl, rfl, rfl, by decide +kernel, rfl, by decide +kernel, by decide +kernel⟩
abbrev sp__law_bag (K : PySem.W.Frag) : Sp := fun vs H Q _ => ∃ (a : Addr) (ns : List Int), vs = [.ref a] ∧ SqL K H a (ns.map .int) ∧ ns.length ≤ 63 ∧
  ∀ (b c : Addr) (H' : Hp), L2.Same H H' → H b = none → H c = none → BagAt H' b c → Q (.ref b) H'
theorem cal__law_bag (M : Md K mg) : C8.Cal P w K mg base 1 "_law_bag" (sp__law_bag K) [] := by
  refine cal_of (F__law_bag M) (g__law_bag M) sc__law_bag (fun _ _ _ _ _ _ us hl => match us, hl with | [_], _ => rfl) (fun vs H Q E h => ?_) (fun cdv A outer s H vs Q E hr h => ?_)
  · obtain ⟨a, ns, rfl, _⟩ := h
    rfl
  · obtain ⟨a, ns, rfl, hs, hl, k⟩ := h
    refine ⟨_, (pss_cons (ps_set (i := 1) sc__law_bag.nd rfl (Or.inl rfl) pe_int)
  (pss_cons (ps_for PassesOwn.never rfl (pi_list (pe_slice sl_list (pv 0) po_none (po_some pe_int))) (pg_name (i := 2) sc__law_bag.nd rfl (Or.inl rfl)) (pss_one (ps_set (i := 1) sc__law_bag.nd rfl (Or.inl rfl) (pe_op op_mod (pe_callTy call_int1 (by rfl) (b_int M) (by decide +kernel) (pa_cons (pe_op op_add (pe_op op_add (pe_op op_mul (pv 1) pe_int) (pe_op op_mod (pe_callTy call_int1 (by rfl) (b_int M) (by decide +kernel) (pa_cons (pv 2) pa_nil)) pe_int)) pe_int) pa_nil)) pe_int))))
  (pss_one (ps_ret (pe_lst (pa_cons (pe_callTy call_list_of (by rfl) (b_list M) (by decide +kernel) (pa_cons (pe_slice sl_list (pv 0) po_none (po_some pe_int)) pa_nil)) (pa_cons pe_int (pa_cons pe_int (pa_cons (pv 1) (pa_cons pe_int pa_nil)))))))))), ?_⟩
    refine ⟨_, rfl, _, rfl, _, _, rfl, hs, fun p np => ?_⟩
    have hs1 : ∀ {H' : Hp}, L2.Same H H' → SqL K H' a (ns.map .int) := fun k => k.seq hs
    have e1 : cutV (ns.map V.int) none (some 63) = (ns.take 63).map V.int := cut63 ns
    rw [e1]
    refine ⟨p, rfl, ⟨_, SqL.of upd_same⟩, for_list (K := K) (a := p) (xs := (ns.take 63).map V.int) (fun i σ H1 => ∃ (m : Int) (o : Option V), σ = [some (.ref a), some (.int m), o] ∧ 0 ≤ m ∧ m < 2147483647 ∧ H1 = upd H p (.lst ((ns.take 63).map V.int))) ⟨_, _, rfl, by decide, by decide, rfl⟩ ?_ ?_ ?_⟩
    · rintro i σ H1 hi ⟨m, o, rfl, _, _, rfl⟩
      exact SqL.of upd_same
    · rintro i x σ H1 hx ⟨m, o, rfl, m0, m1, rfl⟩
      obtain ⟨z, rfl⟩ := int_at hx
      walk_at "rd"
      exact ⟨_, _, rfl, Int.emod_nonneg _ (by decide), Int.emod_lt_of_pos _ (by decide), rfl⟩
    · rintro σ H1 ⟨m, o, rfl, m0, m1, rfl⟩
      refine ⟨_, rfl, _, rfl, _, _, rfl, hs1 (Same.new np), fun p2 np2 => ?_⟩
      rw [e1]
      refine ⟨p2, _, rfl, .inl (SqL.of upd_same), fun c nc => ?_⟩
      walk_at "rd"
      intro b nb
      have n1 := upd_free np2
      have n2 := upd_free (upd_free nc)
      have n3 := upd_free (upd_free (upd_free nb))
      have ncb : c ≠ b := ne_of_none (H := upd (upd (upd H p _) p2 _) c _) upd_same nb
      refine k b c _ (fun q o e => ?_) n3 n2 ⟨ncb, ns.take 63, 0, 0, m, 0, upd_same, (upd_ne ncb).trans upd_same, by decide, by decide, m0, m1⟩
      rw [upd_ne (ne_of_none e n3), upd_ne (ne_of_none e n2), upd_ne (ne_of_none e n1), upd_ne (ne_of_none e np)]
      exact e
theorem sc__law_of : FnScope ["bag", "things"] ["bag", "things"] (defScope s__law_of) := ⟨rfl, rfl, rfl, by decide +kernel, rfl, by decide +kernel, by decide +kernel⟩
abbrev sp__law_of : Sp := fun vs H Q _ => ∃ (b c : Addr) (x : V), vs = [.ref b, x] ∧ BagAt H b c ∧
  ((∃ (a : Addr) (xs : List V), x = .ref a ∧ H a = some (.lst xs) ∧ a ≠ b ∧ 0 < xs.length ∧ xs.length < 1000 ∧ ∀ (v : V) (H' : Hp), v ∈ xs → Kp b H H' → BagAt H' b c → Q v H') ∨
   (∃ (z : Str), x = .str z ∧ 0 < z.length ∧ z.length < 1000 ∧ ∀ (d : Nat) (H' : Hp), d ∈ z.cps.toList → Kp b H H' → BagAt H' b c → Q (.str ⟨#[d]⟩) H'))
theorem cal__law_of (M : Md K mg) : C8.Cal P w K mg base 2 "_law_of" sp__law_of [] := by
  refine cal_of (F__law_of M) (g__law_of M) sc__law_of (fun _ _ _ _ _ _ us hl => match us, hl with | [_, _], _ => rfl) (fun vs H Q E h => ?_) (fun cdv A outer s H vs Q E hr h => ?_)
  · obtain ⟨b, c, x, rfl, _⟩ := h
    rfl
  · obtain ⟨b, c, x, rfl, hb, h⟩ := h
    refine ⟨_, (pss_one (ps_ret (pe_ix ix_seq (pv 1) (C8.pe_c (cal__law_draw M) hr (by decide) rfl (pa_cons (pv 0) (pa_cons (pe_callB (CallR.or call_len_seq call_len_str) (by rfl) (b_len M) PySem.boot_len (pa_cons (pv 1) pa_nil)) pa_nil))) (fun _ _ => rfl)))), ?_⟩
    rcases h with ⟨a, xs, rfl, ha, nab, l0, l1, k⟩ | ⟨z, rfl, l0, l1, k⟩
    · walk_at "rd"
      refine .inl ⟨_, _, rfl, .inl (SqL.of ha), ?_⟩
      refine ⟨b, c, _, rfl, hb, by omega, by omega, fun r H' r0 r1 kp hb' => ?_⟩
      have hlt : r.toNat < xs.length := by omega
      refine .inl ⟨_, _, _, _, rfl, rfl, SqL.of (kp.at ha nab), at_of (show r = ((r.toNat : Nat) : Int) by omega) (List.getElem?_eq_getElem hlt), ?_⟩
      exact k _ _ (List.getElem_mem hlt) kp hb'
    · walk_at "rd"
      refine .inr ⟨_, rfl, Nat.le_trans (Nat.le_of_lt l1) (by decide), ?_⟩
      refine ⟨b, c, _, rfl, hb, by omega, by omega, fun r H' r0 r1 kp hb' => ?_⟩
      have hlt : r.toNat < z.cps.toList.length := by
        rw [Array.length_toList]
        have : z.cps.size = z.length := rfl
        omega
      refine .inr (.inr ⟨_, _, _, rfl, rfl, Nat.le_trans (Nat.le_of_lt l1) (by decide), atT_of (show r = ((r.toNat : Nat) : Int) by omega) (List.getElem?_eq_getElem hlt), ?_⟩)
      exact k _ _ (List.getElem_mem hlt) kp hb'
end K02
set_option maxRecDepth 100000
set_option maxHeartbeats 4000000
namespace K02
open PySem PySem.Spec PyProof.Rows L2 He BL SX
local macro_rules | `(tactic| walk_at "ar") => `(tactic| first
  | exact Or.inl ⟨by omega, by omega⟩
  | exact Or.inr ⟨by omega, by omega⟩
  | exact ⟨by omega, by omega⟩
  | exact ⟨by omega, by omega, by omega⟩
  | exact ⟨by decide, by decide, by decide⟩
  | exact Nat.le_of_ble_eq_true rfl
  | exact rfl
  | omega
  | decide
  | fail)
local macro_rules | `(tactic| walk_at "ne") => `(tactic| first
  | assumption
  | (apply Ne.symm; assumption)
  | (refine ne_of_none ?_ (by assumption); walk_at "hp")
  | (apply Ne.symm; refine ne_of_none ?_ (by assumption); walk_at "hp")
  | fail)
local macro_rules | `(tactic| walk_at "hp") => `(tactic| first
  | assumption
  | exact upd_same
  | (refine (upd_ne ?_).trans ?_; · walk_at "ne"; · walk_at "hp")
  | (refine BL.Kp.at (by assumption) ?_ ?_; · walk_at "hp"; · walk_at "ne")
  | (refine BL.Same.at (by assumption) ?_; walk_at "hp")
  | fail)
local macro_rules | `(tactic| walk_at "rd1") => `(tactic| first
  | refine ⟨_, rfl, ?_⟩
  | refine ⟨_, _, rfl, rfl, ?_⟩
  | refine Or.inl ⟨_, rfl, ?_⟩
  | (refine ⟨_, _, _, _, rfl, rfl, SqL.of (by walk_at "hp"), rfl, ?_⟩)
  | (refine ⟨_, _, _, _, rfl, rfl, (by walk_at "hp"), rfl, ?_⟩)
  | (refine And.intro (by walk_at "ar") ?_)
  | fail)
local macro_rules | `(tactic| walk_at "rd") => `(tactic| (walk_at "rd1"; repeat' walk_at "rd1"))

variable {P : Program} {w : World} {K : PySem.W.Frag} {mg : Str → Option Value} {base : Heap}
theorem sc__law_mixed : FnScope ["bag", "things", "told", "x"] ["bag", "things"] (defScope s__law_mixed) := ⟨rfl, rfl, rfl, by decide +kernel, rfl, by decide +kernel, by decide +kernel⟩
abbrev sp__law_mixed : Sp := fun vs H Q _ => ∃ (b c a : Addr) (xs : List V), vs = [.ref b, .ref a] ∧ BagAt H b c ∧ H a = some (.lst xs) ∧ a ≠ b ∧ xs.length < 1000 ∧
  ∀ (p : Addr) (ys : List V) (H' : Hp), ys.Perm xs → Kp b H H' → BagAt H' b c → H p = none → H' p = some (.lst ys) → Q (.ref p) H'
theorem cal__law_mixed (M : Md K mg) : C8.Cal P w K mg base 2 "_law_mixed" sp__law_mixed [] := by
  refine cal_of (F__law_mixed M) (g__law_mixed M) sc__law_mixed (fun _ _ _ _ _ _ us hl => match us, hl with | [_, _], _ => rfl) (fun vs H Q E h => ?_) (fun cdv A outer s H vs Q E hr h => ?_)
  · obtain ⟨b, c, a, xs, rfl, _⟩ := h
    rfl
  · obtain ⟨b, c, a, xs, rfl, hb, ha, nab, hl, k⟩ := h
    refine ⟨_, (pss_cons (ps_set (i := 2) sc__law_mixed.nd rfl (Or.inl rfl) (pe_lst pa_nil))
  (pss_cons (ps_for PassesOwn.never rfl (pi_list (pv 1)) (pg_name (i := 3) sc__law_mixed.nd rfl (Or.inl rfl)) (pss_one (ps_expr (pe_bm PySem.F.plainAttrs_list PySem.F.slot_list_insert PySem.F.type_list_insert mt_insert (pv 2) (pa_cons (C8.pe_c (cal__law_draw M) hr (by decide) rfl (pa_cons (pv 0) (pa_cons (pe_op op_add (pe_callB call_len_seq (by rfl) (b_len M) PySem.boot_len (pa_cons (pv 2) pa_nil)) pe_int) pa_nil))) (pa_cons (pv 3) pa_nil))))))
  (pss_one (ps_ret (pv 2))))), ?_⟩
    refine ⟨Nat.zero_le _, fun p np => ?_⟩
    have npa : p ≠ a := (ne_of_none ha np).symm
    have npb := hb.nb np
    have npc := hb.nc np
    refine ⟨_, rfl, a, rfl, ⟨_, SqL.of ((upd_ne npa.symm).trans ha)⟩, for_list (K := K) (a := a) (xs := xs) (fun i σ H1 => ∃ (ys : List V) (o : Option V), σ = [some (.ref b), some (.ref a), some (.ref p), o] ∧ Kp b H H1 ∧ BagAt H1 b c ∧ H1 p = some (.lst ys) ∧ ys.Perm (xs.take i)) ⟨[], none, rfl, Kp.new np, hb.new np, upd_same, by simp⟩ ?_ ?_ ?_⟩
    · rintro i σ H1 hi ⟨ys, o, rfl, k1, b1, h1, p1⟩
      exact SqL.of (k1 _ _ ha nab)
    · rintro i x σ H1 hx ⟨ys, o, rfl, k1, b1, h1, p1⟩
      have hi : i < xs.length := (List.getElem?_eq_some_iff.mp hx).1
      have hyl : ys.length = i := by rw [p1.length_eq, List.length_take]; omega
      refine ⟨_, rfl, .inl ⟨rfl, _, SqL.of h1⟩, _, rfl, _, rfl, _, _, rfl, .inl (SqL.of h1), _, _, rfl, rfl, ?_⟩
      refine ⟨b, c, _, rfl, b1, by omega, by omega, fun r H2 r0 r1 kp hb' => ?_⟩
      have h2 := kp _ _ h1 npb
      refine ⟨_, rfl, p, ys, r, x, rfl, rfl, h2, Nat.lt_of_lt_of_le (show ys.length < 1000 by omega) (by decide), r0, by omega, ?_⟩
      exact ⟨_, _, rfl, (k1.trans kp).put np, hb'.put npb npc, upd_same, ins_perm p1 hx _⟩
    · rintro σ H1 ⟨ys, o, rfl, k1, b1, h1, p1⟩
      refine ⟨_, rfl, ?_⟩
      rw [List.take_length] at p1
      exact k p ys H1 p1 k1 b1 np h1
theorem sc__law_kept : FnScope ["first"] [] (defScope s__law_kept) := ⟨rfl, rfl, rfl, by decide +kernel, rfl, by decide +kernel, by decide +kernel⟩
abbrev sp__law_kept : Sp := fun vs H Q _ => vs = [] ∧ ∀ (p : Addr) (H' : Hp), L2.Same H H' → H p = none → H' p = some (.lst (keptW.map .str)) → Q (.ref p) H'
theorem cal__law_kept (M : Md K mg) : C8.Cal P w K mg base 1 "_law_kept" sp__law_kept [] := by
  refine cal_of (F__law_kept M) (g__law_kept M) sc__law_kept (fun _ _ _ _ _ _ us hl => match us, hl with | [], _ => rfl) (fun vs H Q E h => ?_) (fun cdv A outer s H vs Q E hr h => ?_)
  · obtain ⟨rfl, _⟩ := h
    rfl
  · obtain ⟨rfl, k⟩ := h
    refine ⟨_, (pss_cons (ps_set (i := 0) sc__law_kept.nd rfl (Or.inl rfl) pe_str)
  (pss_one (ps_ret (pe_split (pe_op op_add_str (pv 0) pe_str) pe_str)))), ?_⟩
    refine ⟨_, rfl, _, _, rfl, rfl, by decide +kernel, ⟨_, rfl⟩, _, _, rfl, rfl, by decide +kernel, by decide +kernel, fun p np => ?_⟩
    have e : Txt.split (("as apart bill bound cross deal depot done drive fall heap height ladder never none" : Str) ++ (" oneway place plan salt share shares storm street together town" : Str)) (" " : Str) = keptW := by decide +kernel
    rw [e]
    exact k p _ (Same.new np) np upd_same
end K02
set_option maxRecDepth 100000
set_option maxHeartbeats 4000000
namespace K02
open PySem PySem.Spec PyProof.Rows L2 He BL SX
local macro_rules | `(tactic| walk_at "ar") => `(tactic| first
  | exact Or.inl ⟨by omega, by omega⟩
  | exact Or.inr ⟨by omega, by omega⟩
  | exact ⟨by omega, by omega⟩
  | exact ⟨by omega, by omega, by omega⟩
  | exact ⟨by decide, by decide, by decide⟩
  | exact Nat.le_of_ble_eq_true rfl
  | exact rfl
  | omega
  | decide
  | fail)
local macro_rules | `(tactic| walk_at "ne") => `(tactic| first
  | assumption
  | (apply Ne.symm; assumption)
  | (refine ne_of_none ?_ (by assumption); walk_at "hp")
  | (apply Ne.symm; refine ne_of_none ?_ (by assumption); walk_at "hp")
  | fail)
local macro_rules | `(tactic| walk_at "hp") => `(tactic| first
  | assumption
  | exact upd_same
  | (refine (upd_ne ?_).trans ?_; · walk_at "ne"; · walk_at "hp")
  | (refine BL.Kp.at (by assumption) ?_ ?_; · walk_at "hp"; · walk_at "ne")
  | (refine BL.Same.at (by assumption) ?_; walk_at "hp")
  | fail)
local macro_rules | `(tactic| walk_at "rd1") => `(tactic| first
  | refine ⟨_, rfl, ?_⟩
  | refine ⟨_, _, rfl, rfl, ?_⟩
  | refine Or.inl ⟨_, rfl, ?_⟩
  | (refine ⟨_, _, _, _, rfl, rfl, SqL.of (by walk_at "hp"), rfl, ?_⟩)
  | (refine ⟨_, _, _, _, rfl, rfl, (by walk_at "hp"), rfl, ?_⟩)
  | (refine And.intro (by walk_at "ar") ?_)
  | fail)
local macro_rules | `(tactic| walk_at "rd") => `(tactic| (walk_at "rd1"; repeat' walk_at "rd1"))

variable {P : Program} {w : World} {K : PySem.W.Frag} {mg : Str → Option Value} {base : Heap}
theorem sc__law_name : FnScope ["bag", "signs", "pick", "tail", "item", "k"] ["bag"] (defScope s__law_name) := ⟨rfl, rfl, rfl, by decide +kernel, rfl, by decide +kernel, by decide +kernel⟩
abbrev sp__law_name : Sp := fun vs H Q _ => ∃ (b c : Addr), vs = [.ref b] ∧ BagAt H b c ∧ ∀ (z : Str) (H' : Hp), NameOk z → Kp b H H' → BagAt H' b c → Q (.str z) H'
theorem cal__law_name (M : Md K mg) : C8.Cal P w K mg base 3 "_law_name" sp__law_name [] := by
  refine cal_of (F__law_name M) (g__law_name M) sc__law_name (fun _ _ _ _ _ _ us hl => match us, hl with | [_], _ => rfl) (fun vs H Q E h => ?_) (fun cdv A outer s H vs Q E hr h => ?_)
  · obtain ⟨b, c, rfl, _⟩ := h
    rfl
  · obtain ⟨b, c, rfl, hb, k⟩ := h
    refine ⟨_, (pss_cons (ps_set (i := 1) sc__law_name.nd rfl (Or.inr rfl) pe_str)
  (pss_cons (ps_set (i := 2) sc__law_name.nd rfl (Or.inl rfl) (C8.pe_c (cal__law_draw M) hr (by decide) rfl (pa_cons (pv 0) (pa_cons pe_int pa_nil))))
  (pss_cons (ps_if (pt_cmpR op_eq (pv 2) pe_int (nomark _)) (pss_one (ps_ret (C8.pe_c (cal__law_of M) hr (by decide) rfl (pa_cons (pv 0) (pa_cons (pe_lst (pa_cons pe_str (pa_cons pe_str (pa_cons pe_str (pa_cons pe_str (pa_cons pe_str (pa_cons pe_str (pa_cons pe_str (pa_cons pe_str (pa_cons pe_str (pa_cons pe_str (pa_cons pe_str (pa_cons pe_str (pa_cons pe_str pa_nil)))))))))))))) pa_nil))))) pss_nil)
  (pss_cons (ps_set (i := 3) sc__law_name.nd rfl (Or.inl rfl) (pe_ix ix_list (pe_lst (pa_cons pe_int (pa_cons pe_int (pa_cons pe_int (pa_cons pe_int (pa_cons pe_int (pa_cons pe_int pa_nil))))))) (pv 2) (fun _ _ => rfl)))
  (pss_cons (ps_set (i := 4) sc__law_name.nd rfl (Or.inl rfl) (pe_op op_add_str (C8.pe_c (cal__law_of M) hr (by decide) rfl (pa_cons (pv 0) (pa_cons (pv 1) pa_nil))) (pe_join pe_str (pe_lc (own := [("k", 5)]) (g := (gName 5)) (tt := tYes) (te := (tCall (sp__law_of) [] E0 (tCons (tVar 0) (tCons (tOp (fun x y H Q => ∃ i j, x = .str i ∧ y = .str j ∧ i.length + j.length ≤ sizeLine ∧ Q (.str (i ++ j)) H) (tVar 1) (tC (.str "0123456789"))) tNil)))) rfl sc__law_name.nd (pi_range1 rfl (b_range M) (pa_cons (pv 3) pa_nil)) (blkOk_by (N := ["bag", "signs", "pick", "tail", "item", "k"]) (by kernel_rfl)) (fun _ _ _ _ _ => (pg_name (i := 5) sc__law_name.nd rfl (Or.inl rfl))) (fun _ _ _ _ _ => pts_nil) (fun _ _ _ _ _ => (C8.pe_c (cal__law_of M) hr (by decide) rfl (pa_cons (pv 0) (pa_cons (pe_op op_add_str (pv 1) pe_str) pa_nil))))))))
  (pss_one (ps_ret (pe_ifExp (pt_cmpR op_in_seq (pv 4) (BL.pe_c0 (cal__law_kept M) hr (by decide) rfl) (by rfl)) (pe_op op_add_str (pe_slice sl_str (pv 4) po_none (po_some pe_int)) pe_str) (pv 4))))))))), ?_⟩
    refine ⟨_, rfl, b, c, 6, rfl, hb, by decide, by decide, fun r H1 r0 r1 k1 b1 => ?_⟩
    refine ⟨_, rfl, rfl, _, rfl, ?_⟩
    refine iteI (fun e => ?_) (fun e => ?_)
    · refine ⟨_, rfl, by decide, fun p np => ?_⟩
      refine ⟨b, c, _, rfl, b1.new np, .inl ⟨p, _, rfl, upd_same, b1.nb np, by decide, by decide, fun v H2 hv k2 b2 => ?_⟩⟩
      obtain ⟨z, hz, rfl⟩ := List.mem_map.mp (show v ∈ (["a", "b", "c", "s", "s2", "s10", "r", "t1", "places", "town1", "zz", "kk", "nevera"] : List Str).map V.str from hv)
      exact k z H2 (menu_ok z hz) ((k1.trans (Kp.new np)).trans k2) b2
    · refine ⟨by decide, fun p np => ?_⟩
      obtain ⟨t, ht, t7⟩ : ∃ t : Nat, ([0, 0, 1, 1, 2, 7] : List Int)[r.toNat]? = some (t : Int) ∧ t ≤ 7 := by
        have : r.toNat < 6 := by omega
        match r.toNat, this with
        | 0, _ => exact ⟨0, rfl, by omega⟩
        | 1, _ => exact ⟨0, rfl, by omega⟩
        | 2, _ => exact ⟨1, rfl, by omega⟩
        | 3, _ => exact ⟨1, rfl, by omega⟩
        | 4, _ => exact ⟨2, rfl, by omega⟩
        | 5, _ => exact ⟨7, rfl, by omega⟩
      refine ⟨_, rfl, p, _, r, .int t, rfl, rfl, SqL.of upd_same, at_of (show r = ((r.toNat : Nat) : Int) by omega) (show (([0, 0, 1, 1, 2, 7] : List Int).map V.int)[r.toNat]? = some (.int t) by rw [List.getElem?_map, ht]; rfl), ?_⟩
      -- item = ..
      refine ⟨_, rfl, _, rfl, b, c, _, rfl, b1.new np, .inr ⟨_, rfl, by decide, by decide, fun d H2 hd k2 b2 => ?_⟩⟩
      have hd' := lets_mem d hd
      refine ⟨⟨_, rfl⟩, _, rfl, t, rfl, by omega, by omega, fun D nD => ?_⟩
      have nDb := b2.nb nD
      have nDc := b2.nc nD
      refine lc_range (lo := 0) (n := (t : Int).toNat) (fun i H3 => ∃ cs : List Nat, cs.length = i ∧ (∀ x ∈ cs, isLet x ∨ isDig x) ∧ Kp b H2 H3 ∧ BagAt H3 b c ∧ H3 D = some (.lst (cs.map fun x => .str (S [x])))) ⟨[], rfl, by simp, Kp.new nD, b2.new nD, upd_same⟩ ?_ ?_
      · rintro i H3 hi ⟨cs, hl, hcs, k3, b3, h3⟩
        refine ⟨rfl, ⟨_, rfl, _, rfl, _, _, rfl, rfl, by decide +kernel, ?_⟩⟩
        refine ⟨b, c, _, rfl, b3, .inr ⟨_, rfl, by decide +kernel, by decide +kernel, fun y H4 hy k4 b4 => ?_⟩⟩
        refine ⟨_, k4 _ _ h3 nDb, ?_, cs ++ [y], by simp [hl], ?_, (k3.trans k4).put nD, b4.put nDb nDc, ?_⟩
        · rw [List.length_map, hl]; exact Nat.lt_of_lt_of_le (show i < 1000 by omega) (by decide)
        · intro x hx
          rcases List.mem_append.mp hx with q | q
          · exact hcs x q
          · rw [List.mem_singleton.mp q]; exact sgn_mem y hy
        · rw [List.map_append]; exact upd_same
      · rintro H3 ⟨cs, hl, hcs, k3, b3, h3⟩
        have hcl : cs.length ≤ 7 := by omega
        have ej : Txt.join (S []) (cs.map fun x => S [x]) = S cs := join_signs cs
        refine ⟨_, D, cs.map fun x => S [x], rfl, rfl, .inl (SqL.of (by rw [List.map_map]; exact h3)), ?_, ?_⟩
        · have e1 : ((cs.map fun x => S [x]).map (·.length)).sum = cs.length := by
            rw [List.map_map]
            clear h3 ej hl hcs hcl
            induction cs with
            | nil => rfl
            | cons x r ih => rw [List.map_cons, List.sum_cons, ih]; simp [S_len]; omega
          rw [e1, List.length_map]
          show cs.length + cs.length * 0 ≤ 16777216
          omega
        refine ⟨S [d], S cs, rfl, congrArg V.str ej, ?_, ?_⟩
        · rw [S_len, S_len]; exact Nat.le_trans (show [d].length + cs.length ≤ 8 by simp; omega) (by decide)
        rw [S_cat]
        refine ⟨_, rfl, ⟨rfl, fun p4 H4 k4 n4 h4 => ?_⟩⟩
        refine ⟨p4, _, rfl, .inl (SqL.of h4), rfl, flat_strs _, _, rfl, ?_⟩
        rw [inV_str]
        have b4 := b3.kept k4
        have kk := (((k1.trans (Kp.new np)).trans k2).trans k3).trans (Kp.of k4)
        refine iteD (fun e5 => ?_) (fun e5 => ?_)
        · refine ⟨_, rfl, _, rfl, _, rfl, by rw [S_len]; exact Nat.le_trans (show ([d] ++ cs).length ≤ 8 by simp; omega) (by decide), ?_⟩
          rw [C8.cutS_slice, slice_to (by decide)]
          refine ⟨_, _, rfl, rfl, ?_, ?_⟩
          · rw [S_len]
            exact Nat.le_trans (show (([d] ++ cs).take (7 : Int).toNat).length + 1 ≤ 9 by rw [List.length_take]; have : (7 : Int).toNat = 7 := rfl; omega) (by decide)
          have e6 : S (([d] ++ cs).take (7 : Int).toNat) ++ ("0" : Str) = S (d :: (cs.take 6 ++ [48])) := by
            have : ("0" : Str) = S [48] := by decide +kernel
            rw [this, S_cat]
            rfl
          rw [e6]
          exact k _ _ (name_end hd' hcs 6 (by decide) (t := [48]) (by decide) (by decide) (by decide)) kk b4
        · exact ⟨_, rfl, k _ _ ⟨d, cs, rfl, hd', hcl, hcs, e5⟩ kk b4⟩
theorem sc__law_kind : FnScope ["bag", "pick"] ["bag"] (defScope s__law_kind) := ⟨rfl, rfl, rfl, by decide +kernel, rfl, by decide +kernel, by decide +kernel⟩
abbrev sp__law_kind : Sp := fun vs H Q _ => ∃ (b c : Addr), vs = [.ref b] ∧ BagAt H b c ∧ ∀ (v : V) (H' : Hp), KindV v → Kp b H H' → BagAt H' b c → Q v H'
theorem cal__law_kind (M : Md K mg) : C8.Cal P w K mg base 2 "_law_kind" sp__law_kind [] := by
  refine cal_of (F__law_kind M) (g__law_kind M) sc__law_kind (fun _ _ _ _ _ _ us hl => match us, hl with | [_], _ => rfl) (fun vs H Q E h => ?_) (fun cdv A outer s H vs Q E hr h => ?_)
  · obtain ⟨b, c, rfl, _⟩ := h
    rfl
  · obtain ⟨b, c, rfl, hb, k⟩ := h
    refine ⟨_, (pss_cons (ps_set (i := 1) sc__law_kind.nd rfl (Or.inl rfl) (C8.pe_c (cal__law_draw M) hr (by decide) rfl (pa_cons (pv 0) (pa_cons pe_int pa_nil))))
  (pss_cons (ps_if (pt_cmpR op_lt (pv 1) pe_int (nomark _)) (pss_one (ps_ret (C8.pe_c (cal__law_draw M) hr (by decide) rfl (pa_cons (pv 0) (pa_cons (pe_ifExp (pt_cmpR op_lt (pv 1) pe_int (nomark _)) pe_int pe_int) pa_nil))))) pss_nil)
  (pss_one (ps_ret (pe_ix ix_list (pe_lst (pa_cons pe_str (pa_cons pe_str (pa_cons pe_str pa_nil)))) (pe_op op_sub (pv 1) pe_int) (fun _ _ => rfl)))))), ?_⟩
    refine ⟨_, rfl, b, c, 8, rfl, hb, by decide, by decide, fun r H1 r0 r1 k1 b1 => ?_⟩
    refine ⟨_, rfl, _, _, rfl, rfl, _, rfl, ?_⟩
    refine iteD (fun e => ?_) (fun e => ?_)
    · refine ⟨_, rfl, _, rfl, _, _, rfl, rfl, _, rfl, ?_⟩
      refine iteD (fun e => ?_) (fun e => ?_)
      · exact ⟨b, c, 5, rfl, b1, by decide, by decide, fun q H2 q0 q1 k2 b2 => k _ _ (.inl ⟨q, rfl, q0, by omega⟩) (k1.trans k2) b2⟩
      · exact ⟨b, c, 41, rfl, b1, by decide, by decide, fun q H2 q0 q1 k2 b2 => k _ _ (.inl ⟨q, rfl, q0, by omega⟩) (k1.trans k2) b2⟩
    · refine ⟨by decide, fun p np => ?_⟩
      obtain ⟨t, ht, tk⟩ : ∃ t : Str, (["never", "never", "place"] : List Str)[(r - 5).toNat]? = some t ∧ KindV (.str t) := by
        have : (r - 5).toNat < 3 := by omega
        match (r - 5).toNat, this with
        | 0, _ => exact ⟨_, rfl, .inr (.inl rfl)⟩
        | 1, _ => exact ⟨_, rfl, .inr (.inl rfl)⟩
        | 2, _ => exact ⟨_, rfl, .inr (.inr rfl)⟩
      refine ⟨_, rfl, _, _, rfl, rfl, p, _, r - 5, .str t, rfl, rfl, SqL.of upd_same, at_of (show r - 5 = (((r - 5).toNat : Nat) : Int) by omega) (show ((["never", "never", "place"] : List Str).map V.str)[(r - 5).toNat]? = some (.str t) by rw [List.getElem?_map, ht]; rfl), ?_⟩
      exact k _ _ tk (k1.trans (Kp.new np)) (b1.new np)
end K02
set_option maxRecDepth 100000
set_option maxHeartbeats 4000000
namespace K02
open PySem PySem.Spec PyProof.Rows L2 He BL SX
local macro_rules | `(tactic| walk_at "ar") => `(tactic| first
  | exact Or.inl ⟨by omega, by omega⟩
  | exact Or.inr ⟨by omega, by omega⟩
  | exact ⟨by omega, by omega⟩
  | exact ⟨by omega, by omega, by omega⟩
  | exact ⟨by decide, by decide, by decide⟩
  | exact Nat.le_of_ble_eq_true rfl
  | exact rfl
  | omega
  | decide
  | fail)
local macro_rules | `(tactic| walk_at "ne") => `(tactic| first
  | assumption
  | (apply Ne.symm; assumption)
  | (refine ne_of_none ?_ (by assumption); walk_at "hp")
  | (apply Ne.symm; refine ne_of_none ?_ (by assumption); walk_at "hp")
  | fail)
local macro_rules | `(tactic| walk_at "hp") => `(tactic| first
  | assumption
  | exact upd_same
  | (refine (upd_ne ?_).trans ?_; · walk_at "ne"; · walk_at "hp")
  | (refine BL.Kp.at (by assumption) ?_ ?_; · walk_at "hp"; · walk_at "ne")
  | (refine BL.Same.at (by assumption) ?_; walk_at "hp")
  | fail)
local macro_rules | `(tactic| walk_at "rd1") => `(tactic| first
  | refine ⟨_, rfl, ?_⟩
  | refine ⟨_, _, rfl, rfl, ?_⟩
  | refine Or.inl ⟨_, rfl, ?_⟩
  | (refine ⟨_, _, _, _, rfl, rfl, SqL.of (by walk_at "hp"), rfl, ?_⟩)
  | (refine ⟨_, _, _, _, rfl, rfl, (by walk_at "hp"), rfl, ?_⟩)
  | (refine And.intro (by walk_at "ar") ?_)
  | fail)
local macro_rules | `(tactic| walk_at "rd") => `(tactic| (walk_at "rd1"; repeat' walk_at "rd1"))

variable {P : Program} {w : World} {K : PySem.W.Frag} {mg : Str → Option Value} {base : Heap}
theorem sc__law_fresh : FnScope ["bag", "times", "taken", "told", "k", "item", "c", "n"] ["bag", "times", "taken"] (defScope s__law_fresh) := ⟨rfl, rfl, rfl, by decide +kernel, rfl, by decide +kernel, by decide +kernel⟩
abbrev sp__law_fresh : Sp := fun vs H Q _ => ∃ (b c a : Addr) (n : Int) (ts : List Str), vs = [.ref b, .int n, .ref a] ∧ BagAt H b c ∧ H a = some (.lst (ts.map .str)) ∧ 0 ≤ n ∧ ts.length + n < 90 ∧
  ∀ (p : Addr) (rs : List Str) (H' : Hp), rs.length = n.toNat → (∀ z ∈ rs, NameOk z) → rs.Nodup → (∀ z ∈ rs, z ∉ ts) → Kp b H H' → BagAt H' b c → H p = none → H' p = some (.lst (rs.map .str)) → Q (.ref p) H'
theorem cal__law_fresh (M : Md K mg) : C8.Cal P w K mg base 4 "_law_fresh" sp__law_fresh [] := by
  refine cal_of (F__law_fresh M) (g__law_fresh M) sc__law_fresh (fun _ _ _ _ _ _ us hl => match us, hl with | [_, _, _], _ => rfl) (fun vs H Q E h => ?_) (fun cdv A outer s H vs Q E hr h => ?_)
  · obtain ⟨b, c, a, n, ts, rfl, _⟩ := h
    rfl
  · obtain ⟨b, c, a, n, ts, rfl, hb, ha, n0, n1, k⟩ := h
    refine ⟨_, (pss_cons (ps_set (i := 3) sc__law_fresh.nd rfl (Or.inr rfl) (pe_callTy call_list_of (by rfl) (b_list M) (by decide +kernel) (pa_cons (pv 2) pa_nil)))
  (pss_cons (ps_for PassesOwn.never rfl (pi_range1 rfl (b_range M) (pa_cons (pv 1) pa_nil)) (pg_name (i := 4) sc__law_fresh.nd rfl (Or.inl rfl)) (pss_cons (ps_set (i := 5) sc__law_fresh.nd rfl (Or.inr rfl) (C8.pe_c (cal__law_name M) hr (by decide) rfl (pa_cons (pv 0) pa_nil)))
  (pss_one (ps_expr (pe_bm PySem.F.plainAttrs_list PySem.F.slot_list_append PySem.F.type_list_append mt_append (pv 3) (pa_cons (pe_ix ix_list (pe_lc (own := [("c", 6)]) (g := (gName 6)) (tt := (tTest (tOp (rIn K true) (tVar 6) (tVar 3)))) (te := (tVar 6)) rfl sc__law_fresh.nd (pi_list (pe_op op_cat (pe_lst (pa_cons (pv 5) pa_nil)) (pe_lc (own := [("n", 7)]) (g := (gName 7)) (tt := tYes) (te := (tOp (fun x y H Q => ∃ i j, x = .str i ∧ y = .str j ∧ i.length + j.length ≤ sizeLine ∧ Q (.str (i ++ j)) H) (tSl rSlS (tVar 5) tNoPart (tPart (tC (.int 6)))) (tCB BL.rStrInt (tCons (tVar 7) tNil)))) rfl sc__law_fresh.nd (pi_range2 rfl (b_range M) (pa_cons pe_int (pa_cons pe_int pa_nil))) (blkOk_by (N := ["bag", "times", "taken", "told", "k", "item", "c", "n"]) (by kernel_rfl)) (fun _ _ _ _ _ => (pg_name (i := 7) sc__law_fresh.nd rfl (Or.inl rfl))) (fun _ _ _ _ _ => pts_nil) (fun _ _ _ _ _ => (pe_op op_add_str (pe_slice sl_str (pv 5) po_none (po_some pe_int)) (pe_callTy call_str_int (by rfl) (b_str M) (by decide +kernel) (pa_cons (pv 7) pa_nil))))))) (blkOk_by (N := ["bag", "times", "taken", "told", "k", "item", "c", "n"]) (by kernel_rfl)) (fun _ _ _ _ _ => (pg_name (i := 6) sc__law_fresh.nd rfl (Or.inl rfl))) (fun _ _ _ _ _ => (pts_one (pt_cmpR op_notIn_seq (pv 6) (pv 3) (by rfl)))) (fun _ _ _ _ _ => (pv 6))) pe_int (fun _ _ => rfl)) pa_nil))))))
  (pss_one (ps_ret (pe_slice sl_list (pv 3) (po_some (pe_callB call_len_seq (by rfl) (b_len M) PySem.boot_len (pa_cons (pv 2) pa_nil))) po_none))))), ?_⟩
    have nab := hb.strs ha
    refine ⟨_, rfl, a, _, rfl, .inl (SqL.of ha), fun p np => ?_⟩
    have npb := hb.nb np
    have npc := hb.nc np
    have npa : p ≠ a := (ne_of_none ha np).symm
    refine ⟨_, rfl, n, rfl, by omega, by omega, ?_⟩
    refine for_range (lo := 0) (n := n.toNat) (fun i σ H1 => ∃ (rs : List Str) (o1 o2 : Option V), σ = [some (.ref b), some (.int n), some (.ref a), some (.ref p), o1, o2, none, none] ∧ rs.length = i ∧ (∀ z ∈ rs, NameOk z) ∧ rs.Nodup ∧ (∀ z ∈ rs, z ∉ ts) ∧ Kp b H H1 ∧ BagAt H1 b c ∧ H1 p = some (.lst ((ts ++ rs).map .str))) ⟨[], none, none, rfl, rfl, by simp, List.nodup_nil, by simp, Kp.new np, hb.new np, by rw [List.append_nil]; exact upd_same⟩ ?_ ?_
    · rintro i σ H1 hi ⟨rs, o1, o2, rfl, hl, hok, hnd, hts, k1, b1, h1⟩
      refine ⟨_, rfl, b, c, rfl, b1, fun z H2 hz k2 b2 => ?_⟩
      have h2 := k2 _ _ h1 npb
      obtain ⟨l, rfl⟩ : ∃ l, z = S l := ⟨z.cps.toList, (S_tl z).symm⟩
      refine ⟨_, rfl, .inl ⟨rfl, _, SqL.of h2⟩, ?_⟩
      -- [item]
      refine ⟨_, rfl, Nat.le_of_ble_eq_true rfl, fun p1 np1 => ?_⟩
      have e1 : ∀ {o : HO}, L2.upd H2 p1 o p = some (.lst ((ts ++ rs).map .str)) := fun {o} => (upd_ne (ne_of_none h2 np1)).trans h2
      -- [item[:6] + str(n) ..]
      refine ⟨10, 100, rfl, ⟨by decide, by decide, by decide, by decide⟩, fun D nD => ?_⟩
      have nD1 : p1 ≠ D := ne_of_none (H := L2.upd H2 p1 _) upd_same nD
      refine lc_range (lo := 10) (n := 90) (fun i H3 => H3 = L2.upd (L2.upd H2 p1 (.lst [.str (S l)])) D (.lst (((List.range i).map fun j => S (candL l (10 + j))).map .str))) rfl ?_ ?_
      · rintro j H3 hj rfl
        refine ⟨rfl, ?_⟩
        have hl8 := hz.len
        refine ⟨_, rfl, _, rfl, _, rfl, Nat.le_trans hl8.1 (by decide), ?_⟩
        rw [C8.cutS_slice, slice_to (by decide)]
        refine ⟨_, rfl, _, rfl, small_log (by omega), ?_⟩
        have e2 : Str.ofString (toString ((10 : Int) + (j : Nat))) = S (TL.numL (10 + j)) := by
          have : ((10 : Int) + (j : Nat)) = ((10 + j : Nat) : Int) := by omega
          rw [this, num_S]
        rw [e2]
        refine ⟨_, _, rfl, rfl, ?_, ?_⟩
        · rw [S_len, S_len, num2 (10 + j) (by omega) (by omega), List.length_take]
          exact Nat.le_trans (show min (6 : Int).toNat l.length + 2 ≤ 8 from by have : (6 : Int).toNat = 6 := rfl; omega) (by decide)
        rw [S_cat]
        refine ⟨_, upd_same, ?_, ?_⟩
        · rw [List.length_map, List.length_map, List.length_range]
          exact Nat.lt_trans hj (by decide)
        · rw [upd_upd, List.range_succ, List.map_append, List.map_append]
          rfl
      · rintro H3 rfl
        refine ⟨p1, D, [.str (S l)], _, rfl, rfl, (upd_ne nD1).trans upd_same, upd_same, ?_, fun p2 np2 => ?_⟩
        · rw [List.length_map, List.length_map, List.length_range]; exact Nat.le_of_ble_eq_true rfl
        have e3 : [V.str (S l)] ++ (((List.range 90).map fun j => S (candL l (10 + j))).map V.str) = (cands l).map V.str := rfl
        rw [e3]
        generalize hH4 : L2.upd (L2.upd (L2.upd H2 p1 (.lst [.str (S l)])) D (.lst (((List.range 90).map fun j => S (candL l (10 + j))).map .str))) p2 (.lst ((cands l).map .str)) = H4
        have s4 : L2.Same H2 H4 := by rw [← hH4]; exact ((Same.new np1).trans (Same.new nD)).trans (Same.new np2)
        have h4 := s4 _ _ h2
        have b4 := b2.kept s4
        have hp2 : H4 p2 = some (.lst ((cands l).map .str)) := by rw [← hH4]; exact upd_same
        refine ⟨p2, rfl, ⟨_, SqL.of hp2⟩, fun E nE => ?_⟩
        refine lc_list (K := K) (a := p2) (xs := (cands l).map V.str) (fun i H5 => H5 = L2.upd H4 E (.lst ((((cands l).take i).filter fun x => !decide (x ∈ ts ++ rs)).map .str))) rfl ?_ ?_ ?_
        · rintro i H5 _ rfl
          exact SqL.of ((upd_ne (ne_of_none hp2 nE)).trans hp2)
        · rintro j x H5 hx rfl
          obtain ⟨y, hy, rfl⟩ : ∃ y, (cands l)[j]? = some y ∧ x = .str y := by
            rw [List.getElem?_map] at hx
            cases e : (cands l)[j]? with
            | none => rw [e] at hx; cases hx
            | some y => rw [e] at hx; exact ⟨y, rfl, (Option.some.inj hx).symm⟩
          refine ⟨rfl, ?_⟩
          refine ⟨_, rfl, _, rfl, p, _, rfl, .inl (SqL.of ((upd_ne (ne_of_none h4 nE)).trans h4)), rfl, flat_strs _, _, rfl, ?_⟩
          rw [inV_str]
          refine iteB (fun e => ?_) (fun e => ?_)
          · have e : (!decide (y ∈ ts ++ rs)) = true := e
            refine ⟨_, rfl, _, upd_same, ?_, ?_⟩
            · rw [List.length_map]
              refine Nat.lt_of_le_of_lt (List.length_filter_le _ _) (Nat.lt_of_le_of_lt (List.length_take_le' _ _) ?_)
              show (cands l).length < sizeLine
              unfold cands
              rw [List.length_cons, List.length_map, List.length_range]
              decide
            · rw [upd_upd, take_filter hy, if_pos e, List.map_append]
              rfl
          · rw [take_filter hy, if_neg (by rw [show (!decide (y ∈ ts ++ rs)) = false from e]; decide), List.append_nil]
        · rintro H5 rfl
          rw [List.length_map, List.take_length]
          obtain ⟨x, hx, hx2⟩ := cands_free (l := l) (T := ts ++ rs) (by rw [List.length_append]; omega)
          have hm : x ∈ (cands l).filter fun x => !decide (x ∈ ts ++ rs) := List.mem_filter.mpr ⟨hx, by simpa using hx2⟩
          obtain ⟨y, r, e⟩ := List.exists_cons_of_ne_nil (List.ne_nil_of_mem hm)
          have hy : y ∈ (cands l).filter fun x => !decide (x ∈ ts ++ rs) := by rw [e]; exact List.mem_cons_self
          obtain ⟨hy1, hy2⟩ := List.mem_filter.mp hy
          have hy3 : y ∉ ts ++ rs := by simpa using hy2
          rw [e]
          refine ⟨_, _, _, .str y, rfl, rfl, SqL.of upd_same, at_of (j := 0) rfl rfl, ?_⟩
          have h6 : (L2.upd H4 E (.lst ((y :: r).map .str))) p = some (.lst ((ts ++ rs).map .str)) := (upd_ne (ne_of_none h4 nE)).trans h4
          refine ⟨p, _, .str y, rfl, rfl, h6, ?_, ?_⟩
          · rw [List.length_map, List.length_append]
            exact Nat.lt_of_lt_of_le (show ts.length + rs.length < 90 by omega) (by decide)
          refine ⟨rs ++ [y], _, _, rfl, by simp [hl], ?_, ?_, ?_, ?_, ?_, ?_⟩
          · intro z hz'
            rcases List.mem_append.mp hz' with q | q
            · exact hok z q
            · rw [List.mem_singleton.mp q]; exact cands_ok hz y hy1
          · exact nd_snoc hnd fun q => hy3 (List.mem_append_right _ q)
          · intro z hz'
            rcases List.mem_append.mp hz' with q | q
            · exact hts z q
            · rw [List.mem_singleton.mp q]; exact fun q => hy3 (List.mem_append_left _ q)
          · exact (((k1.trans k2).trans (Kp.of s4)).trans (Kp.new nE)).put np
          · exact (b4.new nE).put npb npc
          · rw [← List.append_assoc, List.map_append (l₁ := ts ++ rs)]
            exact upd_same
    · rintro σ H1 ⟨rs, o1, o2, rfl, hl, hok, hnd, hts, k1, b1, h1⟩
      have ha1 := k1 _ _ ha nab
      refine ⟨_, rfl, _, rfl, a, _, rfl, .inl (SqL.of ha1), _, rfl, p, _, rfl, SqL.of h1, fun p2 np2 => ?_⟩
      have e : cutV ((ts ++ rs).map V.str) (some ((ts.map V.str).length : Int)) none = rs.map V.str := by
        rw [List.length_map]; exact cut_from ts rs
      rw [e]
      exact k p2 rs _ hl hok hnd hts (k1.trans (Kp.new np2)) (b1.new np2) (k1.free np2 (b1.nb np2)) upd_same
end K02
set_option maxRecDepth 100000
set_option maxHeartbeats 4000000
namespace K02
open PySem PySem.Spec PyProof.Rows L2 He BL SX
local macro_rules | `(tactic| walk_at "ar") => `(tactic| first
  | exact Or.inl ⟨by omega, by omega⟩
  | exact Or.inr ⟨by omega, by omega⟩
  | exact ⟨by omega, by omega⟩
  | exact ⟨by omega, by omega, by omega⟩
  | exact ⟨by decide, by decide, by decide⟩
  | exact Nat.le_of_ble_eq_true rfl
  | exact rfl
  | omega
  | decide
  | fail)
local macro_rules | `(tactic| walk_at "ne") => `(tactic| first
  | assumption
  | (apply Ne.symm; assumption)
  | (refine ne_of_none ?_ (by assumption); walk_at "hp")
  | (apply Ne.symm; refine ne_of_none ?_ (by assumption); walk_at "hp")
  | fail)
local macro_rules | `(tactic| walk_at "hp") => `(tactic| first
  | assumption
  | exact upd_same
  | (refine (upd_ne ?_).trans ?_; · walk_at "ne"; · walk_at "hp")
  | (refine BL.Kp.at (by assumption) ?_ ?_; · walk_at "hp"; · walk_at "ne")
  | (refine BL.Same.at (by assumption) ?_; walk_at "hp")
  | fail)
local macro_rules | `(tactic| walk_at "rd1") => `(tactic| first
  | refine ⟨_, rfl, ?_⟩
  | refine ⟨_, _, rfl, rfl, ?_⟩
  | refine Or.inl ⟨_, rfl, ?_⟩
  | (refine ⟨_, _, _, _, rfl, rfl, SqL.of (by walk_at "hp"), rfl, ?_⟩)
  | (refine ⟨_, _, _, _, rfl, rfl, (by walk_at "hp"), rfl, ?_⟩)
  | (refine And.intro (by walk_at "ar") ?_)
  | fail)
local macro_rules | `(tactic| walk_at "rd") => `(tactic| (walk_at "rd1"; repeat' walk_at "rd1"))

variable {P : Program} {w : World} {K : PySem.W.Frag} {mg : Str → Option Value} {base : Heap}
theorem sc__law_shape : FnScope ["bag", "large", "bare", "many", "groups", "narrow", "joins", "marks", "rings", "k", "far", "a", "b", "ring", "extra", "j"] ["bag", "large"] (defScope s__law_shape) := ⟨rfl, rfl, rfl, by decide +kernel, rfl, by decide +kernel, by decide +kernel⟩
abbrev sp__law_shape : Sp := fun vs H Q _ => ∃ (b c : Addr) (lg : Bool), vs = [.ref b, .bl lg] ∧ BagAt H b c ∧
  ∀ (t pj pr : Addr) (many : Nat) (js : List (Addr × Nat × Nat)) (rs : List (Addr × List Nat)) (H' : Hp), ShapeOk many js rs → Kp b H H' → BagAt H' b c →
    H' t = some (.tup [.int many, .ref pj, .ref pr]) → H' pj = some (.lst (js.map fun j => .ref j.1)) → JoinsAt H' js → pj ≠ b → H' pr = some (.lst (rs.map fun r => .ref r.1)) → RingsAt b H' rs → pr ≠ b → Q (.ref t) H'
theorem cal__law_shape (M : Md K mg) : C8.Cal P w K mg base 3 "_law_shape" sp__law_shape [] := by
  refine cal_of (F__law_shape M) (g__law_shape M) sc__law_shape (fun _ _ _ _ _ _ us hl => match us, hl with | [_, _], _ => rfl) (fun vs H Q E h => ?_) (fun cdv A outer s H vs Q E hr h => ?_)
  · obtain ⟨b, c, lg, rfl, _⟩ := h
    rfl
  · obtain ⟨b, c, lg, rfl, hb, k⟩ := h
    refine ⟨_, (C8.pss_cut (ps_set (i := 2) sc__law_shape.nd rfl (Or.inl rfl) (pe_and (pe_not (pv 1)) (pe_one (pe_cmpR op_eq (C8.pe_c (cal__law_draw M) hr (by decide) rfl (pa_cons (pv 0) (pa_cons pe_int pa_nil))) pe_int (nomark _)))))
  (C8.pss_cut (ps_set (i := 3) sc__law_shape.nd rfl (Or.inl rfl) (pe_ifExp (pt_val (pv 1)) (pe_op op_add pe_int (C8.pe_c (cal__law_draw M) hr (by decide) rfl (pa_cons (pv 0) (pa_cons pe_int pa_nil)))) (pe_op op_add pe_int (C8.pe_c (cal__law_draw M) hr (by decide) rfl (pa_cons (pv 0) (pa_cons (pe_ifExp (pt_val (pv 2)) pe_int pe_int) pa_nil))))))
  (C8.pss_cut (ps_set (i := 4) sc__law_shape.nd rfl (Or.inl rfl) (pe_ifExp (pt_cmpR op_eq (C8.pe_c (cal__law_draw M) hr (by decide) rfl (pa_cons (pv 0) (pa_cons pe_int pa_nil))) pe_int (nomark _)) (pe_callB (call_min2 rfl) (by rfl) (b_min M) (by decide +kernel) (pa_cons (pe_callTy call_int1 (by rfl) (b_int M) (by decide +kernel) (pa_cons (pe_op op_fdiv (pv 3) pe_int) pa_nil)) (pa_cons (pe_callTy call_int1 (by rfl) (b_int M) (by decide +kernel) (pa_cons (pe_op op_add pe_int (C8.pe_c (cal__law_draw M) hr (by decide) rfl (pa_cons (pv 0) (pa_cons pe_int pa_nil)))) pa_nil)) pa_nil))) pe_int))
  (pss_cons (ps_set (i := 5) sc__law_shape.nd rfl (Or.inr rfl) (pe_cmpR op_eq (C8.pe_c (cal__law_draw M) hr (by decide) rfl (pa_cons (pv 0) (pa_cons pe_int pa_nil))) pe_int (nomark _)))
  (C8.pss_cut (ps_asg (pe_tup (pa_cons (pe_lst pa_nil) (pa_cons (pe_op op_rep (pe_lst (pa_cons pe_int pa_nil)) (pv 3)) (pa_cons (pe_lst pa_nil) pa_nil)))) (pg_tup rfl (pgs_cons (pg_name (i := 6) sc__law_shape.nd rfl (Or.inl rfl)) (pgs_cons (pg_name (i := 7) sc__law_shape.nd rfl (Or.inr rfl)) (pgs_cons (pg_name (i := 8) sc__law_shape.nd rfl (Or.inl rfl)) pgs_nil)))))
  (C8.pss_cut (ps_for PassesOwn.never rfl (pi_range2 rfl (b_range M) (pa_cons (pe_ifExp (pt_val (pv 2)) (pv 3) (pv 4)) (pa_cons (pv 3) pa_nil))) (pg_name (i := 9) sc__law_shape.nd rfl (Or.inl rfl)) (pss_cons (ps_set (i := 10) sc__law_shape.nd rfl (Or.inl rfl) (C8.pe_c (cal__law_of M) hr (by decide) rfl (pa_cons (pv 0) (pa_cons (pe_lc (own := [("j", 15)]) (g := (gName 15)) (tt := (tOr (tNot (tB (tVar 5))) (tTest (tOp (rI0 fun i j => .bl (decide (i < j))) (tOp (rIxL K) (tVar 7) (tVar 15)) (tC (.int 3)))))) (te := (tVar 15)) rfl sc__law_shape.nd (pi_range3 rfl (b_range M) (pa_cons (pe_op op_mod (pv 9) (pv 4)) (pa_cons (pv 9) (pa_cons (pv 4) pa_nil)))) (blkOk_by (N := ["bag", "large", "bare", "many", "groups", "narrow", "joins", "marks", "rings", "k", "far", "a", "b", "ring", "extra", "j"]) (by kernel_rfl)) (fun _ _ _ _ _ => (pg_name (i := 15) sc__law_shape.nd rfl (Or.inl rfl))) (fun _ _ _ _ _ => (pts_one (PW.pt (pw_or (pt_not (pt_val (pv 5))) (pw_or1 (pt_cmpR op_lt (pe_ix ix_list (pv 7) (pv 15) (fun _ _ => rfl)) pe_int (nomark _))))))) (fun _ _ _ _ _ => (pv 15))) pa_nil))))
  (C8.pss_cut (ps_expr (pe_bm PySem.F.plainAttrs_list PySem.F.slot_list_append PySem.F.type_list_append mt_append (pv 6) (pa_cons (pe_ifExp (pt_cmpR op_eq (C8.pe_c (cal__law_draw M) hr (by decide) rfl (pa_cons (pv 0) (pa_cons pe_int pa_nil))) pe_int (nomark _)) (pe_tup (pa_cons (pv 10) (pa_cons (pv 9) pa_nil))) (pe_tup (pa_cons (pv 9) (pa_cons (pv 10) pa_nil)))) pa_nil)))
  (pss_cons (ps_asg (pe_op op_add (pe_ix ix_list (pv 7) (pv 10) (fun _ _ => rfl)) pe_int) (pg_sub (pv 7) (pv 10) set_list))
  (pss_one (ps_asg (pe_op op_add (pe_ix ix_list (pv 7) (pv 9) (fun _ _ => rfl)) pe_int) (pg_sub (pv 7) (pv 9) set_list)))))))
  (C8.pss_cut (ps_for PassesOwn.never rfl (pi_range1 rfl (b_range M) (pa_cons (pe_ifExp (pt_val (pv 2)) pe_int (C8.pe_c (cal__law_draw M) hr (by decide) rfl (pa_cons (pv 0) (pa_cons (pe_op op_sub (pe_op op_add (pe_ifExp (pt_val (pv 1)) pe_int pe_int) pe_int) (pe_callB call_len_seq (by rfl) (b_len M) PySem.boot_len (pa_cons (pv 6) pa_nil))) pa_nil)))) pa_nil)) (pg_name (i := 9) sc__law_shape.nd rfl (Or.inl rfl)) (pss_cons (ps_set (i := 11) sc__law_shape.nd rfl (Or.inl rfl) (C8.pe_c (cal__law_draw M) hr (by decide) rfl (pa_cons (pv 0) (pa_cons (pv 3) pa_nil))))
  (pss_cons (ps_set (i := 12) sc__law_shape.nd rfl (Or.inl rfl) (C8.pe_c (cal__law_draw M) hr (by decide) rfl (pa_cons (pv 0) (pa_cons (pe_op op_sub (pv 3) pe_int) pa_nil))))
  (C8.pss_cut (ps_set (i := 12) sc__law_shape.nd rfl (Or.inl rfl) (pe_op op_add (pv 12) (pe_callTy call_int1 (by rfl) (b_int M) (by decide +kernel) (pa_cons (pe_cmpR op_ge (pv 12) (pv 11) (nomark _)) pa_nil))))
  (pss_one (ps_if (PW.pt (pw_or (pt_not (pt_val (pv 5))) (pw_or1 (PW.pt (pw_and (pt_cmpR op_lt (pe_ix ix_list (pv 7) (pv 11) (fun _ _ => rfl)) pe_int (nomark _)) (pw_and1 (pt_cmpR op_lt (pe_ix ix_list (pv 7) (pv 12) (fun _ _ => rfl)) pe_int (nomark _)))))))) (pss_cons (ps_expr (pe_bm PySem.F.plainAttrs_list PySem.F.slot_list_append PySem.F.type_list_append mt_append (pv 6) (pa_cons (pe_tup (pa_cons (pv 11) (pa_cons (pv 12) pa_nil))) pa_nil)))
  (pss_cons (ps_asg (pe_op op_add (pe_ix ix_list (pv 7) (pv 11) (fun _ _ => rfl)) pe_int) (pg_sub (pv 7) (pv 11) set_list))
  (pss_one (ps_asg (pe_op op_add (pe_ix ix_list (pv 7) (pv 12) (fun _ _ => rfl)) pe_int) (pg_sub (pv 7) (pv 12) set_list))))) pss_nil))))))
  (pss_cons (ps_for PassesOwn.never rfl (pi_range1 rfl (b_range M) (pa_cons (pe_ifExp (PW.pt (pw_or (pt_val (pv 2)) (pw_or1 (pt_cmpR op_eq (C8.pe_c (cal__law_draw M) hr (by decide) rfl (pa_cons (pv 0) (pa_cons pe_int pa_nil))) pe_int (nomark _))))) (pe_op op_add pe_int (pe_callTy call_int1 (by rfl) (b_int M) (by decide +kernel) (pa_cons (pe_cmpR op_eq (C8.pe_c (cal__law_draw M) hr (by decide) rfl (pa_cons (pv 0) (pa_cons pe_int pa_nil))) pe_int (nomark _)) pa_nil))) pe_int) pa_nil)) (pg_name (i := 9) sc__law_shape.nd rfl (Or.inl rfl)) (C8.pss_cut (ps_set (i := 13) sc__law_shape.nd rfl (Or.inl rfl) (pe_slice sl_list (C8.pe_c (cal__law_mixed M) hr (by decide) rfl (pa_cons (pv 0) (pa_cons (pe_listRg rfl rfl (b_list M) (prg_1 rfl (b_range M) (pe_callB call_len_seq (by rfl) (b_len M) PySem.boot_len (pa_cons (pv 7) pa_nil)))) pa_nil))) po_none (po_some (pe_ifExp (PW.pt (pw_and (pt_val (pv 2)) (pw_and1 (pt_cmpR op_eq (pv 9) pe_int (nomark _))))) pe_int (pe_op op_add pe_int (C8.pe_c (cal__law_draw M) hr (by decide) rfl (pa_cons (pv 0) (pa_cons pe_int pa_nil))))))))
  (C8.pss_cut (ps_set (i := 14) sc__law_shape.nd rfl (Or.inl rfl) (pe_ifExp (PW.pt (pw_or (pt_val (pv 2)) (pw_or1 (pt_cmpR op_gt (pv 3) pe_int (nomark _))))) pe_int (C8.pe_c (cal__law_draw M) hr (by decide) rfl (pa_cons (pv 0) (pa_cons pe_int pa_nil)))))
  (C8.pss_cut (ps_if (pt_cmpR op_eq (pv 14) pe_int (nomark _)) (pss_cons (ps_set (i := 13) sc__law_shape.nd rfl (Or.inl rfl) (pe_lst (pa_cons (pv 3) (pa_cons (pe_op op_add (pv 3) pe_int) pa_nil))))
  (pss_one (ps_set (i := 3) sc__law_shape.nd rfl (Or.inl rfl) (pe_op op_add (pv 3) pe_int)))) (pss_one (ps_if (pt_cmpR op_lt (pv 14) pe_int (nomark _)) (pss_cons (ps_asg (pv 3) (pg_sub (pv 13) pe_int set_list))
  (pss_one (ps_set (i := 3) sc__law_shape.nd rfl (Or.inl rfl) (pe_op op_add (pv 3) pe_int)))) pss_nil)))
  (pss_one (ps_expr (pe_bm PySem.F.plainAttrs_list PySem.F.slot_list_append PySem.F.type_list_append mt_append (pv 8) (pa_cons (pv 13) pa_nil))))))))
  (pss_one (ps_ret (pe_tup (pa_cons (pv 3) (pa_cons (pv 6) (pa_cons (pv 8) pa_nil)))))))))))))), ?_⟩
    have sl : sizeLine = 16777216 := rfl
    -- bare
    refine ⟨fun σ H1 => ∃ br : Bool, σ = [some (.ref b), some (.bl lg), some (.bl br), none, none, none, none, none, none, none, none, none, none, none, none, none] ∧ (br = true → lg = false) ∧ Kp b H H1 ∧ BagAt H1 b c, ?_, ?_⟩
    · refine ⟨_, rfl, _, rfl, _, rfl, ?_⟩
      refine iteB (fun e => ?_) (fun e => ?_)
      · refine ⟨_, rfl, b, c, 24, rfl, hb, by decide, by decide, fun r H1 r0 r1 k1 b1 => ?_⟩
        exact ⟨rfl, _, rfl, fun _ => (by revert e; cases lg; · intro _; rfl
                                         · intro e; cases e), k1, b1⟩
      · exact ⟨false, rfl, nofun, Kp.refl _ _, hb⟩
    rintro σ H1 ⟨br, rfl, hbr, k1, b1⟩
    -- many
    refine ⟨fun σ H1 => ∃ m : Nat, σ = [some (.ref b), some (.bl lg), some (.bl br), some (.int m), none, none, none, none, none, none, none, none, none, none, none, none] ∧ 2 ≤ m ∧ m ≤ 22 ∧ (br = true → m ≤ 4) ∧ (lg = false → m ≤ 7) ∧ Kp b H H1 ∧ BagAt H1 b c, ?_, ?_⟩
    · refine ⟨_, rfl, _, rfl, iteB (fun e => ?_) (fun e => ?_)⟩
      · refine ⟨_, rfl, b, c, 8, rfl, b1, by decide, by decide, fun r H2 r0 r1 k2 b2 => ?_⟩
        refine ⟨_, _, rfl, rfl, (15 + r).toNat, ?_, by omega, by omega, fun q => ?_, fun q => ?_, k1.trans k2, b2⟩
        · rw [show (((15 + r).toNat : Nat) : Int) = 15 + r by omega]; rfl
        · have := hbr q; rw [e] at this; cases this
        · rw [e] at q; cases q
      · refine ⟨_, rfl, _, rfl, _, rfl, iteB (fun e2 => ?_) (fun e2 => ?_)⟩
        · refine ⟨b, c, 3, rfl, b1, by decide, by decide, fun r H2 r0 r1 k2 b2 => ?_⟩
          refine ⟨_, _, rfl, rfl, (2 + r).toNat, ?_, by omega, by omega, fun q => by omega, fun q => by omega, k1.trans k2, b2⟩
          rw [show (((2 + r).toNat : Nat) : Int) = 2 + r by omega]; rfl
        · refine ⟨b, c, 6, rfl, b1, by decide, by decide, fun r H2 r0 r1 k2 b2 => ?_⟩
          refine ⟨_, _, rfl, rfl, (2 + r).toNat, ?_, by omega, by omega, fun q => (by rw [e2] at q; cases q), fun q => by omega, k1.trans k2, b2⟩
          rw [show (((2 + r).toNat : Nat) : Int) = 2 + r by omega]; rfl
    clear k1 b1
    rintro σ H1 ⟨m, rfl, m2, m22, hm4, hm7, k1, b1⟩
    -- groups
    refine ⟨fun σ H1 => ∃ g : Nat, σ = [some (.ref b), some (.bl lg), some (.bl br), some (.int m), some (.int g), none, none, none, none, none, none, none, none, none, none, none] ∧ 1 ≤ g ∧ g ≤ 3 ∧ 2 * g ≤ m ∧ Kp b H H1 ∧ BagAt H1 b c, ?_, ?_⟩
    · refine ⟨_, rfl, b, c, 5, rfl, b1, by decide, by decide, fun r H2 r0 r1 k2 b2 => ?_⟩
      refine ⟨rfl, _, rfl, iteB (fun e => ?_) (fun e => ?_)⟩
      · refine ⟨_, rfl, _, _, rfl, rfl, (by walk_at "ar"), .inl ⟨_, rfl, ?_⟩⟩
        refine ⟨_, rfl, b, c, 2, rfl, b2, by decide, by decide, fun q H3 q0 q1 k3 b3 => ?_⟩
        refine ⟨_, _, rfl, rfl, .inl ⟨_, rfl, ?_⟩⟩
        refine ⟨_, _, rfl, ?_⟩
        have e1 : (if (2 + q : Int) < (m : Int) / 2 then 2 + q else (m : Int) / 2) = ((if (2 + q : Int) < (m : Int) / 2 then 2 + q else (m : Int) / 2).toNat : Nat) := by split <;> omega
        rw [e1]
        refine ⟨_, rfl, ?_, ?_, ?_, (k1.trans k2).trans k3, b3⟩ <;> split <;> omega
      · exact ⟨1, rfl, by omega, by omega, by omega, k1.trans k2, b2⟩
    clear k1 b1
    rintro σ H1 ⟨g, rfl, g1, g3, g2, k1, b1⟩
    -- narrow
    refine ⟨_, rfl, b, c, 2, rfl, b1, by decide, by decide, fun rn H2 _ _ k2 b2 => ?_⟩
    refine ⟨rfl, ?_⟩
    generalize (decide (V.int rn = V.int 0)) = nw
    have k1 := k1.trans k2
    clear k2 b1
    -- joins, marks, rings
    refine ⟨fun σ H1 => ∃ pj pm pr : Addr, σ = [some (.ref b), some (.bl lg), some (.bl br), some (.int m), some (.int g), some (.bl nw), some (.ref pj), some (.ref pm), some (.ref pr), none, none, none, none, none, none, none] ∧ ShSt H H1 b c pj pm pr m [] (fun _ => 0) [], ?_, ?_⟩
    · refine ⟨Nat.zero_le _, fun pj nj => ?_⟩
      refine ⟨by decide, fun p0 n0 => ⟨_, rfl, ?_⟩⟩
      refine ⟨p0, m, _, rfl, rfl, upd_same, by omega, by omega, ?_, fun pm nm => ?_⟩
      · show ([V.int 0] : List V).length * ((m : Int)).toNat ≤ 16777216
        rw [List.length_singleton]; omega
      have em : (List.replicate ((m : Int)).toNat [V.int 0]).flatten = (List.range m).map fun _ => V.int 0 := by
        rw [show ((m : Int)).toNat = m from rfl]
        clear m2 m22 hm4 hm7 g2 nm
        induction m with
        | zero => rfl
        | succ n ih => rw [List.replicate_succ', List.flatten_append, ih, List.range_succ, List.map_append]; rfl
      rw [em]
      refine ⟨Nat.zero_le _, fun pr nr => ?_⟩
      refine ⟨Nat.le_of_ble_eq_true rfl, fun t nt => ?_⟩
      refine ⟨t, _, rfl, .of upd_same, rfl, ?_⟩
      refine ⟨_, _, rfl, _, _, rfl, _, _, rfl, rfl, pj, pm, pr, rfl, ?_⟩
      have nm0 := upd_free nm
      have nm1 := upd_free nm0
      have nr0 := upd_free nr
      have nr1 := upd_free nr0
      have nr2 := upd_free nr1
      have hj0 : (L2.upd H2 pj (.lst [])) pj = some (.lst []) := upd_same
      have j0 : pj ≠ p0 := ne_of_none hj0 n0
      have hj1 : (L2.upd (L2.upd H2 pj (.lst [])) p0 (.lst [.int 0])) pj = some (.lst []) := (upd_ne j0).trans hj0
      have jm : pj ≠ pm := ne_of_none hj1 nm
      have hj2 := (upd_ne (o := .lst ((List.range m).map fun _ => V.int 0)) jm).trans hj1
      have jr : pj ≠ pr := ne_of_none hj2 nr
      have mr : pm ≠ pr := ne_of_none (H := L2.upd (L2.upd (L2.upd H2 pj (.lst [])) p0 (.lst [.int 0])) pm (.lst ((List.range m).map fun _ => V.int 0))) upd_same nr
      have tj : pj ≠ t := ne_of_none ((upd_ne (o := .lst []) jr).trans hj2) nt
      have tm : pm ≠ t := ne_of_none ((upd_ne (o := .lst []) mr).trans upd_same) nt
      have tr : pr ≠ t := ne_of_none upd_same nt
      have bb1 := b2.new (o := .lst []) nj
      have bb2 := bb1.new (o := .lst [.int 0]) n0
      have bb3 := bb2.new (o := .lst ((List.range m).map fun _ => V.int 0)) nm
      have bb4 := bb3.new (o := .lst []) nr
      exact { kp := (((((k1.trans (Kp.new nj)).trans (Kp.new n0)).trans (Kp.new nm)).trans (Kp.new nr)).trans (Kp.new nt)), bag := bb4.new nt, bj := b2.nb nj, bm := b2.nb nm1, br := b2.nb nr2, cj := b2.nc nj, cm := b2.nc nm1, cr := b2.nc nr2,
              nj := k1.free nj (b2.nb nj), nm := k1.free nm1 (b2.nb nm1), nr := k1.free nr2 (b2.nb nr2), jm := jm, jr := jr, mr := mr,
              hj := (upd_ne tj).trans ((upd_ne jr).trans hj2), hm := (upd_ne tm).trans ((upd_ne mr).trans upd_same), hr := (upd_ne tr).trans upd_same,
              ja := fun j hj => absurd hj List.not_mem_nil, ra := fun j hj => absurd hj List.not_mem_nil, rr := fun j hj => absurd hj List.not_mem_nil }
    clear k1 b2
    rintro σ H1 ⟨pj, pm, pr, rfl, S0⟩
    -- the first streets
    refine ⟨fun σ H1 => ∃ (js : List (Addr × Nat × Nat)) (f : Nat → Int) (o1 o2 : Option V), σ = [some (.ref b), some (.bl lg), some (.bl br), some (.int m), some (.int g), some (.bl nw), some (.ref pj), some (.ref pm), some (.ref pr), o1, o2, none, none, none, none, none] ∧ ShSt H H1 b c pj pm pr m js f [] ∧ JEnds m js ∧ js.length ≤ m ∧ (br = false → js.length < m ∧ ∀ x, x < m → JTch js x) ∧ (br = true → js.length = 0), ?_, ?_⟩
    · refine ⟨_, rfl, _, rfl, ?_⟩
      refine iteB (fun e => ?_) (fun e => ?_)
      · refine ⟨_, rfl, _, rfl, _, _, rfl, (by omega), ?_⟩
        refine for_range (n := ((m : Int) - m).toNat) (fun i σ H1 => i = 0 ∧ σ = [some (.ref b), some (.bl lg), some (.bl br), some (.int m), some (.int g), some (.bl nw), some (.ref pj), some (.ref pm), some (.ref pr), none, none, none, none, none, none, none] ∧ ShSt H H1 b c pj pm pr m [] (fun _ => 0) []) ⟨rfl, rfl, S0⟩ (fun i _ _ hi _ => by omega) ?_
        rintro σ H2 ⟨_, rfl, S1⟩
        exact ⟨[], _, none, none, rfl, S1, nofun, Nat.zero_le _, fun q => (by rw [e] at q; cases q), fun _ => rfl⟩
      · refine ⟨_, rfl, _, rfl, _, _, rfl, (by omega), ?_⟩
        refine for_range (n := ((m : Int) - g).toNat) (fun i σ H1 => ∃ (js : List (Addr × Nat × Nat)) (f : Nat → Int) (o1 o2 : Option V), σ = [some (.ref b), some (.bl lg), some (.bl br), some (.int m), some (.int g), some (.bl nw), some (.ref pj), some (.ref pm), some (.ref pr), o1, o2, none, none, none, none, none] ∧ ShSt H H1 b c pj pm pr m js f [] ∧ L1 m g (g + i) js f) ⟨[], _, none, none, rfl, S0, ⟨nofun, by simp, fun x _ _ => by omega, fun x _ _ => by omega, fun _ _ => rfl, fun _ _ => by omega⟩⟩ ?_ ?_
        · rintro i σ H1 hi ⟨js, f, o1, o2, rfl, S1, l1⟩
          have hk : g + i < m := by omega
          rw [show ((g : Int) + (i : Nat)) = ((g + i : Nat) : Int) from rfl]
          generalize hkk : g + i = k0 at hk l1
          have gk : g ≤ k0 := by omega
          refine ⟨_, rfl, _, rfl, _, rfl, _, _, rfl, rfl, (by omega), _, rfl, _, rfl, _, _, _, _, rfl, rgC k0 (by omega) g (by omega) g1, fun D nD => ?_⟩
          have S2 : ShSt H (L2.upd H1 D (.lst [])) b c pj pm pr m js f [] := S1.new nD
          have Dm : pm ≠ D := ne_of_none S1.hm nD
          refine lc_it walk_rangeC (fun i H3 => ∃ cs : List Nat, H3 = L2.upd H1 D (.lst (cs.map fun x => V.int (x : Nat))) ∧ cs.length ≤ i ∧ (∀ v ∈ cs, ∃ t, t < k0 / g ∧ v = k0 % g + t * g) ∧ ∀ t, t < i → f (k0 % g + t * g) < 3 → (k0 % g + t * g) ∈ cs) ⟨[], rfl, Nat.le_refl _, nofun, fun t ht => by omega⟩ (fun _ _ _ _ => trivial) ?_ ?_
          · rintro j x H3 H3' hj ⟨cs, rfl, hcl, hcs, hca⟩ ⟨rfl, ex⟩
            have hfar := far_lt g1 g3 hj
            have ex : x = .int ((k0 % g + j * g : Nat) : Int) := ex.trans (by push_cast; rfl)
            subst ex
            have add : ∃ acc, (L2.upd H1 D (.lst (cs.map fun x => V.int (x : Nat)))) D = some (.lst acc) ∧ acc.length < sizeLine ∧ ∃ cs' : List Nat, L2.upd (L2.upd H1 D (.lst (cs.map fun x => V.int (x : Nat)))) D (.lst (acc ++ [.int ((k0 % g + j * g : Nat) : Int)])) = L2.upd H1 D (.lst (cs'.map fun x => V.int (x : Nat))) ∧ cs'.length ≤ j + 1 ∧ (∀ v ∈ cs', ∃ t, t < k0 / g ∧ v = k0 % g + t * g) ∧ ∀ t, t < j + 1 → f (k0 % g + t * g) < 3 → (k0 % g + t * g) ∈ cs' := by
              refine ⟨_, upd_same, ?_, cs ++ [k0 % g + j * g], ?_, ?_, ?_, ?_⟩
              · rw [List.length_map, sl]
                have : j < 25 := Nat.lt_of_lt_of_le hj (Nat.le_trans (Nat.div_le_self _ _) (by omega))
                omega
              · rw [upd_upd, List.map_append]; rfl
              · rw [List.length_append, List.length_singleton]; omega
              · intro v hv
                rcases List.mem_append.mp hv with q | q
                · exact hcs v q
                · exact ⟨j, hj, List.mem_singleton.mp q⟩
              · intro t ht hf
                by_cases et : t = j
                · subst et; exact List.mem_append_right _ (List.mem_singleton.mpr rfl)
                · exact List.mem_append_left _ (hca t (by omega) hf)
            refine ⟨rfl, _, rfl, _, rfl, ?_⟩
            refine iteB (fun en => ?_) (fun en => ?_)
            · exact iteB (fun _ => ⟨_, rfl, add⟩) (fun h => by cases h)
            · refine ⟨_, rfl, _, rfl, pm, _, _, _, rfl, rfl, SqL.of ((upd_ne Dm).trans S1.hm), at_of (j := k0 % g + j * g) rfl (get_fn (by omega)), _, _, rfl, rfl, _, rfl, ?_⟩
              refine iteD (fun ef => ?_) (fun ef => ?_)
              · exact ⟨_, rfl, add⟩
              · refine ⟨cs, rfl, by omega, hcs, fun t ht hf => ?_⟩
                by_cases et : t = j
                · subst et; exact absurd hf ef
                · exact hca t (by omega) hf
          · rintro H3 ⟨cs, rfl, hcl, hcs, hca⟩
            obtain ⟨lc1, lc2⟩ := last_cand g1 g3 gk
            have S3 : ShSt H (L2.upd H1 D (.lst (cs.map fun x => V.int (x : Nat)))) b c pj pm pr m js f [] := S1.new nD
            have hne : 0 < cs.length := List.length_pos_of_mem (hca (k0 / g - 1) (by omega) (by have := l1.o (k0 % g + (k0 / g - 1) * g) (by omega); omega))
            have hd25 : k0 / g < 25 := Nat.lt_of_le_of_lt (Nat.div_le_self _ _) (by omega)
            refine ⟨b, c, _, rfl, S3.bag, .inl ⟨D, _, rfl, upd_same, S1.bag.nb nD, by rw [List.length_map]; exact hne, by rw [List.length_map]; omega, fun v H4 hv k4 b4 => ?_⟩⟩
            obtain ⟨v', hv', rfl⟩ := List.mem_map.mp hv
            obtain ⟨t, ht, rfl⟩ := hcs v' hv'
            have hfar := far_lt g1 g3 ht
            have S4 := S3.step k4 b4
            clear S2 S3 hca hcs hcl k4 b4
            have hjl : js.length < sizeLine := by have := l1.ln; rw [sl]; omega
            have sg : ([some (.ref b), some (.bl lg), some (.bl br), some (.int m), some (.int g), some (.bl nw), some (.ref pj), some (.ref pm), some (.ref pr), o1, o2, none, none, none, none, none].set 9 (some (V.int k0))).set 10 (some (V.int ((k0 % g + t * g : Nat) : Int))) = [some (.ref b), some (.bl lg), some (.bl br), some (.int m), some (.int g), some (.bl nw), some (.ref pj), some (.ref pm), some (.ref pr), some (V.int k0), some (V.int ((k0 % g + t * g : Nat) : Int)), none, none, none, none, none] := rfl
            refine ⟨fun σ H1 => ∃ (p : Addr) (x y : Nat), σ = [some (.ref b), some (.bl lg), some (.bl br), some (.int m), some (.int g), some (.bl nw), some (.ref pj), some (.ref pm), some (.ref pr), some (V.int k0), some (V.int ((k0 % g + t * g : Nat) : Int)), none, none, none, none, none] ∧ ShSt H H1 b c pj pm pr m (js ++ [(p, x, y)]) f [] ∧ ((x = k0 % g + t * g ∧ y = k0) ∨ (x = k0 ∧ y = k0 % g + t * g)), ?_, ?_⟩
            · refine ⟨_, rfl, .inl ⟨rfl, _, SqL.of S4.hj⟩, _, rfl, b, c, 2, rfl, S4.bag, by decide, by decide, fun r H5 r0 r1 k5 b5 => ?_⟩
              have S5 := S4.step k5 b5
              refine ⟨rfl, _, rfl, iteB (fun _ => ?_) (fun _ => ?_)⟩
              · refine ⟨_, rfl, _, rfl, Nat.le_of_ble_eq_true rfl, fun p np => ?_⟩
                exact ⟨pj, _, _, rfl, rfl, (S5.new np).hj, by rw [List.length_map]; exact hjl, p, k0 % g + t * g, k0, rfl, (S5.new np).join upd_same, .inl ⟨rfl, rfl⟩⟩
              · refine ⟨_, rfl, _, rfl, Nat.le_of_ble_eq_true rfl, fun p np => ?_⟩
                exact ⟨pj, _, _, rfl, rfl, (S5.new np).hj, by rw [List.length_map]; exact hjl, p, k0, k0 % g + t * g, rfl, (S5.new np).join upd_same, .inr ⟨rfl, rfl⟩⟩
            clear S4
            rintro σ H5 ⟨p, x, y, rfl, S5, hxy⟩
            have rl : ∀ h : Nat → Int, ((List.range m).map fun j => V.int (h j)).length = m := fun h => by rw [List.length_map, List.length_range]
            refine ⟨_, rfl, _, rfl, pm, _, _, _, rfl, rfl, SqL.of S5.hm, at_of (j := k0 % g + t * g) rfl (get_fn (by omega)), _, _, rfl, rfl, ?_⟩
            refine ⟨_, rfl, _, rfl, pm, _, _, _, rfl, rfl, S5.hm, ixN_nat (j := k0 % g + t * g) (by rw [rl]; omega), ?_⟩
            rw [set_fn]
            have S6 := S5.mark (i := k0 % g + t * g) (z := f (k0 % g + t * g) + 1)
            refine ⟨_, rfl, _, rfl, pm, _, _, _, rfl, rfl, SqL.of S6.hm, at_of (j := k0) rfl (get_fn hk), _, _, rfl, rfl, ?_⟩
            refine ⟨_, rfl, _, rfl, pm, _, _, _, rfl, rfl, S6.hm, ixN_nat (j := k0) (by rw [rl]; omega), ?_⟩
            rw [set_fn, if_neg (show ¬ k0 = k0 % g + t * g by omega)]
            refine ⟨_, _, _, _, rfl, S6.mark, ?_⟩
            rw [← Nat.add_assoc, hkk]
            exact l1.add g1 g3 hk gk ht hxy
        · rintro σ H2 ⟨js, f, o1, o2, rfl, S1, l1⟩
          rw [show g + ((m : Int) - g).toNat = m by omega] at l1
          exact ⟨js, f, o1, o2, rfl, S1, l1.je, by have := l1.ln; omega, fun _ => ⟨by have := l1.ln; omega, l1.all g2⟩, fun q => (by rw [e] at q; cases q)⟩
    clear S0
    rintro σ H1 ⟨js, f, o1, o2, rfl, S0, je0, jl0, jf0, jt0⟩
    -- more streets
    refine ⟨fun σ H1 => ∃ (js : List (Addr × Nat × Nat)) (f : Nat → Int) (o1 o2 o3 o4 : Option V), σ = [some (.ref b), some (.bl lg), some (.bl br), some (.int m), some (.int g), some (.bl nw), some (.ref pj), some (.ref pm), some (.ref pr), o1, o2, o3, o4, none, none, none] ∧ ShSt H H1 b c pj pm pr m js f [] ∧ JEnds m js ∧ js.length ≤ 36 ∧ (br = false → ∀ x, x < m → JTch js x), ?_, ?_⟩
    · have rl : ∀ h : Nat → Int, ((List.range m).map fun j => V.int (h j)).length = m := fun h => by rw [List.length_map, List.length_range]
      refine via (te := tIf _ _ _) (fun x H2 => ∃ n : Nat, x = .int n ∧ js.length + n ≤ 36 ∧ ShSt H H2 b c pj pm pr m js f []) (fun Q hQ => ?_) ?_
      · refine ⟨_, rfl, _, rfl, iteB (fun e => ?_) (fun e => ?_)⟩
        · exact hQ _ _ ⟨0, rfl, by have := jt0 e; omega, S0⟩
        · obtain ⟨jl1, _⟩ := jf0 e
          refine ⟨_, rfl, ?_⟩
          refine via (te := tIf _ _ _) (fun x H2 => H2 = H1 ∧ ∃ n : Int, x = .int n ∧ js.length ≤ n ∧ n ≤ 36) (fun Q hQ => ?_) ?_
          · refine ⟨_, rfl, _, rfl, iteB (fun e2 => ?_) (fun e2 => ?_)⟩
            · exact hQ _ _ ⟨rfl, 36, rfl, by omega, by omega⟩
            · exact hQ _ _ ⟨rfl, 10, rfl, by have := hm7 e2; omega, by omega⟩
          rintro x H2 ⟨rfl, n, rfl, n0, n1⟩
          refine ⟨_, _, rfl, rfl, _, rfl, ⟨_, _, rfl, .inl (SqL.of S0.hj), ?_⟩⟩
          rw [List.length_map]
          refine ⟨_, _, rfl, rfl, b, c, _, rfl, S0.bag, by omega, by omega, fun r H3 r0 r1 k3 b3 => ?_⟩
          refine hQ _ _ ⟨r.toNat, ?_, by omega, S0.step k3 b3⟩
          rw [show ((r.toNat : Nat) : Int) = r by omega]
      clear S0
      rintro x H2 ⟨n, rfl, hn, S0⟩
      refine ⟨_, rfl, by omega, by omega, ?_⟩
      refine for_range (n := n) (fun i σ H1 => ∃ (js' : List (Addr × Nat × Nat)) (f : Nat → Int) (o1 o2 o3 o4 : Option V), σ = [some (.ref b), some (.bl lg), some (.bl br), some (.int m), some (.int g), some (.bl nw), some (.ref pj), some (.ref pm), some (.ref pr), o1, o2, o3, o4, none, none, none] ∧ ShSt H H1 b c pj pm pr m js' f [] ∧ JEnds m js' ∧ js'.length ≤ js.length + i ∧ (br = false → ∀ x, x < m → JTch js' x)) ⟨js, f, o1, o2, none, none, rfl, S0, je0, by omega, fun q => (jf0 q).2⟩ ?_ ?_
      · clear S0 jf0 jt0 jl0 je0
        rintro i σ H1 hi ⟨js', f, o1, o2, o3, o4, rfl, S1, je1, jl1, jf1⟩
        refine ⟨_, rfl, _, rfl, b, c, _, rfl, S1.bag, by omega, by omega, fun ra H2 a0 a1 k2 b2 => ?_⟩
        have S2 := S1.step k2 b2
        clear S1 k2 b2
        refine ⟨_, rfl, _, rfl, _, _, rfl, rfl, b, c, _, rfl, S2.bag, by omega, by omega, fun rb H3 b0 b1 k3 b3 => ?_⟩
        have S3 := S2.step k3 b3
        clear S2 k3 b3
        obtain ⟨x, ex⟩ : ∃ x : Nat, ra = (x : Int) := ⟨ra.toNat, by omega⟩
        have hx : x < m := by omega
        refine ⟨fun σ H1 => H1 = H3 ∧ ∃ y : Nat, σ = [some (.ref b), some (.bl lg), some (.bl br), some (.int m), some (.int g), some (.bl nw), some (.ref pj), some (.ref pm), some (.ref pr), some (.int (0 + (i : Nat))), o2, some (.int ra), some (.int y), none, none, none] ∧ y < m ∧ x ≠ y, ?_, ?_⟩
        · refine ⟨_, rfl, _, rfl, _, rfl, _, _, rfl, rfl, .inr ⟨_, rfl, _, _, rfl, rfl, ?_⟩⟩
          by_cases h : ra ≤ rb
          · rw [if_pos (decide_eq_true h)]
            obtain ⟨y, ey⟩ : ∃ y : Nat, rb + 1 = (y : Int) := ⟨(rb + 1).toNat, by omega⟩
            refine ⟨rfl, y, ?_, by omega, by omega⟩
            rw [← ey]; rfl
          · rw [if_neg (by simp [h])]
            obtain ⟨y, ey⟩ : ∃ y : Nat, rb + 0 = (y : Int) := ⟨(rb + 0).toNat, by omega⟩
            refine ⟨rfl, y, ?_, by omega, by omega⟩
            rw [← ey]; rfl
        rintro σ H3 ⟨rfl, y, rfl, hy⟩
        subst ex
        clear b0 b1 a0 a1
        refine viaT (tt := tOr _ _) (fun _ H1 => H1 = H3) (fun Q hQ => ?_) ?_
        · refine ⟨_, rfl, _, rfl, iteB (fun _ => hQ _ _ rfl) (fun _ => ?_)⟩
          refine ⟨_, rfl, _, rfl, pm, _, _, _, rfl, rfl, SqL.of S3.hm, at_of (j := x) rfl (get_fn hx), _, _, rfl, rfl, _, rfl, iteB (fun _ => ?_) (fun _ => hQ _ _ rfl)⟩
          exact ⟨_, rfl, _, rfl, pm, _, _, _, rfl, rfl, SqL.of S3.hm, at_of (j := y) rfl (get_fn hy.1), _, _, rfl, rfl, _, rfl, hQ _ _ rfl⟩
        rintro cc _ rfl
        refine iteB (fun _ => ?_) (fun _ => ⟨js', f, _, _, _, _, rfl, S3, je1, by omega, jf1⟩)
        refine ⟨_, rfl, .inl ⟨rfl, _, SqL.of S3.hj⟩, _, rfl, _, rfl, Nat.le_of_ble_eq_true rfl, fun p np => ?_⟩
        refine ⟨pj, _, _, rfl, rfl, (S3.new np).hj, by rw [List.length_map, sl]; omega, ?_⟩
        have S4 := (S3.new np).join (x := x) (y := y) upd_same
        refine ⟨_, rfl, _, rfl, pm, _, _, _, rfl, rfl, SqL.of S4.hm, at_of (j := x) rfl (get_fn hx), _, _, rfl, rfl, ?_⟩
        refine ⟨_, rfl, _, rfl, pm, _, _, _, rfl, rfl, S4.hm, ixN_nat (j := x) (by rw [rl]; omega), ?_⟩
        rw [set_fn]
        have S5 := S4.mark (i := x) (z := f x + 1)
        refine ⟨_, rfl, _, rfl, pm, _, _, _, rfl, rfl, SqL.of S5.hm, at_of (j := y) rfl (get_fn hy.1), _, _, rfl, rfl, ?_⟩
        refine ⟨_, rfl, _, rfl, pm, _, _, _, rfl, rfl, S5.hm, ixN_nat (j := y) (by rw [rl]; omega), ?_⟩
        rw [set_fn]
        exact ⟨_, _, _, _, _, _, rfl, S5.mark, je1.app hx hy.1 hy.2, by rw [List.length_append, List.length_singleton]; omega, fun q z hz => (jf1 q z hz).app⟩
      · rintro σ H3 ⟨js', f, o1, o2, o3, o4, rfl, S1, je1, jl1, jf1⟩
        exact ⟨js', f, o1, o2, o3, o4, rfl, S1, je1, by omega, jf1⟩
    clear S0
    rintro σ H1 ⟨js, f, o1, o2, o3, o4, rfl, S0, je0, jl0, jf0⟩
    -- rings
    refine via (te := tIf _ _ _) (fun x H2 => ∃ n : Nat, x = .int n ∧ n ≤ 2 ∧ (br = true → 1 ≤ n) ∧ ShSt H H2 b c pj pm pr m js f []) (fun Q hQ => ?_) ?_
    · refine viaT (tt := tOr _ _) (fun cc H1 => (br = true → cc = true) ∧ ShSt H H1 b c pj pm pr m js f []) (fun Q hQ => ?_) ?_
      · refine ⟨_, rfl, _, rfl, iteB (fun _ => hQ _ _ ⟨fun _ => rfl, S0⟩) (fun e => ?_)⟩
        refine ⟨_, rfl, b, c, 3, rfl, S0.bag, by decide, by decide, fun r H3 r0 r1 k3 b3 => ?_⟩
        exact ⟨rfl, _, rfl, hQ _ _ ⟨fun q => (by rw [e] at q; cases q), S0.step k3 b3⟩⟩
      clear S0
      rintro cc H2 ⟨hcc, S0⟩
      refine iteB (fun e => ?_) (fun e => ?_)
      · refine ⟨_, rfl, b, c, 4, rfl, S0.bag, by decide, by decide, fun r H3 r0 r1 k3 b3 => ?_⟩
        refine ⟨rfl, .inr ⟨_, rfl, _, _, rfl, rfl, ?_⟩⟩
        have S1 := S0.step k3 b3
        by_cases h : V.int r = V.int 0
        · rw [if_pos (decide_eq_true h)]
          exact hQ _ _ ⟨2, rfl, by omega, fun _ => by omega, S1⟩
        · rw [if_neg (by simpa using h)]
          exact hQ _ _ ⟨1, rfl, by omega, fun _ => by omega, S1⟩
      · exact hQ _ _ ⟨0, rfl, by omega, fun q => (by have := hcc q; rw [e] at this; cases this), S0⟩
    clear S0
    rintro x H2 ⟨n, rfl, n2, nb, S0⟩
    refine ⟨_, rfl, by omega, by omega, ?_⟩
    refine for_range (n := n) (fun i σ H1 => ∃ (M' : Nat) (rs : List (Addr × List Nat)) (o1 o2 o3 o4 o5 o6 : Option V), σ = [some (.ref b), some (.bl lg), some (.bl br), some (.int M'), some (.int g), some (.bl nw), some (.ref pj), some (.ref pm), some (.ref pr), o1, o2, o3, o4, o5, o6, none] ∧ ShSt H H1 b c pj pm pr m js f rs ∧ m ≤ M' ∧ M' ≤ 24 ∧ (br = true → M' = m) ∧ REnds M' rs ∧ rs.length = i ∧ ((br = true → 0 < i) → ∀ x, x < M' → JTch js x ∨ ∃ r ∈ rs, x ∈ r.2)) ⟨m, [], o1, o2, o3, o4, none, none, rfl, S0, Nat.le_refl _, by omega, fun _ => rfl, nofun, rfl, fun q z hz => .inl (jf0 (by cases br; rfl; exact absurd (q rfl) (by decide)) z hz)⟩ ?_ ?_
    · clear S0
      rintro i σ H1 hi ⟨M', rs, o1, o2, o3, o4, o5, o6, rfl, S1, M0, M1, M2, re, rl, tc⟩
      have M25 : M' < 25 := by omega
      -- ring
      refine ⟨fun σ H1 => ∃ (p : Addr) (l : List Nat), σ = [some (.ref b), some (.bl lg), some (.bl br), some (.int M'), some (.int g), some (.bl nw), some (.ref pj), some (.ref pm), some (.ref pr), some (.int (0 + (i : Nat))), o2, o3, o4, some (.ref p), o6, none] ∧ ShSt H H1 b c pj pm pr m js f rs ∧ p ≠ b ∧ p ≠ c ∧ H p = none ∧ p ≠ pj ∧ p ≠ pm ∧ p ≠ pr ∧ (∀ r ∈ rs, r.1 ≠ p) ∧ H1 p = some (.lst (l.map fun x => V.int (x : Nat))) ∧ 2 ≤ l.length ∧ l.length ≤ 4 ∧ l.Nodup ∧ (∀ x ∈ l, x < m) ∧ (br = true → i = 0 → ∀ x, x < m → x ∈ l), ?_, ?_⟩
      · refine ⟨_, rfl, _, rfl, ⟨_, _, rfl, .inl (SqL.of S1.hm), ?_⟩⟩
        rw [List.length_map, List.length_range]
        refine ⟨_, rfl, RgOk.of_le (by decide) (by omega) (by decide) (by omega), fun q nq => ?_⟩
        have er : rgV 0 (m : Int) = (List.range m).map fun x => V.int (x : Nat) := by
          unfold rgV
          rw [show ((m : Int) - 0).toNat = m by omega]
          refine List.map_congr_left fun x _ => ?_
          rw [Int.zero_add]
        rw [er]
        have S2 := S1.new (o := .lst ((List.range m).map fun x => V.int (x : Nat))) nq
        refine ⟨b, c, q, _, rfl, S2.bag, upd_same, S1.bag.nb nq, by rw [List.length_map, List.length_range]; omega, fun p ys H3 hp k3 b3 n3 h3 => ?_⟩
        have S3 := S2.step k3 b3
        obtain ⟨l, lp, rfl⟩ := perm_ints hp
        have lnd : l.Nodup := lp.nodup_iff.mpr List.nodup_range
        have llen : l.length = m := by rw [lp.length_eq, List.length_range]
        have lmem : ∀ x, x ∈ l ↔ x < m := fun x => lp.mem_iff.trans List.mem_range
        refine via (te := tIf _ _ _) (fun x H4 => ∃ t : Nat, x = .int t ∧ 2 ≤ t ∧ t ≤ 4 ∧ (br = true → i = 0 → t = 4) ∧ Kp b H3 H4 ∧ BagAt H4 b c) (fun Q hQ => ?_) ?_
        · have two : ∀ (H : Hp), BagAt H b c → Kp b H3 H → ¬ (br = true ∧ i = 0) → tOp (rI0 fun i j => V.int (i + j)) (tC (V.int 2)) (tCall sp__law_draw [] C8.E0 (tCons (tVar 0) (tCons (tC (V.int 3)) tNil))) [some (.ref b), some (.bl lg), some (.bl br), some (.int M'), some (.int g), some (.bl nw), some (.ref pj), some (.ref pm), some (.ref pr), some (.int (0 + (i : Nat))), o2, o3, o4, o5, o6, none] H Q := by
            intro H hb' kk ne
            refine ⟨_, rfl, b, c, 3, rfl, hb', by decide, by decide, fun r H4 r0 r1 k4 b4 => ?_⟩
            refine ⟨_, _, rfl, rfl, hQ _ _ ⟨(2 + r).toNat, ?_, by omega, by omega, fun q1 q2 => absurd ⟨q1, q2⟩ ne, kk.trans k4, b4⟩⟩
            rw [show (((2 + r).toNat : Nat) : Int) = 2 + r by omega]
          refine ⟨_, rfl, _, rfl, iteB (fun e => ?_) (fun e => ?_)⟩
          · refine ⟨_, rfl, rfl, _, rfl, iteI (fun e2 => ?_) (fun e2 => ?_)⟩
            · exact hQ _ _ ⟨4, rfl, by omega, by omega, fun _ _ => rfl, Kp.refl _ _, S3.bag⟩
            · exact two _ S3.bag (Kp.refl _ _) (fun q => e2 (by omega))
          · exact two _ S3.bag (Kp.refl _ _) (fun q => by rw [e] at q; cases q.1)
        rintro x H4 ⟨t, rfl, t2, t4, tb, k4, b4⟩
        have S4 := S3.step k4 b4
        have npb : p ≠ b := S2.bag.nb n3
        refine ⟨_, rfl, p, _, rfl, SqL.of (k4 _ _ h3 npb), fun p5 n5 => ?_⟩
        rw [cut_to, ← List.map_take]
        refine ⟨p5, l.take t, rfl, S4.new n5, b4.nb n5, b4.nc n5, S4.kp.free n5 (b4.nb n5), (ne_of_none S4.hj n5).symm, (ne_of_none S4.hm n5).symm, (ne_of_none S4.hr n5).symm, fun r hr => ne_of_none (S4.ra r hr).2 n5, upd_same, ?_, ?_, ?_, ?_, ?_⟩
        · rw [List.length_take]; omega
        · rw [List.length_take]; omega
        · exact lnd.sublist (List.take_sublist _ _)
        · exact fun x hx => (lmem x).mp (List.mem_of_mem_take hx)
        · intro q1 q2 x hx
          rw [List.take_of_length_le (by rw [tb q1 q2, llen]; exact hm4 q1)]
          exact (lmem x).mpr hx
      clear S1
      rintro σ H1 ⟨p, l, rfl, S1, pb, pc, np, pj', pm', pr', rp, hp, l2, l4, lnd, lmem, lall⟩
      -- extra
      refine ⟨fun σ H1 => ∃ e : Int, σ = [some (.ref b), some (.bl lg), some (.bl br), some (.int M'), some (.int g), some (.bl nw), some (.ref pj), some (.ref pm), some (.ref pr), some (.int (0 + (i : Nat))), o2, o3, o4, some (.ref p), some (.int e), none] ∧ (br = true ∨ 22 < M' → e = 5) ∧ 0 ≤ e ∧ ShSt H H1 b c pj pm pr m js f rs ∧ H1 p = some (.lst (l.map fun x => V.int (x : Nat))), ?_, ?_⟩
      · refine ⟨_, rfl, _, rfl, iteB (fun e => ?_) (fun e => ?_)⟩
        · exact ⟨5, rfl, fun _ => rfl, by decide, S1, hp⟩
        · refine ⟨_, rfl, _, _, rfl, rfl, _, rfl, iteD (fun e2 => ?_) (fun e2 => ?_)⟩
          · exact ⟨5, rfl, fun _ => rfl, by decide, S1, hp⟩
          · refine ⟨_, rfl, b, c, 6, rfl, S1.bag, by decide, by decide, fun r H3 r0 r1 k3 b3 => ?_⟩
            refine ⟨r, rfl, fun q => ?_, r0, S1.step k3 b3, k3 _ _ hp pb⟩
            rcases q with q | q
            · rw [e] at q; cases q
            · omega
      clear S1 hp
      rintro σ H1 ⟨e, rfl, he, e0, S1, hp⟩
      -- the ring as it is kept
      refine ⟨fun σ H1 => ∃ (M2 : Nat) (p : Addr) (l' : List Nat), σ = [some (.ref b), some (.bl lg), some (.bl br), some (.int M2), some (.int g), some (.bl nw), some (.ref pj), some (.ref pm), some (.ref pr), some (.int (0 + (i : Nat))), o2, o3, o4, some (.ref p), some (.int e), none] ∧ ShSt H H1 b c pj pm pr m js f rs ∧ p ≠ b ∧ p ≠ pr ∧ H1 p = some (.lst (l'.map fun x => V.int (x : Nat))) ∧ 2 ≤ l'.length ∧ l'.length ≤ 4 ∧ l'.Nodup ∧ (∀ x ∈ l', x < M2) ∧ M' ≤ M2 ∧ M2 ≤ 24 ∧ (br = true → M2 = M' ∧ l' = l) ∧ (∀ x, M' ≤ x → x < M2 → x ∈ l'), ?_, ?_⟩
      · refine ⟨_, rfl, rfl, _, rfl, iteI (fun e1 => ?_) (fun e1 => ?_)⟩
        · have hM : M' ≤ 22 := by
            apply Decidable.byContradiction
            intro h
            have := he (.inr (by omega))
            omega
          have hbf : br = true → False := fun q => by have := he (.inl q); omega
          refine ⟨_, rfl, _, rfl, _, _, rfl, rfl, Nat.le_of_ble_eq_true rfl, fun p5 n5 => ?_⟩
          refine ⟨_, rfl, _, _, rfl, rfl, M' + 2, p5, [M', M' + 1], rfl, S1.new n5, S1.bag.nb n5, (ne_of_none S1.hr n5).symm, upd_same, by simp, by simp, by simp, ?_, by omega, by omega, fun q => (hbf q).elim, ?_⟩
          · intro x hx
            simp at hx
            omega
          · intro x h1 h2
            simp
            omega
        · refine ⟨_, rfl, _, _, rfl, rfl, _, rfl, iteD (fun e2 => ?_) (fun e2 => ?_)⟩
          · have hM : M' ≤ 22 := by
              apply Decidable.byContradiction
              intro h
              have := he (.inr (by omega))
              omega
            have hbf : br = true → False := fun q => by have := he (.inl q); omega
            obtain ⟨x0, r, rfl⟩ : ∃ x0 r, l = x0 :: r := by
              cases l with
              | nil => exact absurd l2 (by decide)
              | cons x0 r => exact ⟨x0, r, rfl⟩
            refine ⟨_, rfl, _, rfl, p, _, _, 0, rfl, rfl, hp, ixN_nat (j := 0) (by simp), ?_⟩
            have hset : (((x0 :: r).map fun x => V.int (x : Nat)).set 0 (.int (M' : Nat))) = (M' :: r).map fun x => V.int (x : Nat) := rfl
            rw [hset]
            refine ⟨_, rfl, _, _, rfl, rfl, M' + 1, p, M' :: r, rfl, ?_, pb, pr', upd_same, by simpa using l2, by simpa using l4, ?_, ?_, by omega, by omega, fun q => (hbf q).elim, ?_⟩
            · exact { S1 with kp := S1.kp.put np, bag := S1.bag.put pb pc, hj := (upd_ne pj'.symm).trans S1.hj, hm := (upd_ne pm'.symm).trans S1.hm, hr := (upd_ne pr'.symm).trans S1.hr,
                              ja := fun j hj => (upd_ne (ne_of_ob (S1.ja j hj) hp (by simp))).trans (S1.ja j hj), ra := fun r hr => ⟨(S1.ra r hr).1, (upd_ne (rp r hr)).trans (S1.ra r hr).2⟩ }
            · exact List.nodup_cons.mpr ⟨fun h => by have := lmem M' (List.mem_cons_of_mem _ h); omega, (List.nodup_cons.mp lnd).2⟩
            · intro x hx
              rcases List.mem_cons.mp hx with q | q
              · omega
              · have := lmem x (List.mem_cons_of_mem _ q); omega
            · intro x h1 h2
              rw [show x = M' by omega]
              exact List.mem_cons_self
          · exact ⟨M', p, l, rfl, S1, pb, pr', hp, l2, l4, lnd, fun x hx => by have := lmem x hx; omega, Nat.le_refl _, M1, fun _ => ⟨rfl, rfl⟩, fun x h1 h2 => by omega⟩
      clear S1 hp pb pc pj' pm' pr' rp np
      rintro σ H1 ⟨M3, p, l', rfl, S1, pb, pr', hp, l2', l4', lnd', lmem', h1, h2, hb', hnew⟩
      refine ⟨_, rfl, .inl ⟨rfl, _, SqL.of S1.hr⟩, _, rfl, pr, _, _, rfl, rfl, S1.hr, by rw [List.length_map, sl]; omega, ?_⟩
      refine ⟨M3, rs ++ [(p, l')], _, _, _, _, _, _, rfl, S1.ring hp pb pr', by omega, h2, fun q => by rw [(hb' q).1, M2 q], ?_, by rw [List.length_append, rl]; rfl, fun hq x hx => ?_⟩
      · intro r hr
        rcases List.mem_append.mp hr with q | q
        · obtain ⟨a1, a2, a3, a4⟩ := re r q
          exact ⟨a1, a2, a3, fun x hx => by have := a4 x hx; omega⟩
        · rw [List.mem_singleton.mp q]
          exact ⟨l2', l4', lnd', lmem'⟩
      · by_cases hx2 : M' ≤ x
        · exact .inr ⟨_, List.mem_append_right _ (List.mem_singleton.mpr rfl), hnew x hx2 hx⟩
        · by_cases hbi : br = true → 0 < i
          · rcases tc hbi x (by omega) with q | ⟨r, q1, q2⟩
            · exact .inl q
            · exact .inr ⟨r, List.mem_append_left _ q1, q2⟩
          · have hbt : br = true := by
              cases hbr2 : br with
              | true => rfl
              | false => exact absurd (fun q => by rw [hbr2] at q; cases q) hbi
            have hi0 : i = 0 := by
              apply Decidable.byContradiction
              intro h
              exact hbi fun _ => by omega
            refine .inr ⟨_, List.mem_append_right _ (List.mem_singleton.mpr rfl), ?_⟩
            rw [(hb' hbt).2]
            exact lall hbt hi0 x (by have := M2 hbt; omega)
    · rintro σ H3 ⟨M', rs, o1, o2, o3, o4, o5, o6, rfl, S1, M0, M1, M2, re, rl, tc⟩
      refine ⟨_, rfl, _, rfl, _, rfl, Nat.le_of_ble_eq_true rfl, fun t nt => ?_⟩
      have S2 := S1.new (o := .tup [.int (M' : Nat), .ref pj, .ref pr]) nt
      exact k t pj pr M' js rs _ ⟨by omega, M1, jl0, fun j hj => ⟨by have := (je0 j hj).1; omega, by have := (je0 j hj).2.1; omega, (je0 j hj).2.2⟩, by omega, re, tc nb⟩ S2.kp S2.bag upd_same S2.hj S2.ja S2.bj S2.hr S2.ra S2.br
end K02
set_option maxRecDepth 100000
set_option maxHeartbeats 4000000
namespace K02
open PySem PySem.Spec PyProof.Rows L2 He BL SX
local macro_rules | `(tactic| walk_at "ar") => `(tactic| first
  | exact Or.inl ⟨by omega, by omega⟩
  | exact Or.inr ⟨by omega, by omega⟩
  | exact ⟨by omega, by omega⟩
  | exact ⟨by omega, by omega, by omega⟩
  | exact ⟨by decide, by decide, by decide⟩
  | exact Nat.le_of_ble_eq_true rfl
  | exact rfl
  | omega
  | decide
  | fail)
local macro_rules | `(tactic| walk_at "ne") => `(tactic| first
  | assumption
  | (apply Ne.symm; assumption)
  | (refine ne_of_none ?_ (by assumption); walk_at "hp")
  | (apply Ne.symm; refine ne_of_none ?_ (by assumption); walk_at "hp")
  | fail)
local macro_rules | `(tactic| walk_at "hp") => `(tactic| first
  | assumption
  | exact upd_same
  | (refine (upd_ne ?_).trans ?_; · walk_at "ne"; · walk_at "hp")
  | (refine BL.Kp.at (by assumption) ?_ ?_; · walk_at "hp"; · walk_at "ne")
  | (refine BL.Same.at (by assumption) ?_; walk_at "hp")
  | fail)
local macro_rules | `(tactic| walk_at "rd1") => `(tactic| first
  | refine ⟨_, rfl, ?_⟩
  | refine ⟨_, _, rfl, rfl, ?_⟩
  | refine Or.inl ⟨_, rfl, ?_⟩
  | (refine ⟨_, _, _, _, rfl, rfl, SqL.of (by walk_at "hp"), rfl, ?_⟩)
  | (refine ⟨_, _, _, _, rfl, rfl, (by walk_at "hp"), rfl, ?_⟩)
  | (refine And.intro (by walk_at "ar") ?_)
  | fail)
local macro_rules | `(tactic| walk_at "rd") => `(tactic| (walk_at "rd1"; repeat' walk_at "rd1"))

variable {P : Program} {w : World} {K : PySem.W.Frag} {mg : Str → Option Value} {base : Heap}
theorem sc__law_world : FnScope ["bag", "large", "many", "joins", "rings", "seat", "rows", "inner", "ring", "cross", "names", "twin", "roads", "k", "a", "b", "two", "wide", "ahead", "back", "x"] ["bag", "large"] (defScope s__law_world) := ⟨rfl, rfl, rfl, by decide +kernel, rfl, by decide +kernel, by decide +kernel⟩
abbrev sp__law_world : Sp := fun vs H Q _ => ∃ (b c : Addr) (lg : Bool), vs = [.ref b, .bl lg] ∧ BagAt H b c ∧
  ∀ (w pc pr : Addr) (cs : List (Addr × Str × V)) (rs : List (Addr × Rd)) (H' : Hp), WorldOk (cs.map (·.2)) (rs.map (·.2)) → Kp b H H' → BagAt H' b c → H' w = some (.lst [.ref pc, .ref pr]) → w ≠ b →
    H' pc = some (.lst (cs.map fun x => .ref x.1)) → pc ≠ b → H' pr = some (.lst (rs.map fun x => .ref x.1)) → pr ≠ b → CrossAt H' cs → RoadsAt H' rs → Q (.ref w) H'
theorem cal__law_world (M : Md K mg) : C8.Cal P w K mg base 5 "_law_world" sp__law_world [] := by
  refine cal_of (F__law_world M) (g__law_world M) sc__law_world (fun _ _ _ _ _ _ us hl => match us, hl with | [_, _], _ => rfl) (fun vs H Q E h => ?_) (fun cdv A outer s H vs Q E hr h => ?_)
  · obtain ⟨b, c, lg, rfl, _⟩ := h
    rfl
  · obtain ⟨b, c, lg, rfl, hb, k⟩ := h
    refine ⟨_, (pss_cons (ps_asg (C8.pe_c (cal__law_shape M) hr (by decide) rfl (pa_cons (pv 0) (pa_cons (pv 1) pa_nil))) (pg_tup rfl (pgs_cons (pg_name (i := 2) sc__law_world.nd rfl (Or.inl rfl)) (pgs_cons (pg_name (i := 3) sc__law_world.nd rfl (Or.inl rfl)) (pgs_cons (pg_name (i := 4) sc__law_world.nd rfl (Or.inl rfl)) pgs_nil)))))
  (pss_cons (ps_set (i := 5) sc__law_world.nd rfl (Or.inr rfl) (C8.pe_c (cal__law_mixed M) hr (by decide) rfl (pa_cons (pv 0) (pa_cons (pe_listRg rfl rfl (b_list M) (prg_1 rfl (b_range M) (pv 2))) pa_nil))))
  (pss_cons (ps_asg (pe_tup (pa_cons (pe_lc (own := [("a", 14), ("b", 15)]) (g := (gTup K 2 (gCons (gName 14) (gCons (gName 15) gNil)))) (tt := tYes) (te := (tTup (tCons (tVar 14) (tCons (tVar 15) (tCons (tC (.int 1)) tNil))))) rfl sc__law_world.nd (pi_list (pv 3)) (blkOk_by (N := ["bag", "large", "many", "joins", "rings", "seat", "rows", "inner", "ring", "cross", "names", "twin", "roads", "k", "a", "b", "two", "wide", "ahead", "back", "x"]) (by kernel_rfl)) (fun _ _ _ _ _ => (pg_tup rfl (pgs_cons (pg_name (i := 14) sc__law_world.nd rfl (Or.inl rfl)) (pgs_cons (pg_name (i := 15) sc__law_world.nd rfl (Or.inl rfl)) pgs_nil)))) (fun _ _ _ _ _ => pts_nil) (fun _ _ _ _ _ => (pe_tup (pa_cons (pv 14) (pa_cons (pv 15) (pa_cons pe_int pa_nil)))))) (pa_cons (pe_lst pa_nil) pa_nil))) (pg_tup rfl (pgs_cons (pg_name (i := 6) sc__law_world.nd rfl (Or.inl rfl)) (pgs_cons (pg_name (i := 7) sc__law_world.nd rfl (Or.inr rfl)) pgs_nil))))
  (C8.pss_cut (ps_for PassesOwn.never rfl (pi_list (pv 4)) (pg_name (i := 8) sc__law_world.nd rfl (Or.inr rfl)) (pss_cons (ps_expr (pe_bm PySem.F.plainAttrs_list PySem.F.slot_list_extend PySem.F.type_list_extend mt_extend (pv 6) (pa_cons (pe_lc (own := [("k", 13)]) (g := (gName 13)) (tt := tYes) (te := (tTup (tCons (tOp (rIxL K) (tVar 8) (tOp (rI0 fun i j => .int (i - j)) (tVar 13) (tC (.int 1)))) (tCons (tOp (rIxL K) (tVar 8) (tVar 13)) (tCons (tC (.int 0)) tNil))))) rfl sc__law_world.nd (pi_range1 rfl (b_range M) (pa_cons (pe_callB call_len_seq (by rfl) (b_len M) PySem.boot_len (pa_cons (pv 8) pa_nil)) pa_nil)) (blkOk_by (N := ["bag", "large", "many", "joins", "rings", "seat", "rows", "inner", "ring", "cross", "names", "twin", "roads", "k", "a", "b", "two", "wide", "ahead", "back", "x"]) (by kernel_rfl)) (fun _ _ _ _ _ => (pg_name (i := 13) sc__law_world.nd rfl (Or.inl rfl))) (fun _ _ _ _ _ => pts_nil) (fun _ _ _ _ _ => (pe_tup (pa_cons (pe_ix ix_list (pv 8) (pe_op op_sub (pv 13) pe_int) (fun _ _ => rfl)) (pa_cons (pe_ix ix_list (pv 8) (pv 13) (fun _ _ => rfl)) (pa_cons pe_int pa_nil)))))) pa_nil)))
  (pss_one (ps_expr (pe_bm PySem.F.plainAttrs_list PySem.F.slot_list_extend PySem.F.type_list_extend mt_extend (pv 7) (pa_cons (pe_lc (own := [("x", 20)]) (g := (gName 20)) (tt := tYes) (te := (tOp (rIxL K) (tVar 5) (tVar 20))) rfl sc__law_world.nd (pi_list (pv 8)) (blkOk_by (N := ["bag", "large", "many", "joins", "rings", "seat", "rows", "inner", "ring", "cross", "names", "twin", "roads", "k", "a", "b", "two", "wide", "ahead", "back", "x"]) (by kernel_rfl)) (fun _ _ _ _ _ => (pg_name (i := 20) sc__law_world.nd rfl (Or.inl rfl))) (fun _ _ _ _ _ => pts_nil) (fun _ _ _ _ _ => (pe_ix ix_list (pv 5) (pv 20) (fun _ _ => rfl)))) pa_nil))))))
  (pss_cons (ps_set (i := 6) sc__law_world.nd rfl (Or.inl rfl) (C8.pe_c (cal__law_mixed M) hr (by decide) rfl (pa_cons (pv 0) (pa_cons (pv 6) pa_nil))))
  (pss_cons (ps_set (i := 9) sc__law_world.nd rfl (Or.inr rfl) (C8.pe_c (cal__law_fresh M) hr (by decide) rfl (pa_cons (pv 0) (pa_cons (pv 2) (pa_cons (pe_lst pa_nil) pa_nil)))))
  (C8.pss_cut (ps_set (i := 9) sc__law_world.nd rfl (Or.inr rfl) (pe_lc (own := [("k", 13)]) (g := (gName 13)) (tt := tYes) (te := (tTup (tCons (tOp (rIxL K) (tVar 9) (tVar 13)) (tCons (tIf (tTest (tOp (rIn K false) (tVar 13) (tVar 7))) (tC (.str "place")) (tCall (sp__law_kind) [] E0 (tCons (tVar 0) tNil))) tNil)))) rfl sc__law_world.nd (pi_range1 rfl (b_range M) (pa_cons (pv 2) pa_nil)) (blkOk_by (N := ["bag", "large", "many", "joins", "rings", "seat", "rows", "inner", "ring", "cross", "names", "twin", "roads", "k", "a", "b", "two", "wide", "ahead", "back", "x"]) (by kernel_rfl)) (fun _ _ _ _ _ => (pg_name (i := 13) sc__law_world.nd rfl (Or.inl rfl))) (fun _ _ _ _ _ => pts_nil) (fun _ _ _ _ _ => (pe_tup (pa_cons (pe_ix ix_list (pv 9) (pv 13) (fun _ _ => rfl)) (pa_cons (pe_ifExp (pt_cmpR op_in_seq (pv 13) (pv 7) (by rfl)) pe_str (C8.pe_c (cal__law_kind M) hr (by decide) rfl (pa_cons (pv 0) pa_nil))) pa_nil))))))
  (pss_cons (ps_par (i := 10) (j := 11) rfl sc__law_world.nd rfl rfl (by decide) rfl rfl (pa_cons (C8.pe_c (cal__law_fresh M) hr (by decide) rfl (pa_cons (pv 0) (pa_cons (pe_callB call_len_seq (by rfl) (b_len M) PySem.boot_len (pa_cons (pv 6) pa_nil)) (pa_cons (pe_lst pa_nil) pa_nil)))) (pa_cons (pe_ix ix_tup (C8.pe_c (cal__law_of M) hr (by decide) rfl (pa_cons (pv 0) (pa_cons (pv 9) pa_nil))) pe_int (fun _ _ => rfl)) pa_nil)) (by rfl))
  (C8.pss_cut (ps_if (PW.pt (pw_and (pt_cmpR op_eq (C8.pe_c (cal__law_draw M) hr (by decide) rfl (pa_cons (pv 0) (pa_cons pe_int pa_nil))) pe_int (nomark _)) (pw_and1 (pt_cmpR op_notIn_seq (pv 11) (pv 10) (by rfl))))) (pss_one (ps_asg (pv 11) (pg_sub (pv 10) (C8.pe_c (cal__law_draw M) hr (by decide) rfl (pa_cons (pv 0) (pa_cons (pe_callB call_len_seq (by rfl) (b_len M) PySem.boot_len (pa_cons (pv 10) pa_nil)) pa_nil))) set_list))) pss_nil)
  (pss_cons (ps_set (i := 12) sc__law_world.nd rfl (Or.inl rfl) (pe_lst pa_nil))
  (pss_cons (ps_for PassesOwn.never rfl (pi_range1 rfl (b_range M) (pa_cons (pe_callB call_len_seq (by rfl) (b_len M) PySem.boot_len (pa_cons (pv 6) pa_nil)) pa_nil)) (pg_name (i := 13) sc__law_world.nd rfl (Or.inl rfl)) (pss_cons (ps_asg (pe_ix ix_list (pv 6) (pv 13) (fun _ _ => rfl)) (pg_tup rfl (pgs_cons (pg_name (i := 14) sc__law_world.nd rfl (Or.inl rfl)) (pgs_cons (pg_name (i := 15) sc__law_world.nd rfl (Or.inl rfl)) (pgs_cons (pg_name (i := 16) sc__law_world.nd rfl (Or.inl rfl)) pgs_nil)))))
  (pss_cons (ps_set (i := 17) sc__law_world.nd rfl (Or.inl rfl) (C8.pe_c (cal__law_of M) hr (by decide) rfl (pa_cons (pv 0) (pa_cons (pe_lst (pa_cons pe_int (pa_cons pe_int (pa_cons pe_int (pa_cons pe_int pa_nil))))) pa_nil))))
  (pss_cons (ps_par (i := 18) (j := 19) rfl sc__law_world.nd rfl rfl (by decide) rfl rfl (pa_cons (pe_op op_add pe_int (C8.pe_c (cal__law_draw M) hr (by decide) rfl (pa_cons (pv 0) (pa_cons (pv 17) pa_nil)))) (pa_cons (pe_op op_add pe_int (C8.pe_c (cal__law_draw M) hr (by decide) rfl (pa_cons (pv 0) (pa_cons (pv 17) pa_nil)))) pa_nil)) (by rfl))
  (pss_one (ps_expr (pe_bm PySem.F.plainAttrs_list PySem.F.slot_list_append PySem.F.type_list_append mt_append (pv 12) (pa_cons (pe_tup (pa_cons (pe_ix ix_list (pv 10) (pv 13) (fun _ _ => rfl)) (pa_cons (pe_ix ix_list (pv 5) (pv 14) (fun _ _ => rfl)) (pa_cons (pe_ix ix_list (pv 5) (pv 15) (fun _ _ => rfl)) (pa_cons (pv 18) (pa_cons (pe_ifExp (pt_cmpR op_eq (pv 16) pe_int (nomark _)) (pv 19) pe_int) (pa_cons (C8.pe_c (cal__law_draw M) hr (by decide) rfl (pa_cons (pv 0) (pa_cons (C8.pe_c (cal__law_of M) hr (by decide) rfl (pa_cons (pv 0) (pa_cons (pe_lst (pa_cons pe_int (pa_cons pe_int (pa_cons pe_int pa_nil)))) pa_nil))) pa_nil))) (pa_cons (pe_op op_add pe_int (C8.pe_c (cal__law_draw M) hr (by decide) rfl (pa_cons (pv 0) (pa_cons pe_int pa_nil)))) (pa_cons (pv 16) pa_nil))))))))) pa_nil))))))))
  (pss_one (ps_ret (pe_lst (pa_cons (pv 9) (pa_cons (pv 12) pa_nil)))))))))))))))), ?_⟩
    have sl0 : sizeLine = 16777216 := rfl
    -- many, joins, rings
    refine ⟨_, rfl, _, rfl, b, c, lg, rfl, hb, fun t pj pr0 m js rs H1 so k1 b1 ht hpj ja jb hpr ra rb => ?_⟩
    refine ⟨t, _, rfl, .of ht, rfl, _, _, rfl, _, _, rfl, _, _, rfl, rfl, ?_⟩
    have m2 := so.lo
    have m24 := so.hi
    -- seat
    refine ⟨_, rfl, _, rfl, _, rfl, RgOk.of_le (by decide) (by omega) (by decide) (by omega), fun q nq => ?_⟩
    rw [rgV_nat]
    refine ⟨b, c, q, _, rfl, b1.new nq, upd_same, b1.nb nq, by rw [List.length_map, List.length_range]; omega, fun ps ys H2 hp k2 b2 n2 h2 => ?_⟩
    obtain ⟨sl, lp, rfl⟩ := perm_ints hp
    have so2 := seat_ok lp
    have k2' := (Kp.new nq).trans k2
    have psb : ps ≠ b := (b1.new nq).nb n2
    have hpj2 := k2' _ _ hpj jb
    have hpr2 := k2' _ _ hpr rb
    have ja2 : JoinsAt H2 js := fun j hj => k2' _ _ (ja j hj) (b1.tup (ja j hj))
    have ra2 : RingsAt b H2 rs := fun r hr => ⟨(ra r hr).1, k2' _ _ (ra r hr).2 (ra r hr).1⟩
    have k12 := k1.trans k2'
    clear k1 k2 k2' ht hpj hpr ja ra b1 hp n2 nq
    -- rows, inner
    refine ⟨_, rfl, pj, rfl, ⟨_, SqL.of hpj2⟩, fun pw npw => ?_⟩
    refine lc_list (K := K) (a := pj) (xs := js.map fun j => V.ref j.1) (fun i H3 => ∃ rw : List (Addr × Nat × Nat × Bool), H3 pw = some (.lst (rw.map fun r => .ref r.1)) ∧ RowsAt H3 rw ∧ rw.map (·.2) = (jrows js).take i ∧ L2.Same H2 H3) ⟨[], upd_same, nofun, rfl, Same.new npw⟩ ?_ ?_ ?_
    · rintro i H3 _ ⟨rw, h3, _, _, s3⟩
      exact SqL.of (s3 _ _ hpj2)
    · rintro i x H3 hx ⟨rw, h3, r3, e3, s3⟩
      obtain ⟨j, hj, rfl⟩ := at_map hx
      have hj3 := s3 _ _ (ja2 j (List.mem_of_getElem? hj))
      refine ⟨j.1, _, rfl, .of hj3, rfl, _, _, rfl, _, _, rfl, rfl, rfl, ?_⟩
      refine ⟨_, rfl, _, rfl, Nat.le_of_ble_eq_true rfl, fun p np => ?_⟩
      have npw3 := ne_of_none h3 np
      have hl : rw.length ≤ 36 := by
        have h1 := congrArg List.length e3
        rw [List.length_map, List.length_take, jrows_len] at h1
        have h2 := so.jn
        omega
      refine ⟨_, (upd_ne npw3).trans h3, by rw [List.length_map, sl0]; omega, rw ++ [(p, j.2.1, j.2.2, true)], by rw [upd_same, List.map_append]; rfl, ?_, ?_, ?_⟩
      · refine ((r3.kept (KpT.new np)).kept (KpT.put ((upd_ne npw3).trans h3))).snoc ((upd_ne npw3.symm).trans ?_)
        exact upd_same
      · rw [List.map_append, e3, take_snoc (x := (j.2.1, j.2.2, true)) (by unfold jrows; rw [List.getElem?_map, hj]; rfl)]
        rfl
      · exact Same.put (s3.trans (Same.new np)) npw
    rintro H3 ⟨rw0, h3, r3, e3, s3⟩
    rw [List.length_map, show js.length = (jrows js).length from (jrows_len js).symm, List.take_length] at e3
    refine ⟨Nat.zero_le _, fun pn npn => ?_⟩
    refine ⟨Nat.le_of_ble_eq_true rfl, fun t2 nt2 => ?_⟩
    refine ⟨t2, _, rfl, .of upd_same, rfl, _, _, rfl, _, _, rfl, rfl, ?_⟩
    have b3 := b2.kept s3
    have wn : pw ≠ pn := ne_of_none h3 npn
    have npn2 : H2 pn = none := Same.free s3 npn
    have rl0 : rw0.length ≤ 36 := by
      have h1 := congrArg List.length e3
      rw [List.length_map, jrows_len] at h1
      have h2 := so.jn
      omega
    -- the rings' rows
    refine ⟨fun σ H1 => ∃ (rw : List (Addr × Nat × Nat × Bool)) (o : Option V), σ = [some (.ref b), some (.bl lg), some (.int m), some (.ref pj), some (.ref pr0), some (.ref ps), some (.ref pw), some (.ref pn), o, none, none, none, none, none, none, none, none, none, none, none, none] ∧ Kp b H2 H1 ∧ BagAt H1 b c ∧ H1 pw = some (.lst (rw.map fun r => .ref r.1)) ∧ H1 pn = some (.lst (((rs.flatMap (·.2)).map fun x => sl.getD x 0).map fun x => V.int (x : Nat))) ∧ RowsAt H1 rw ∧ rw.map (·.2) = jrows js ++ rrows rs, ?_, ?_⟩
    · refine ⟨_, rfl, pr0, rfl, ⟨rs.map fun r => V.ref r.1, SqL.of ?_⟩, ?_⟩
      · exact (upd_ne (ne_of_none ((upd_ne (o := .lst []) (ne_of_none (s3 _ _ hpr2) npn)).trans (s3 _ _ hpr2)) nt2)).trans ((upd_ne (ne_of_none (s3 _ _ hpr2) npn)).trans (s3 _ _ hpr2))
      refine for_list (K := K) (a := pr0) (xs := rs.map fun r => V.ref r.1) (fun i σ H1 => ∃ (rw : List (Addr × Nat × Nat × Bool)) (o : Option V), σ = [some (.ref b), some (.bl lg), some (.int m), some (.ref pj), some (.ref pr0), some (.ref ps), some (.ref pw), some (.ref pn), o, none, none, none, none, none, none, none, none, none, none, none, none] ∧ Kp b H2 H1 ∧ BagAt H1 b c ∧ H1 pw = some (.lst (rw.map fun r => .ref r.1)) ∧ H1 pn = some (.lst ((((rs.take i).flatMap (·.2)).map fun x => sl.getD x 0).map fun x => V.int (x : Nat))) ∧ RowsAt H1 rw ∧ rw.map (·.2) = jrows js ++ rrows (rs.take i) ∧ rw.length ≤ 36 + 4 * i ∧ ((rs.take i).flatMap (·.2)).length ≤ 4 * i) ?_ ?_ ?_ ?_
      · refine ⟨rw0, none, rfl, ((Kp.of s3).trans (Kp.new npn)).trans (Kp.new nt2), (b3.new npn).new nt2, ?_, ?_, (r3.kept (KpT.new npn)).kept (KpT.new nt2), ?_, by omega, Nat.le_refl _⟩
        · exact (upd_ne (ne_of_none ((upd_ne (o := .lst []) wn).trans h3) nt2)).trans ((upd_ne wn).trans h3)
        · exact (upd_ne (ne_of_none upd_same nt2)).trans upd_same
        · rw [e3]; exact (List.append_nil _).symm
      · rintro i σ H1 _ ⟨rw, o, rfl, k1, b1, _⟩
        exact SqL.of (k1 _ _ hpr2 rb)
      · clear h3 r3 e3 rl0 nt2
        rintro i x σ H1 hx ⟨rw, o, rfl, k1, b1, hw, hn, rr, er, rl, nl⟩
        obtain ⟨r, hr, rfl⟩ := at_map hx
        have hrm := List.mem_of_getElem? hr
        have hi : i < rs.length := (List.getElem?_eq_some_iff.mp hr).1
        have rn := so.rn
        obtain ⟨r2, r4, rnd, rlt⟩ := so.re r hrm
        have hra := k1 _ _ (ra2 r hrm).2 (ra2 r hrm).1
        have hps := k1 _ _ h2 psb
        refine ⟨_, rfl, .inl ⟨rfl, _, SqL.of hw⟩, _, rfl, ⟨_, _, rfl, .inl (SqL.of hra), ?_⟩⟩
        rw [List.length_map]
        refine ⟨_, rfl, by omega, by omega, fun D nD => ?_⟩
        refine lc_range (lo := 0) (n := r.2.length) (fun k H3 => ∃ ts : List (Addr × Nat × Nat × Bool), H3 D = some (.lst (ts.map fun r => .ref r.1)) ∧ RowsAt H3 ts ∧ ts.map (·.2) = (rpairs r.2).take k ∧ ts.length = k ∧ L2.Same H1 H3) ⟨[], upd_same, nofun, rfl, rfl, Same.new nD⟩ ?_ ?_
        · rintro k H3 hk ⟨ts, h3, r3, e3, l3, s3⟩
          refine ⟨rfl, _, rfl, _, rfl, _, _, rfl, rfl, _, _, _, _, rfl, rfl, SqL.of (s3 _ _ hra), ring_prev hk, ?_⟩
          refine ⟨_, rfl, _, rfl, _, _, _, _, rfl, rfl, SqL.of (s3 _ _ hra), at_of (j := k) (by omega) (nat_at hk), ?_⟩
          refine ⟨Nat.le_of_ble_eq_true rfl, fun p np => ?_⟩
          have nD3 := ne_of_none h3 np
          refine ⟨_, (upd_ne nD3).trans h3, by rw [List.length_map, sl0]; omega, ts ++ [(p, r.2.getD ((k + r.2.length - 1) % r.2.length) 0, r.2.getD k 0, false)], by rw [upd_same, List.map_append]; rfl, ?_, ?_, ?_, Same.put (s3.trans (Same.new np)) nD⟩
          · refine ((r3.kept (KpT.new np)).kept (KpT.put ((upd_ne nD3).trans h3))).snoc ((upd_ne nD3.symm).trans ?_)
            exact upd_same
          · rw [List.map_append, e3, take_snoc (x := (r.2.getD ((k + r.2.length - 1) % r.2.length) 0, r.2.getD k 0, false)) (by unfold rpairs; rw [List.getElem?_map, List.getElem?_range hk]; rfl)]
            rfl
          · rw [List.length_append, l3]; rfl
        rintro H3 ⟨ts, h3, r3, e3, l3, s3⟩
        have rpl : (rpairs r.2).length = r.2.length := by unfold rpairs; rw [List.length_map, List.length_range]
        rw [← rpl, List.take_length] at e3
        have hw3 := s3 _ _ hw
        have hn3 := s3 _ _ hn
        have wb : pw ≠ b := b2.nb npw
        have wc : pw ≠ c := b2.nc npw
        have nb : pn ≠ b := b2.nb npn2
        have nc : pn ≠ c := b2.nc npn2
        refine ⟨pw, D, _, _, rfl, rfl, hw3, h3, by rw [List.length_map, List.length_map, sl0]; omega, ?_⟩
        have e4 : (rw.map fun r => V.ref r.1) ++ (ts.map fun r => V.ref r.1) = (rw ++ ts).map fun r => V.ref r.1 := List.map_append.symm
        rw [e4]
        generalize hH4 : L2.upd H3 pw (.lst ((rw ++ ts).map fun r => V.ref r.1)) = H4
        have hw4 : H4 pw = some (.lst ((rw ++ ts).map fun r => V.ref r.1)) := by rw [← hH4]; exact upd_same
        have hn4 : H4 pn = some (.lst ((((rs.take i).flatMap (·.2)).map fun x => sl.getD x 0).map fun x => V.int (x : Nat))) := by rw [← hH4]; exact (upd_ne wn.symm).trans hn3
        have r4' : RowsAt H4 (rw ++ ts) := by rw [← hH4]; exact ((rr.kept (.same s3)).app r3).kept (KpT.put hw3)
        have k4 : Kp b H2 H4 := by rw [← hH4]; exact (k1.trans (Kp.of s3)).put npw
        have b4 : BagAt H4 b c := by rw [← hH4]; exact (b1.kept s3).put wb wc
        clear hH4 h3 r3 hw hw3 hn hn3 b1 s3 rr
        have hra := k4 _ _ (ra2 r hrm).2 (ra2 r hrm).1
        have hps := k4 _ _ h2 psb
        -- inner
        refine ⟨_, rfl, .inl ⟨rfl, _, SqL.of hn4⟩, _, rfl, r.1, rfl, ⟨_, SqL.of hra⟩, fun E nE => ?_⟩
        refine lc_list (K := K) (a := r.1) (xs := r.2.map fun x => V.int (x : Nat)) (fun k H5 => H5 = L2.upd H4 E (.lst (((r.2.take k).map fun x => sl.getD x 0).map fun x => V.int (x : Nat)))) rfl ?_ ?_ ?_
        · rintro k H5 _ rfl
          exact SqL.of ((upd_ne (ne_of_none hra nE)).trans hra)
        · rintro k x H5 hx rfl
          obtain ⟨y, hy, rfl⟩ := at_map hx
          have hym := rlt y (List.mem_of_getElem? hy)
          refine ⟨rfl, _, rfl, _, rfl, ps, _, _, _, rfl, rfl, SqL.of ((upd_ne (ne_of_none hps nE)).trans hps), at_of (j := y) rfl (nat_at (by rw [so2.ln]; exact hym)), ?_⟩
          refine ⟨_, upd_same, ?_, ?_⟩
          · rw [List.length_map, List.length_map, List.length_take, sl0]; omega
          · rw [upd_upd, take_snoc hy, List.map_append, List.map_append]
            rfl
        rintro H5 rfl
        rw [List.length_map, List.take_length]
        have nE4 : pn ≠ E := ne_of_none hn4 nE
        have hn5 := (upd_ne (o := .lst ((r.2.map fun x => sl.getD x 0).map fun x => V.int (x : Nat))) nE4).trans hn4
        refine ⟨pn, E, _, _, rfl, rfl, hn5, upd_same, by rw [List.length_map, List.length_map, List.length_map, List.length_map, sl0]; omega, ?_⟩
        refine ⟨rw ++ ts, _, rfl, (k4.trans (Kp.new nE)).put npn2, (b4.new nE).put nb nc, ?_, ?_, (r4'.kept (KpT.new nE)).kept (KpT.put hn5), ?_, ?_, ?_⟩
        · exact (upd_ne wn).trans ((upd_ne (ne_of_none hw4 nE)).trans hw4)
        · rw [upd_same, take_snoc hr, List.flatMap_append, List.map_append, List.map_append]
          simp
        · rw [List.map_append, er, e3, take_snoc hr]
          unfold rrows
          rw [List.flatMap_append]
          simp
        · rw [List.length_append]; omega
        · rw [take_snoc hr, List.flatMap_append, List.length_append]
          have e : ([r].flatMap (·.2)).length = r.2.length := by simp
          omega
      · rintro σ H1 ⟨rw, o, rfl, k1, b1, hw, hn, rr, er, _, _⟩
        rw [List.length_map, List.take_length] at hn er
        exact ⟨rw, o, rfl, k1, b1, hw, hn, rr, er⟩
    clear h3 r3 e3 rl0 nt2 s3 b3
    rintro σ H1 ⟨rw, o, rfl, k1, b1, hw, hn, rr, er⟩
    have wb : pw ≠ b := b2.nb npw
    have nb : pn ≠ b := b2.nb npn2
    have ro := rows_ok so
    have rll : rw.length ≤ 44 := by
      have h1 := congrArg List.length er
      have h2 := (rrows_ok so.re).1
      have h3 := so.rn
      have h4 := so.jn
      rw [List.length_map, List.length_append, jrows_len] at h1
      omega
    rw [← er] at ro
    have rpos : 0 < rw.length := by
      obtain ⟨d, hd, _⟩ := ro.tch 0 (by omega)
      have := List.length_pos_of_mem hd
      rwa [List.length_map] at this
    -- rows mixed
    refine ⟨_, rfl, _, rfl, b, c, pw, _, rfl, b1, hw, wb, by rw [List.length_map]; omega, fun px ys H3 hp k3 b3 n3 h3 => ?_⟩
    obtain ⟨rx, rp, rfl⟩ := perm_lift hp rfl
    have rr3 : RowsAt H3 rx := fun r hr => (rr.kept (.kp k3 b1)) r (rp.mem_iff.mp hr)
    have ro3 := ro.perm (rp.map (·.2))
    have rxl : rx.length = rw.length := rp.length_eq
    have hn3 := k3 _ _ hn nb
    have hps3 := k3 _ _ (k1 _ _ h2 psb) psb
    have pxb : px ≠ b := b1.nb n3
    have k03 := (k12.trans k1).trans k3
    clear hp k3 hw hn k1 b1 rr ro n3 h2
    generalize hinn : ((rs.flatMap (·.2)).map fun x => sl.getD x 0) = inn at hn3
    -- the crossings' names
    refine ⟨_, rfl, _, rfl, Nat.zero_le _, fun p0 n0 => ?_⟩
    refine ⟨b, c, p0, m, [], rfl, b3.new n0, upd_same, by omega, by simp; omega, fun pc0 cn H4 cl cok cnd _ k4 b4 nc4 hc4 => ?_⟩
    have k4' := (Kp.new (o := .lst []) n0).trans k4
    have rr4 := rr3.kept (.kp k4' b3)
    have hn4 := k4' _ _ hn3 nb
    have hps4 := k4' _ _ hps3 psb
    have hpx4 := k4' _ _ h3 pxb
    have k04 := k03.trans k4'
    have pcb : pc0 ≠ b := (b3.new n0).nb nc4
    have cl : cn.length = m := by rw [cl]; rfl
    clear k03 k4 k4' hps3 hn3 h3 rr3 n0 nc4 b3
    -- cross
    refine ⟨fun σ H1 => ∃ (pc : Addr) (cs : List (Addr × Str × V)), σ = [some (.ref b), some (.bl lg), some (.int m), some (.ref pj), some (.ref pr0), some (.ref ps), some (.ref px), some (.ref pn), o, some (.ref pc), none, none, none, none, none, none, none, none, none, none, none] ∧ Kp b H4 H1 ∧ BagAt H1 b c ∧ pc ≠ b ∧ H1 pc = some (.lst (cs.map fun x => .ref x.1)) ∧ CrossAt H1 cs ∧ cs.map (·.2.1) = cn ∧ (∀ x ∈ cs, KindV x.2.2) ∧ (∀ (j : Nat) (x : Addr × Str × V), cs[j]? = some x → j ∈ inn → x.2.2 = .str "place"), ?_, ?_⟩
    · refine ⟨_, rfl, _, rfl, by omega, by omega, fun D nD => ?_⟩
      have Db := b4.nb nD
      have Dc := b4.nc nD
      refine lc_range (lo := 0) (n := m) (fun k H3 => ∃ cs : List (Addr × Str × V), H3 D = some (.lst (cs.map fun x => .ref x.1)) ∧ CrossAt H3 cs ∧ cs.map (·.2.1) = cn.take k ∧ cs.length = k ∧ (∀ x ∈ cs, KindV x.2.2) ∧ (∀ (j : Nat) (x : Addr × Str × V), cs[j]? = some x → j ∈ inn → x.2.2 = .str "place") ∧ Kp b H4 H3 ∧ BagAt H3 b c) ⟨[], upd_same, nofun, rfl, rfl, nofun, nofun, Kp.new nD, b4.new nD⟩ ?_ ?_
      · rintro k H3 hk ⟨cs, h3, c3, e3, l3, kd3, pl3, k3, b3⟩
        have hck : cn[k]? = some (cn[k]'(by omega)) := List.getElem?_eq_getElem (by omega)
        generalize hz : cn[k]'(by omega) = z at hck
        have fin : ∀ (v : V) (H5 : Hp), KindV v → (k ∈ inn → v = .str "place") → Kp b H3 H5 → BagAt H5 b c → ∀ p, H5 p = none → ∃ acc, (L2.upd H5 p (.tup [.str z, v])) D = some (.lst acc) ∧ acc.length < sizeLine ∧ ∃ cs : List (Addr × Str × V), (L2.upd (L2.upd H5 p (.tup [.str z, v])) D (.lst (acc ++ [.ref p]))) D = some (.lst (cs.map fun x => .ref x.1)) ∧ CrossAt (L2.upd (L2.upd H5 p (.tup [.str z, v])) D (.lst (acc ++ [.ref p]))) cs ∧ cs.map (·.2.1) = cn.take (k + 1) ∧ cs.length = k + 1 ∧ (∀ x ∈ cs, KindV x.2.2) ∧ (∀ (j : Nat) (x : Addr × Str × V), cs[j]? = some x → j ∈ inn → x.2.2 = .str "place") ∧ Kp b H4 (L2.upd (L2.upd H5 p (.tup [.str z, v])) D (.lst (acc ++ [.ref p]))) ∧ BagAt (L2.upd (L2.upd H5 p (.tup [.str z, v])) D (.lst (acc ++ [.ref p]))) b c := by
          intro v H5 kv hin k5 b5 p np
          have h5 := k5 _ _ h3 Db
          have nDp := ne_of_none h5 np
          have h6 := (upd_ne (o := .tup [.str z, v]) nDp).trans h5
          refine ⟨_, h6, by rw [List.length_map, sl0]; omega, cs ++ [(p, z, v)], by rw [upd_same, List.map_append]; rfl, ?_, ?_, by rw [List.length_append, l3]; rfl, ?_, ?_, ((k3.trans k5).trans (Kp.new np)).put nD, (b5.new np).put Db Dc⟩
          · exact (((c3.kept (.kp k5 b3)).kept (.new np)).kept (.put h6)).snoc ((upd_ne nDp.symm).trans upd_same)
          · rw [List.map_append, e3, take_snoc hck]; rfl
          · intro x hx
            rcases List.mem_append.mp hx with q | q
            · exact kd3 x q
            · rw [List.mem_singleton.mp q]; exact kv
          · intro j x hx hj
            by_cases hjk : j < cs.length
            · rw [List.getElem?_append_left hjk] at hx
              exact pl3 j x hx hj
            · have hjl := (List.getElem?_eq_some_iff.mp hx).1
              rw [List.length_append, List.length_singleton] at hjl
              have : j = k := by omega
              subst this
              rw [List.getElem?_append_right (by omega), l3, Nat.sub_self] at hx
              have hx := (Option.some.inj hx).symm
              subst hx
              exact hin hj
        refine ⟨rfl, _, rfl, _, rfl, pc0, _, _, _, rfl, rfl, SqL.of (k3 _ _ hc4 pcb), at_of (j := k) (by omega) (show (cn.map V.str)[k]? = some (.str z) by rw [List.getElem?_map, hck]; rfl), ?_⟩
        refine ⟨_, rfl, _, rfl, pn, _, rfl, .inl (SqL.of (k3 _ _ hn4 nb)), rfl, ?_, _, rfl, ?_⟩
        · have := flat_ints (inn.map fun x : Nat => (x : Int))
          rw [List.map_map] at this
          exact this
        have hinv : inV (.int (0 + (k : Nat))) (inn.map fun x => V.int (x : Nat)) = decide (k ∈ inn) := by
          have := inV_int (z := 0 + (k : Nat)) (l := inn.map fun x : Nat => (x : Int))
          rw [List.map_map] at this
          refine Eq.trans this (decide_eq_decide.mpr ?_)
          rw [Int.zero_add]
          constructor
          · intro h
            obtain ⟨y, hy, e⟩ := List.mem_map.mp h
            rw [← Int.ofNat.inj e]; exact hy
          · intro h
            exact List.mem_map.mpr ⟨k, h, rfl⟩
        rw [hinv]
        refine iteD (fun e => ?_) (fun e => ?_)
        · exact ⟨Nat.le_of_ble_eq_true rfl, fun p np => fin _ _ (.inr (.inr rfl)) (fun _ => rfl) (Kp.refl _ _) b3 p np⟩
        · refine ⟨_, rfl, b, c, rfl, b3, fun v H5 kv k5 b5 => ?_⟩
          exact ⟨Nat.le_of_ble_eq_true rfl, fun p np => fin _ _ kv (fun q => absurd q e) k5 b5 p np⟩
      · rintro H3 ⟨cs, h3, c3, e3, l3, kd3, pl3, k3, b3⟩
        rw [← cl, List.take_length] at e3
        exact ⟨D, cs, rfl, k3, b3, Db, h3, c3, e3, kd3, pl3⟩
    rintro σ H5 ⟨pc, cs, rfl, k5, b5, pcb5, hc5, ca5, ce5, ck5, cp5⟩
    have csl : cs.length = m := by
      have := congrArg List.length ce5
      rw [List.length_map] at this
      omega
    have hn5 := k5 _ _ hn4 nb
    have hps5 := k5 _ _ hps4 psb
    have hpx5 := k5 _ _ hpx4 pxb
    have rr5 := rr4.kept (.kp k5 b4)
    have k05 := k04.trans k5
    clear k5 k04 hn4 hps4 hpx4 rr4 b4 hc4 pcb
    have isl : inn = (rs.flatMap (·.2)).map fun x => sl.getD x 0 := hinn.symm
    -- names, twin
    refine ⟨_, rfl, ⟨_, rfl, ⟨_, _, rfl, .inl (SqL.of hpx5), ?_⟩⟩⟩
    rw [List.length_map]
    refine ⟨Nat.zero_le _, fun p0 n0 => ?_⟩
    refine ⟨b, c, p0, rx.length, [], rfl, b5.new n0, upd_same, by omega, by simp; omega, fun pm ns H6 nl nok nnd _ k6 b6 nc6 hm6 => ?_⟩
    have k6' := (Kp.new (o := .lst []) n0).trans k6
    have nl : ns.length = rx.length := by rw [nl]; rfl
    have hc6 := k6' _ _ hc5 pcb5
    have ca6 := ca5.kept (.kp k6' b5)
    have rr6 := rr5.kept (.kp k6' b5)
    have hps6 := k6' _ _ hps5 psb
    have hpx6 := k6' _ _ hpx5 pxb
    have pmb : pm ≠ b := (b5.new n0).nb nc6
    have k06 := k05.trans k6'
    have npm : H pm = none := (k05.trans (Kp.new (o := .lst []) n0)).free nc6 pmb
    have cpm : pc ≠ pm := ne_of_none ((upd_ne (o := .lst []) (ne_of_none hc5 n0)).trans hc5) nc6
    have spm : ps ≠ pm := ne_of_none ((upd_ne (o := .lst []) (ne_of_none hps5 n0)).trans hps5) nc6
    have xpm : px ≠ pm := ne_of_none ((upd_ne (o := .lst []) (ne_of_none hpx5 n0)).trans hpx5) nc6
    have pmc : pm ≠ c := (b5.new n0).nc nc6
    clear k6 k6' hc5 ca5 rr5 hps5 hpx5 k05 nc6 n0 b5 hn5
    refine ⟨_, rfl, _, rfl, b, c, _, rfl, b6, .inl ⟨pc, _, rfl, hc6, pcb5, by rw [List.length_map]; omega, by rw [List.length_map]; omega, fun v H7 hv k7 b7 => ?_⟩⟩
    obtain ⟨cc, hcc, rfl⟩ := List.mem_map.mp hv
    have ca7 := ca6.kept (.kp k7 b6)
    have rr7 := rr6.kept (.kp k7 b6)
    have hc7 := k7 _ _ hc6 pcb5
    have hps7 := k7 _ _ hps6 psb
    have hpx7 := k7 _ _ hpx6 pxb
    have hm7 := k7 _ _ hm6 pmb
    have k07 := k06.trans k7
    have ccok : NameOk cc.2.1 := cok _ (by rw [← ce5]; exact List.mem_map.mpr ⟨cc, hcc, rfl⟩)
    refine ⟨_, _, _, .str cc.2.1, rfl, rfl, .of (ca7 cc hcc), at_of (j := 0) rfl rfl, ?_⟩
    clear k7 ca6 rr6 hc6 hps6 hpx6 hm6 k06 b6 hv
    refine ⟨_, _, rfl, ?_⟩
    -- a twin name
    refine ⟨fun σ H1 => ∃ (ns : List Str), σ = [some (.ref b), some (.bl lg), some (.int m), some (.ref pj), some (.ref pr0), some (.ref ps), some (.ref px), some (.ref pn), o, some (.ref pc), some (.ref pm), some (.str cc.2.1), none, none, none, none, none, none, none, none, none] ∧ Kp b H H1 ∧ BagAt H1 b c ∧ H1 pc = some (.lst (cs.map fun x => .ref x.1)) ∧ H1 ps = some (.lst (sl.map fun x => V.int (x : Nat))) ∧ H1 px = some (.lst (rx.map fun r => .ref r.1)) ∧ H1 pm = some (.lst (ns.map .str)) ∧ CrossAt H1 cs ∧ RowsAt H1 rx ∧ ns.length = rx.length ∧ (∀ z ∈ ns, NameOk z) ∧ ns.Nodup, ?_, ?_⟩
    · refine viaT (tt := tAnd _ _) (fun x H8 => Kp b H7 H8 ∧ BagAt H8 b c ∧ (x = true → cc.2.1 ∉ ns)) (fun Q hQ => ?_) ?_
      · refine ⟨_, rfl, b, c, 3, rfl, b7, by decide, by decide, fun r H8 r0 r1 k8 b8 => ?_⟩
        refine ⟨rfl, _, rfl, iteB (fun _ => ?_) (fun _ => hQ _ _ ⟨k8, b8, nofun⟩)⟩
        refine ⟨_, rfl, _, rfl, pm, _, rfl, .inl (SqL.of (k8 _ _ hm7 pmb)), rfl, flat_strs _, _, rfl, hQ _ _ ⟨k8, b8, fun q => ?_⟩⟩
        rw [if_pos rfl, inV_str] at q
        simpa using q
      rintro x H8 ⟨k8, b8, hx⟩
      have ca8 := ca7.kept (.kp k8 b7)
      have rr8 := rr7.kept (.kp k8 b7)
      have hc8 := k8 _ _ hc7 pcb5
      have hps8 := k8 _ _ hps7 psb
      have hpx8 := k8 _ _ hpx7 pxb
      have hm8 := k8 _ _ hm7 pmb
      have k08 := k07.trans k8
      clear k8 ca7 rr7 hc7 hps7 hpx7 hm7 k07 b7
      refine iteB (fun e => ?_) (fun _ => ⟨ns, rfl, k08, b8, hc8, hps8, hpx8, hm8, ca8, rr8, nl, nok, nnd⟩)
      refine ⟨_, rfl, _, rfl, _, rfl, _, rfl, ⟨_, _, rfl, .inl (SqL.of hm8), ?_⟩⟩
      rw [List.length_map]
      refine ⟨b, c, _, rfl, b8, by omega, by omega, fun r H9 r0 r1 k9 b9 => ?_⟩
      have hm9 := k9 _ _ hm8 pmb
      obtain ⟨j, rfl⟩ : ∃ j : Nat, r = (j : Int) := ⟨r.toNat, by omega⟩
      refine ⟨pm, _, _, _, rfl, rfl, hm9, ixN_nat (j := j) (by rw [List.length_map]; omega), ?_⟩
      have es : (ns.map V.str).set j (.str cc.2.1) = (ns.set j cc.2.1).map V.str := (List.map_set ..).symm
      rw [es]
      refine ⟨ns.set j cc.2.1, rfl, (k08.trans k9).put npm, b9.put pmb pmc, (upd_ne cpm).trans (k9 _ _ hc8 pcb5), (upd_ne spm).trans (k9 _ _ hps8 psb), (upd_ne xpm).trans (k9 _ _ hpx8 pxb), upd_same, (ca8.kept (.kp k9 b8)).kept (.put hm9), (rr8.kept (.kp k9 b8)).kept (.put hm9), ?_, ?_, nodup_set nnd (hx e)⟩
      · rw [List.length_set]; exact nl
      · intro z hz
        rcases List.mem_or_eq_of_mem_set hz with q | q
        · exact nok z q
        · rw [q]; exact ccok
    clear nl nok nnd ca7 rr7 hc7 hps7 hpx7 hm7 k07 b7
    rintro σ H8 ⟨ns, rfl, k08, b8, hc8, hps8, hpx8, hm8, ca8, rr8, nl, nok, nnd⟩
    -- roads
    refine ⟨Nat.zero_le _, fun pd nd => ?_⟩
    have pdb := b8.nb nd
    have pdc := b8.nc nd
    have hpx9 : (L2.upd H8 pd (.lst [])) px = some (.lst (rx.map fun r => V.ref r.1)) := (upd_ne (ne_of_none hpx8 nd)).trans hpx8
    refine ⟨_, rfl, ⟨_, _, rfl, .inl (SqL.of hpx9), ?_⟩⟩
    rw [List.length_map]
    refine ⟨_, rfl, by omega, by omega, ?_⟩
    refine for_range (n := rx.length) (fun i σ H1 => ∃ (rds : List (Addr × Rd)) (o13 o14 o15 o16 o17 o18 o19 : Option V), σ = [some (.ref b), some (.bl lg), some (.int m), some (.ref pj), some (.ref pr0), some (.ref ps), some (.ref px), some (.ref pn), o, some (.ref pc), some (.ref pm), some (.str cc.2.1), some (.ref pd), o13, o14, o15, o16, o17, o18, o19, none] ∧ Kp b H8 H1 ∧ BagAt H1 b c ∧ H1 pd = some (.lst (rds.map fun r => .ref r.1)) ∧ RoadsAt H1 rds ∧ rds.length = i ∧ rds.map (fun r => (r.2.a, r.2.b, r.2.two)) = (rx.take i).map (fun r => seatD sl r.2) ∧ rds.map (·.2.name) = ns.take i ∧ (∀ r ∈ rds, 1 ≤ r.2.f ∧ r.2.f ≤ 60 ∧ 1 ≤ r.2.k ∧ r.2.k ≤ 60 ∧ r.2.l ≤ 9 ∧ 1 ≤ r.2.r ∧ r.2.r ≤ 3)) ⟨[], none, none, none, none, none, none, none, rfl, Kp.new nd, b8.new nd, upd_same, nofun, rfl, rfl, rfl, nofun⟩ ?_ ?_
    · clear hpx9
      rintro i σ H1 hi ⟨rds, o13, o14, o15, o16, o17, o18, o19, rfl, k1, b1, hd, ro1, rdl, re1, rn1, rm1⟩
      have hri : rx[i]? = some (rx[i]'hi) := List.getElem?_eq_getElem hi
      generalize hrr : rx[i]'hi = row at hri
      obtain ⟨ra', x, y, two⟩ := row
      have hrow := (rr8.kept (.kp k1 b8)) _ (List.mem_of_getElem? hri)
      have hxy := ro3.en (x, y, two) (List.mem_map.mpr ⟨_, List.mem_of_getElem? hri, rfl⟩)
      refine ⟨_, rfl, _, rfl, px, _, _, _, rfl, rfl, SqL.of (k1 _ _ hpx8 pxb), at_of (j := i) (by omega) (show (rx.map fun r => V.ref r.1)[i]? = some (.ref ra') by rw [List.getElem?_map, hri]; rfl), ?_⟩
      refine ⟨ra', _, rfl, .of hrow, rfl, _, _, rfl, _, _, rfl, _, _, rfl, rfl, ?_⟩
      -- wide
      refine ⟨_, rfl, Nat.le_of_ble_eq_true rfl, fun p np => ?_⟩
      refine ⟨b, c, _, rfl, b1.new np, .inl ⟨p, _, rfl, upd_same, b1.nb np, by decide, by decide, fun v H2 hv k2 b2 => ?_⟩⟩
      obtain ⟨wd, w0, w60, rfl⟩ : ∃ wd : Int, 0 < wd ∧ wd ≤ 60 ∧ v = .int wd := by
        simp at hv
        rcases hv with rfl | rfl
        · exact ⟨6, by decide, by decide, rfl⟩
        · exact ⟨60, by decide, by decide, rfl⟩
      have k12 := (Kp.new (o := .lst [V.int 6, V.int 6, V.int 6, V.int 60]) np).trans k2
      clear hv
      refine ⟨_, rfl, _, rfl, b, c, wd, rfl, b2, by omega, by omega, fun r1 H3 a0 a1 k3 b3 => ?_⟩
      refine ⟨_, _, rfl, rfl, _, rfl, _, rfl, b, c, wd, rfl, b3, by omega, by omega, fun r2 H4 a2 a3 k4 b4 => ?_⟩
      refine ⟨_, _, rfl, rfl, _, _, rfl, ?_⟩
      have k14 := (k12.trans k3).trans k4
      have k84 := k1.trans k14
      have hd4 := k14 _ _ hd pdb
      have ro4 := ro1.kept (.kp k14 b1)
      clear k12 k2 k3 k4 k14 b2 b3 hrow np hd ro1 k1 b1
      -- the tuple
      have hni : ns[i]? = some (ns[i]'(by omega)) := List.getElem?_eq_getElem (by omega)
      generalize hz : ns[i]'(by omega) = z at hni
      refine ⟨_, rfl, .inl ⟨rfl, _, SqL.of hd4⟩, ?_⟩
      refine ⟨_, rfl, _, rfl, pm, _, _, _, rfl, rfl, SqL.of (k84 _ _ hm8 pmb), at_of (j := i) (by omega) (show (ns.map V.str)[i]? = some (.str z) by rw [List.getElem?_map, hni]; rfl), ?_⟩
      refine ⟨_, rfl, _, rfl, ps, _, _, _, rfl, rfl, SqL.of (k84 _ _ hps8 psb), at_of (j := x) rfl (nat_at (by rw [so2.ln]; exact hxy.1)), ?_⟩
      refine ⟨_, rfl, _, rfl, ps, _, _, _, rfl, rfl, SqL.of (k84 _ _ hps8 psb), at_of (j := y) rfl (nat_at (by rw [so2.ln]; exact hxy.2.1)), ?_⟩
      refine ⟨_, rfl, ?_⟩
      refine via (te := tIf _ _ _) (fun v H5 => H5 = H4 ∧ v = .int (if two = true then 1 + r2 else 0)) (fun Q hQ => ?_) ?_
      · refine ⟨_, rfl, rfl, _, rfl, ?_⟩
        cases two with
        | true => exact iteB (fun _ => ⟨_, rfl, hQ _ _ ⟨rfl, rfl⟩⟩) (fun h => by cases h)
        | false => exact iteB (fun h => by cases h) (fun _ => hQ _ _ ⟨rfl, rfl⟩)
      rintro v _ ⟨rfl, rfl⟩
      refine ⟨_, rfl, _, rfl, Nat.le_of_ble_eq_true rfl, fun p np => ?_⟩
      refine ⟨b, c, _, rfl, b4.new np, .inl ⟨p, _, rfl, upd_same, b4.nb np, by decide, by decide, fun v H5 hv k5 b5 => ?_⟩⟩
      obtain ⟨ld, l0, l10, rfl⟩ : ∃ ld : Int, 0 < ld ∧ ld ≤ 10 ∧ v = .int ld := by
        simp at hv
        rcases hv with rfl | rfl
        · exact ⟨4, by decide, by decide, rfl⟩
        · exact ⟨10, by decide, by decide, rfl⟩
      have k45 := (Kp.new (o := .lst [V.int 4, V.int 4, V.int 10]) np).trans k5
      clear hv
      refine ⟨b, c, ld, rfl, b5, by omega, by omega, fun r5 H6 a5 a6 k6 b6 => ?_⟩
      refine ⟨_, rfl, b, c, 3, rfl, b6, by decide, by decide, fun r7 H7 a7 a8 k7 b7 => ?_⟩
      refine ⟨_, _, rfl, rfl, _, rfl, Nat.le_of_ble_eq_true rfl, fun pt npt => ?_⟩
      have k47 := (k45.trans k6).trans k7
      have hd7 := k47 _ _ hd4 pdb
      have ro7 := ro4.kept (.kp k47 b4)
      have ptd : pd ≠ pt := ne_of_none hd7 npt
      have hd8 := (upd_ne (o := .tup [.str z, .int (sl.getD x 0 : Nat), .int (sl.getD y 0 : Nat), .int (1 + r1), .int (if two = true then 1 + r2 else 0), .int r5, .int (1 + r7), .int (if two = true then 1 else 0)]) ptd).trans hd7
      refine ⟨pd, _, _, rfl, rfl, hd8, by rw [List.length_map, sl0]; omega, ?_⟩
      have etup : ([.str z, .int (sl.getD x 0 : Nat), .int (sl.getD y 0 : Nat), .int (1 + r1), .int (if two = true then 1 + r2 else 0), .int r5, .int (1 + r7), .int (if two = true then 1 else 0)] : List V) = (Rd.mk z (sl.getD x 0) (sl.getD y 0) (1 + r1).toNat (1 + r2).toNat r5.toNat (1 + r7).toNat two).tup := by
        unfold Rd.tup
        show _ = [V.str z, V.int _, V.int _, V.int ((1 + r1).toNat : Nat), V.int (if two = true then (((1 + r2).toNat : Nat) : Int) else 0), V.int ((r5).toNat : Nat), V.int ((1 + r7).toNat : Nat), V.int _]
        rw [show (((1 + r1).toNat : Nat) : Int) = 1 + r1 by omega, show (((1 + r2).toNat : Nat) : Int) = 1 + r2 by omega, show ((r5.toNat : Nat) : Int) = r5 by omega, show (((1 + r7).toNat : Nat) : Int) = 1 + r7 by omega]
      refine ⟨rds ++ [(pt, Rd.mk z (sl.getD x 0) (sl.getD y 0) (1 + r1).toNat (1 + r2).toNat r5.toNat (1 + r7).toNat two)], _, _, _, _, _, _, _, rfl, ((k84.trans k47).trans (Kp.new npt)).put nd, (b7.new npt).put pdb pdc, by rw [upd_same, List.map_append]; rfl, ?_, by rw [List.length_append, rdl]; rfl, ?_, ?_, ?_⟩
      · refine ((ro7.kept (.new npt)).kept (.put hd8)).snoc ((upd_ne ptd.symm).trans ?_)
        rw [← etup]; exact upd_same
      · rw [List.map_append, re1, take_snoc hri, List.map_append]; rfl
      · rw [List.map_append, rn1, take_snoc hni]; rfl
      · intro r hr
        rcases List.mem_append.mp hr with q | q
        · exact rm1 r q
        · rw [List.mem_singleton.mp q]
          refine ⟨?_, ?_, ?_, ?_, ?_, ?_, ?_⟩ <;> simp only <;> omega
    · rintro σ H9 ⟨rds, o13, o14, o15, o16, o17, o18, o19, rfl, k9, b9, hd, ro1, rdl, re1, rn1, rm1⟩
      rw [List.take_length] at re1
      rw [← nl, List.take_length] at rn1
      refine ⟨_, rfl, _, rfl, Nat.le_of_ble_eq_true rfl, fun w nw => ?_⟩
      have hc9 := k9 _ _ hc8 pcb5
      have ca9 := ca8.kept (.kp k9 b8)
      have nmap : ∀ {f : Addr × Rd → Rd}, True := fun {_} => trivial
      refine k w pc pd cs rds _ ?_ ((k08.trans k9).trans (Kp.new nw)) (b9.new nw) upd_same (b9.nb nw) ((upd_ne (ne_of_none hc9 nw)).trans hc9) pcb5 ((upd_ne (ne_of_none hd nw)).trans hd) pdb (ca9.kept (.new nw)) (ro1.kept (.new nw))
      refine world_ok ro3 so2 m2 m24 (by rw [List.length_map]; exact csl) ?_ ?_ ?_ ?_ ?_ ?_ ?_ ?_
      · intro x hx
        obtain ⟨y, hy, rfl⟩ := List.mem_map.mp hx
        exact cok _ (by rw [← ce5]; exact List.mem_map.mpr ⟨y, hy, rfl⟩)
      · rw [List.map_map]
        show (cs.map (·.2.1)).Nodup
        rw [ce5]; exact cnd
      · intro x hx
        obtain ⟨y, hy, rfl⟩ := List.mem_map.mp hx
        exact ck5 y hy
      · intro x hx
        have hxm : x < m := by
          obtain ⟨r, hr, hx⟩ := List.mem_flatMap.mp hx
          exact (so.re r hr).2.2.2 x hx
        have hlt := so2.lt x hxm
        have hg : cs[sl.getD x 0]? = some (cs[sl.getD x 0]'(by omega)) := List.getElem?_eq_getElem (by omega)
        have := cp5 _ _ hg (by rw [isl]; exact List.mem_map.mpr ⟨x, hx, rfl⟩)
        rw [List.getElem?_map, hg]
        show some _ = _
        rw [← this]
      · intro r hr
        obtain ⟨y, hy, rfl⟩ := List.mem_map.mp hr
        exact nok _ (by rw [← rn1]; exact List.mem_map.mpr ⟨y, hy, rfl⟩)
      · rw [List.map_map]
        show (rds.map (·.2.name)).Nodup
        rw [rn1]; exact nnd
      · rw [List.map_map, List.map_map]
        exact re1
      · intro r hr
        obtain ⟨y, hy, rfl⟩ := List.mem_map.mp hr
        exact rm1 y hy
end K02
set_option maxRecDepth 100000
set_option maxHeartbeats 1000000
namespace BL
open PySem PySem.Spec PyProof.Rows L2 SX He
abbrev LZ := LaneN × Int
def lz0 : LZ := (⟨"", 0, 0, 0⟩, -1)
def lPl (r : Rd) : LaneN := ⟨r.name ++ ("+" : Str), r.a, r.b, r.f⟩
def lMi (r : Rd) : LaneN := ⟨r.name ++ ("-" : Str), r.b, r.a, r.k⟩
/-- where a lane stands, and its other lane -/
inductive Cell (L : List LZ) (rs : List Rd) (x : Nat) : Prop
  | one (r : Rd) (hr : r ∈ rs) (t : r.two = false) (h : L[x]? = some (lPl r, -1))
  | pl (r : Rd) (hr : r ∈ rs) (t : r.two = true) (h : L[x]? = some (lPl r, ((x + 1 : Nat) : Int))) (h2 : L[x + 1]? = some (lMi r, (x : Int)))
  | mi (r : Rd) (hr : r ∈ rs) (t : r.two = true) (y : Nat) (hx : x = y + 1) (h : L[x]? = some (lMi r, (y : Int))) (h2 : L[y]? = some (lPl r, ((y + 1 : Nat) : Int)))
theorem at_app {α : Type} {A B : List α} {i : Nat} {x : α} (h : A[i]? = some x) : (A ++ B)[i]? = some x := by
  have := (List.getElem?_eq_some_iff.mp h).1
  rw [List.getElem?_append_left this]; exact h
theorem Cell.app {L B : List LZ} {rs : List Rd} {r : Rd} {x : Nat} (h : Cell L rs x) : Cell (L ++ B) (rs ++ [r]) x := by
  cases h with
  | one r hr t h => exact .one r (List.mem_append_left _ hr) t (at_app h)
  | pl r hr t h h2 => exact .pl r (List.mem_append_left _ hr) t (at_app h) (at_app h2)
  | mi r hr t y hx h h2 => exact .mi r (List.mem_append_left _ hr) t y hx (at_app h) (at_app h2)
section
variable {rs : List Rd}
abbrev lzA (L : List LZ) (x : Nat) : LZ := L.getD x lz0
/-- the text of the lane in the other direction -/
def flipK (z : Str) : Str := if z.cps.toList.getLast? = some 43 then S (z.cps.toList.dropLast ++ [45]) else S (z.cps.toList.dropLast ++ [43])
/-- lanes of a town, by their numbers -/
structure LzOk (L : List LZ) (n : Nat) : Prop where
  inj : ∀ x y, x < L.length → y < L.length → (lzA L x).1.key = (lzA L y).1.key → x = y
  lt : ∀ x, x < L.length → (lzA L x).1.a < n ∧ (lzA L x).1.b < n ∧ (lzA L x).1.a ≠ (lzA L x).1.b
  oth : ∀ x y, x < L.length → (lzA L x).2 = (y : Nat) → y < L.length ∧ (lzA L y).2 = (x : Nat) ∧ (lzA L y).1.a = (lzA L x).1.b ∧ (lzA L y).1.b = (lzA L x).1.a
  flip : ∀ x y, x < L.length → y < L.length → ((lzA L y).1.key = flipK (lzA L x).1.key ↔ (lzA L x).2 = (y : Nat))
  neg : ∀ x, x < L.length → (lzA L x).2 = -1 ∨ ∃ y : Nat, (lzA L x).2 = (y : Nat)
end
end BL
set_option maxRecDepth 100000
set_option maxHeartbeats 1000000
namespace BL
open PySem PySem.Spec PyProof.Rows L2 SX He
def inn (L : List LZ) (q : Nat) : List Nat := (List.range L.length).filter fun x => (lzA L x).1.b == q
def outn (L : List LZ) (q : Nat) : List Nat := (List.range L.length).filter fun x => (lzA L x).1.a == q
end BL
set_option maxRecDepth 100000
set_option maxHeartbeats 1000000
namespace BL
open PySem PySem.Spec PyProof.Rows L2 SX He
theorem getD_eq {O : List Nat} {i : Nat} (h : i < O.length) : O.getD i 0 = O[i] := by rw [List.getD_eq_getElem?_getD, List.getElem?_eq_getElem h]; rfl
theorem nd_inj {O : List Nat} (nd : O.Nodup) {i j : Nat} (hi : i < O.length) (hj : j < O.length) (e : O.getD i 0 = O.getD j 0) : i = j := by
  rw [getD_eq hi, getD_eq hj] at e
  have pw := List.pairwise_iff_getElem.mp nd
  by_cases h : i = j
  · exact h
  · exfalso
    rcases Nat.lt_or_gt_of_ne h with q | q
    · exact pw i j hi hj q e
    · exact pw j i hj hi q e.symm
/-- a table of next lanes, turnings only where they are let -/
structure TabP (L : List LZ) (tu : Nat → Option Int) (T : Nat → Nat) : Prop where
  lt : ∀ x, x < L.length → T x < L.length
  st : ∀ x, x < L.length → (lzA L (T x)).1.a = (lzA L x).1.b
  inj : ∀ x y, x < L.length → y < L.length → T x = T y → x = y
  tu : ∀ x, x < L.length → (lzA L x).2 = (T x : Nat) → tu (lzA L x).1.b ≠ none
def Cyc (T : Nat → Nat) (c : List Nat) : Prop := ∀ i, i < c.length → T (c.getD i 0) = c.getD ((i + 1) % c.length) 0
def runR (T : Nat → Nat) : Nat → List Nat → Nat → List Nat
  | 0, _, _ => []
  | f + 1, gone, x => if x ∈ gone then [] else x :: runR T f (gone ++ [x]) (T x)
def ringStep (T : Nat → Nat) (N : Nat) (s : List Nat × List (List Nat)) (k : Nat) : List Nat × List (List Nat) :=
  if runR T N s.1 k = [] then s else (s.1 ++ runR T N s.1 k, s.2 ++ [runR T N s.1 k])
theorem nd_bound {N : Nat} {l : List Nat} (nd : l.Nodup) (h : ∀ x ∈ l, x < N) : l.length ≤ N := by
  have := List.Nodup.length_le_of_subset (l₁ := l) (l₂ := List.range N) nd fun x hx => List.mem_range.mpr (h x hx)
  rwa [List.length_range] at this
theorem all_in {N : Nat} {l : List Nat} (nd : l.Nodup) (h : ∀ x ∈ l, x < N) (hl : N ≤ l.length) {x : Nat} (hx : x < N) : x ∈ l := by
  apply Decidable.byContradiction
  intro no
  have := nd_bound (N := N) (l := x :: l) (List.nodup_cons.mpr ⟨no, nd⟩) fun y hy => (List.mem_cons.mp hy).elim (fun e => e ▸ hx) (h y)
  rw [List.length_cons] at this
  omega
theorem getD_app_lt {A B : List Nat} {i : Nat} (h : i < A.length) : (A ++ B).getD i 0 = A.getD i 0 := by
  rw [List.getD_eq_getElem?_getD, List.getElem?_append_left h, List.getD_eq_getElem?_getD]
theorem getD_snoc {A : List Nat} {x : Nat} : (A ++ [x]).getD A.length 0 = x := by
  rw [List.getD_eq_getElem?_getD, List.getElem?_append_right (Nat.le_refl _), Nat.sub_self]; rfl
theorem run_cyc {T : Nat → Nat} {N : Nat} (hT : ∀ x, x < N → T x < N) (inj : ∀ x y, x < N → y < N → T x = T y → x = y) {gone : List Nat} (back : ∀ y, y < N → T y ∈ gone → y ∈ gone) :
    ∀ (f : Nat) (acc : List Nat) (x : Nat), acc ≠ [] → (∀ i, i + 1 < acc.length → T (acc.getD i 0) = acc.getD (i + 1) 0) → T (acc.getD (acc.length - 1) 0) = x → (gone ++ acc).Nodup → (∀ y ∈ gone ++ acc, y < N) → N ≤ f + (gone ++ acc).length →
      (gone ++ (acc ++ runR T f (gone ++ acc) x)).Nodup ∧ (∀ y ∈ gone ++ (acc ++ runR T f (gone ++ acc) x), y < N) ∧ Cyc T (acc ++ runR T f (gone ++ acc) x) := by
  intro f
  have fin : ∀ (acc : List Nat) (x : Nat), acc ≠ [] → (∀ i, i + 1 < acc.length → T (acc.getD i 0) = acc.getD (i + 1) 0) → T (acc.getD (acc.length - 1) 0) = x → (gone ++ acc).Nodup → (∀ y ∈ gone ++ acc, y < N) → x ∈ gone ++ acc → Cyc T acc := by
    intro acc x ne ch ex nd lt hx
    have al : 0 < acc.length := List.length_pos_iff.mpr ne
    have lm : ∀ i, i < acc.length → acc.getD i 0 ∈ acc := fun i hi => by rw [getD_eq hi]; exact List.getElem_mem _
    have ll : ∀ i, i < acc.length → acc.getD i 0 < N := fun i hi => lt _ (List.mem_append_right _ (lm i hi))
    obtain ⟨_, nda, dis⟩ := List.nodup_append.mp nd
    have xa : x = acc.getD 0 0 := by
      rcases List.mem_append.mp hx with hx | hx
      · exfalso
        have := back _ (ll (acc.length - 1) (by omega)) (by rw [ex]; exact hx)
        exact dis _ this _ (lm (acc.length - 1) (by omega)) rfl
      · obtain ⟨j, hj, ej⟩ := List.mem_iff_getElem.mp hx
        rw [← getD_eq hj] at ej
        by_cases j0 : j = 0
        · rw [← ej, j0]
        · exfalso
          have h1 := ch (j - 1) (by omega)
          rw [show j - 1 + 1 = j by omega, ej, ← ex] at h1
          have := nd_inj nda (show j - 1 < acc.length by omega) (show acc.length - 1 < acc.length by omega) (inj _ _ (ll _ (by omega)) (ll _ (by omega)) h1)
          omega
    intro i hi
    by_cases hl : i + 1 = acc.length
    · rw [hl, Nat.mod_self, ← xa, ← ex]
      congr 2; omega
    · rw [Nat.mod_eq_of_lt (by omega)]
      exact ch i (by omega)
  induction f with
  | zero =>
    intro acc x ne ch ex nd lt hN
    have al : 0 < acc.length := List.length_pos_iff.mpr ne
    have xN : x < N := by
      rw [← ex]
      refine hT _ (lt _ (List.mem_append_right _ ?_))
      rw [getD_eq (by omega)]; exact List.getElem_mem _
    unfold runR
    rw [List.append_nil]
    exact ⟨nd, lt, fin acc x ne ch ex nd lt (all_in nd lt (by omega) xN)⟩
  | succ f ih =>
    intro acc x ne ch ex nd lt hN
    have al : 0 < acc.length := List.length_pos_iff.mpr ne
    have xN : x < N := by
      rw [← ex]
      refine hT _ (lt _ (List.mem_append_right _ ?_))
      rw [getD_eq (by omega)]; exact List.getElem_mem _
    unfold runR
    by_cases hx : x ∈ gone ++ acc
    · rw [if_pos hx, List.append_nil]
      exact ⟨nd, lt, fin acc x ne ch ex nd lt hx⟩
    · rw [if_neg hx]
      have nd2 : (gone ++ (acc ++ [x])).Nodup := by
        rw [← List.append_assoc]
        exact List.nodup_append.mpr ⟨nd, by simp, fun a ha b hb => by rw [List.mem_singleton.mp hb]; rintro rfl; exact hx ha⟩
      have := ih (acc ++ [x]) (T x) (by simp) ?_ ?_ nd2 ?_ (by simp only [List.length_append, List.length_cons, List.length_nil] at hN ⊢; omega)
      · rw [List.append_assoc acc [x], List.append_assoc gone acc [x]] at *
        exact this
      · intro i hi
        rw [List.length_append, List.length_singleton] at hi
        by_cases hl : i + 1 = acc.length
        · have : acc.length - 1 = i := by omega
          rw [this] at ex
          rw [getD_app_lt (by omega), ex, hl, getD_snoc]
        · rw [getD_app_lt (by omega), getD_app_lt (by omega)]
          exact ch i (by omega)
      · rw [List.length_append, List.length_singleton, Nat.add_sub_cancel, getD_snoc]
      · intro y hy
        rw [← List.append_assoc] at hy
        rcases List.mem_append.mp hy with hy | hy
        · exact lt y hy
        · rw [List.mem_singleton.mp hy]; exact xN
end BL
set_option maxRecDepth 100000
set_option maxHeartbeats 1000000
namespace BL
open PySem PySem.Spec PyProof.Rows L2 SX He
structure RSt (T : Nat → Nat) (N k : Nat) (s : List Nat × List (List Nat)) : Prop where
  fl : s.1 = s.2.flatten
  nd : s.1.Nodup
  lt : ∀ x ∈ s.1, x < N
  bk : ∀ y, y < N → T y ∈ s.1 → y ∈ s.1
  cy : ∀ d ∈ s.2, d ≠ [] ∧ Cyc T d
  up : ∀ j, j < k → j ∈ s.1
theorem run_in {T : Nat → Nat} {N : Nat} {gone : List Nat} {x : Nat} (h : x ∈ gone) : runR T N gone x = [] := by
  cases N with
  | zero => rfl
  | succ f => unfold runR; rw [if_pos h]
theorem RSt.step {T : Nat → Nat} {N k : Nat} {s : List Nat × List (List Nat)} (hT : ∀ x, x < N → T x < N) (inj : ∀ x y, x < N → y < N → T x = T y → x = y) (h : RSt T N k s) (hk : k < N) : RSt T N (k + 1) (ringStep T N s k) := by
  unfold ringStep
  by_cases hx : k ∈ s.1
  · rw [run_in hx, if_pos rfl]
    exact ⟨h.fl, h.nd, h.lt, h.bk, h.cy, fun j hj => (Nat.lt_succ_iff_lt_or_eq.mp hj).elim (h.up j) (fun e => e ▸ hx)⟩
  · obtain ⟨f, rfl⟩ : ∃ f, N = f + 1 := ⟨N - 1, by omega⟩
    have e : runR T (f + 1) s.1 k = [k] ++ runR T f (s.1 ++ [k]) (T k) := by
      show (if k ∈ s.1 then [] else _) = _
      rw [if_neg hx]; rfl
    have nd1 : (s.1 ++ [k]).Nodup := List.nodup_append.mpr ⟨h.nd, by simp, fun a ha b hb => by rw [List.mem_singleton.mp hb]; rintro rfl; exact hx ha⟩
    have lt1 : ∀ y ∈ s.1 ++ [k], y < f + 1 := fun y hy => (List.mem_append.mp hy).elim (h.lt y) (fun q => by rw [List.mem_singleton.mp q]; exact hk)
    obtain ⟨r1, r2, r3⟩ := run_cyc hT inj h.bk f [k] (T k) (by simp) (fun i hi => by simp at hi) rfl nd1 lt1 (by simp only [List.length_append, List.length_singleton]; omega)
    rw [← e] at r1 r2 r3
    have rne : runR T (f + 1) s.1 k ≠ [] := by rw [e]; simp
    have km : k ∈ runR T (f + 1) s.1 k := by rw [e]; exact List.mem_append_left _ List.mem_cons_self
    generalize runR T (f + 1) s.1 k = r at r1 r2 r3 rne km
    rw [if_neg rne]
    refine ⟨?_, r1, r2, ?_, ?_, ?_⟩
    · show s.1 ++ r = (s.2 ++ [r]).flatten
      rw [List.flatten_append, ← h.fl]; simp
    · intro y hy hm
      rcases List.mem_append.mp hm with hm | hm
      · exact List.mem_append_left _ (h.bk y hy hm)
      · obtain ⟨j, hj, ej⟩ := List.mem_iff_getElem.mp hm
        rw [← getD_eq hj] at ej
        have rlt : ∀ i, i < r.length → r.getD i 0 < f + 1 := fun i hi => r2 _ (List.mem_append_right _ (by rw [getD_eq hi]; exact List.getElem_mem _))
        obtain ⟨i, hi, ei⟩ : ∃ i, i < r.length ∧ (i + 1) % r.length = j := by
          by_cases j0 : j = 0
          · exact ⟨r.length - 1, by omega, by rw [show r.length - 1 + 1 = r.length by omega, Nat.mod_self, j0]⟩
          · exact ⟨j - 1, by omega, by rw [show j - 1 + 1 = j by omega, Nat.mod_eq_of_lt hj]⟩
        have := r3 i hi
        rw [ei, ej] at this
        have := inj _ _ (rlt i hi) hy this
        rw [← this]
        refine List.mem_append_right _ ?_
        rw [getD_eq hi]; exact List.getElem_mem _
    · intro d hd
      rcases List.mem_append.mp hd with hd | hd
      · exact h.cy d hd
      · rw [List.mem_singleton.mp hd]; exact ⟨rne, r3⟩
    · intro j hj
      rcases Nat.lt_succ_iff_lt_or_eq.mp hj with q | q
      · exact List.mem_append_left _ (h.up j q)
      · rw [q]; exact List.mem_append_right _ km
/-- drives: rings that have each lane once -/
structure DrOk (T : Nat → Nat) (N : Nat) (ds : List (List Nat)) : Prop where
  cy : ∀ d ∈ ds, d ≠ [] ∧ Cyc T d
  pm : ds.flatten.Perm (List.range N)
theorem DrOk.nd {T : Nat → Nat} {N : Nat} {ds : List (List Nat)} (h : DrOk T N ds) : ds.flatten.Nodup := h.pm.nodup_iff.mpr List.nodup_range
theorem DrOk.lt {T : Nat → Nat} {N : Nat} {ds : List (List Nat)} (h : DrOk T N ds) {d : List Nat} (hd : d ∈ ds) {x : Nat} (hx : x ∈ d) : x < N := List.mem_range.mp (h.pm.mem_iff.mp (List.mem_flatten.mpr ⟨d, hd, hx⟩))
theorem DrOk.len {T : Nat → Nat} {N : Nat} {ds : List (List Nat)} (h : DrOk T N ds) : ds.flatten.length = N := by rw [h.pm.length_eq, List.length_range]
theorem DrOk.cnt {T : Nat → Nat} {N : Nat} {ds : List (List Nat)} (h : DrOk T N ds) : ds.length ≤ N := by
  rw [← h.len]
  exact ne_flat fun d hd => (h.cy d hd).1
def rotN (c : List Nat) (k : Nat) : List Nat := c.drop k ++ c.take k
/-- the same drives, each from another place -/
inductive Rot2 : List (List Nat) → List (List Nat) → Prop
  | nil : Rot2 [] []
  | cons {d : List Nat} {ds es : List (List Nat)} (k : Nat) (hk : k < d.length) : Rot2 ds es → Rot2 (d :: ds) (rotN d k :: es)
theorem Rot2.snoc {ds es : List (List Nat)} (h : Rot2 ds es) {d : List Nat} {k : Nat} (hk : k < d.length) : Rot2 (ds ++ [d]) (es ++ [rotN d k]) := by
  induction h with
  | nil => exact .cons k hk .nil
  | cons k' hk' _ ih => exact .cons k' hk' ih
theorem DrOk.perm {T : Nat → Nat} {N : Nat} {ds es : List (List Nat)} (h : DrOk T N ds) (p : es.Perm ds) : DrOk T N es :=
  ⟨fun d hd => h.cy d (p.mem_iff.mp hd), p.flatten.trans h.pm⟩
end BL
namespace BL
open PySem PySem.Spec PyProof.Rows L2 SX He
def LzAt (H : Hp) (ll : List (Addr × LZ)) : Prop := ∀ x ∈ ll, H x.1 = some (.tup [.str x.2.1.key, .int (x.2.1.a : Nat), .int (x.2.1.b : Nat), .int (x.2.1.mi : Nat), .int x.2.2])
theorem LzAt.kept {H H1 : Hp} {ll : List (Addr × LZ)} (h : LzAt H ll) (s : L2.Same H H1) : LzAt H1 ll := fun x hx => s _ _ (h x hx)
theorem LzAt.keptC {H H1 : Hp} {ll : List (Addr × LZ)} (h : LzAt H ll) (s : KpC H H1) : LzAt H1 ll := fun x hx => s _ _ cln_tup (h x hx)
theorem LzAt.put {H : Hp} {ll : List (Addr × LZ)} {D : Addr} {acc : List V} {o : HO} (h : LzAt H ll) (hD : H D = some (.lst acc)) : LzAt (upd H D o) ll := fun x hx => by
  have e := h x hx
  have : x.1 ≠ D := by intro q; rw [q, hD] at e; cases e
  exact (upd_ne this).trans e
theorem LzAt.snoc {H : Hp} {ll : List (Addr × LZ)} {p : Addr} {l : LaneN} {z : Int} (h : LzAt H ll) (hp : H p = some (.tup [.str l.key, .int (l.a : Nat), .int (l.b : Nat), .int (l.mi : Nat), .int z])) : LzAt H (ll ++ [(p, (l, z))]) := fun x hx => by
  rcases List.mem_append.mp hx with hx | hx
  · exact h x hx
  · rw [List.mem_singleton.mp hx]; exact hp
end BL
namespace BL
open PySem PySem.Spec PyProof.Rows L2 SX He
theorem gnmI {i : Nat} {v : V} {σ : L2.St} {H : Hp} {f : L2.St → Hp → Prop} {rt : VK} {bk ct : L2.St → Hp → Prop} (h : f (σ.set i (some v)) H) : gName i v σ H (Ends.nx ⟨f, rt, bk, ct⟩) := h
end BL
namespace BL
open PySem PySem.Spec PyProof.Rows L2 SX He
theorem BagAt.ints {H : Hp} {b c a : Addr} {l : List Int} (h : BagAt H b c) (e : H a = some (.lst (l.map V.int))) : a ≠ b := by
  obtain ⟨_, _, _, _, _, _, hb, _⟩ := h
  rintro rfl
  rw [e] at hb
  injection (Option.some.inj hb) with hb
  cases l with
  | nil => cases hb
  | cons x r => injection hb with hb _; cases hb
/-- what the table holds behind the crossings below q -/
structure TabQ (L : List LZ) (tu : Nat → Option Int) (q : Nat) (f : Nat → Int) : Prop where
  ok : ∀ x, x < L.length → (lzA L x).1.b < q → ∃ y : Nat, f x = (y : Int) ∧ y < L.length ∧ (lzA L y).1.a = (lzA L x).1.b ∧ ((lzA L x).2 = (y : Nat) → tu (lzA L x).1.b ≠ none)
  inj : ∀ x y, x < L.length → y < L.length → (lzA L x).1.b < q → (lzA L y).1.b < q → f x = f y → x = y
theorem TabQ.zero {L : List LZ} {tu : Nat → Option Int} {f : Nat → Int} : TabQ L tu 0 f := ⟨fun _ _ h => absurd h (Nat.not_lt_zero _), fun _ _ _ _ h => absurd h (Nat.not_lt_zero _)⟩
theorem TabQ.step {L : List LZ} {tu : Nat → Option Int} {q : Nat} {f f2 : Nat → Int} {I O : List Nat} (h : TabQ L tu q f) (hI : I.Perm (inn L q)) (hO : O.Perm (outn L q)) (hl : O.length = I.length)
    (ht : tu q = none → ∀ i, i < I.length → (lzA L (I.getD i 0)).2 ≠ (O.getD i 0 : Nat)) (h1 : ∀ i, i < I.length → f2 (I.getD i 0) = (O.getD i 0 : Nat)) (h2 : ∀ x, x ∉ I → f2 x = f x) : TabQ L tu (q + 1) f2 := by
  have ndI : I.Nodup := hI.nodup_iff.mpr (List.nodup_range.filter _)
  have ndO : O.Nodup := hO.nodup_iff.mpr (List.nodup_range.filter _)
  have mI : ∀ x, x ∈ I ↔ x < L.length ∧ (lzA L x).1.b = q := fun x => by
    rw [hI.mem_iff]
    unfold inn
    rw [List.mem_filter, List.mem_range, beq_iff_eq]
  have mO : ∀ x, x ∈ O ↔ x < L.length ∧ (lzA L x).1.a = q := fun x => by
    rw [hO.mem_iff]
    unfold outn
    rw [List.mem_filter, List.mem_range, beq_iff_eq]
  have at_ : ∀ x, x < L.length → (lzA L x).1.b = q → ∃ i, i < I.length ∧ I.getD i 0 = x := fun x hx e => by
    obtain ⟨i, hi, ei⟩ := List.mem_iff_getElem.mp ((mI x).mpr ⟨hx, e⟩)
    exact ⟨i, hi, by rw [getD_eq hi]; exact ei⟩
  have old : ∀ x, x < L.length → (lzA L x).1.b < q → f2 x = f x := fun x _ e => h2 x fun m => by have := ((mI x).mp m).2; omega
  have new : ∀ i, i < I.length → O.getD i 0 < L.length ∧ (lzA L (O.getD i 0)).1.a = q := fun i hi => (mO _).mp (by rw [getD_eq (by omega)]; exact List.getElem_mem _)
  constructor
  · intro x hx hq
    by_cases e : (lzA L x).1.b = q
    · obtain ⟨i, hi, rfl⟩ := at_ x hx e
      exact ⟨_, h1 i hi, (new i hi).1, by rw [(new i hi).2, e], fun eo en => ht (by rw [← e]; exact en) i hi eo⟩
    · rw [old x hx (by omega)]
      exact h.ok x hx (by omega)
  · intro x y hx hy qx qy e
    by_cases ex : (lzA L x).1.b = q <;> by_cases ey : (lzA L y).1.b = q
    · obtain ⟨i, hi, rfl⟩ := at_ x hx ex
      obtain ⟨j, hj, rfl⟩ := at_ y hy ey
      rw [h1 i hi, h1 j hj] at e
      rw [nd_inj ndO (show i < O.length by omega) (show j < O.length by omega) (by omega)]
    · exfalso
      obtain ⟨i, hi, rfl⟩ := at_ x hx ex
      obtain ⟨z, hz, _, hz2, _⟩ := h.ok y hy (by omega)
      rw [h1 i hi, old y hy (by omega), hz] at e
      have : O.getD i 0 = z := by omega
      have := (new i hi).2
      rw [‹O.getD i 0 = z›] at this
      omega
    · exfalso
      obtain ⟨i, hi, rfl⟩ := at_ y hy ey
      obtain ⟨z, hz, _, hz2, _⟩ := h.ok x hx (by omega)
      rw [h1 i hi, old x hx (by omega), hz] at e
      have := (new i hi).2
      rw [show O.getD i 0 = z by omega] at this
      omega
    · rw [old x hx (by omega), old y hy (by omega)] at e
      exact h.inj x y hx hy (by omega) (by omega) e
theorem TabQ.fin {L : List LZ} {tu : Nat → Option Int} {n : Nat} {f : Nat → Int} (ok : LzOk L n) (h : TabQ L tu n f) : TabP L tu (fun x => (f x).toNat) ∧ ∀ x, x < L.length → f x = (((f x).toNat : Nat) : Int) := by
  have v : ∀ x, x < L.length → ∃ y : Nat, f x = (y : Int) ∧ y < L.length ∧ (lzA L y).1.a = (lzA L x).1.b ∧ ((lzA L x).2 = (y : Nat) → tu (lzA L x).1.b ≠ none) := fun x hx => h.ok x hx (ok.lt x hx).2.1
  refine ⟨⟨fun x hx => ?_, fun x hx => ?_, fun x y hx hy e => ?_, fun x hx e => ?_⟩, fun x hx => ?_⟩
  · obtain ⟨y, e, h1, _⟩ := v x hx
    show (f x).toNat < _
    rw [e]; exact h1
  · obtain ⟨y, e, h1, h2, _⟩ := v x hx
    show (lzA L (f x).toNat).1.a = _
    rw [e]; exact h2
  · obtain ⟨a, e1, _⟩ := v x hx
    obtain ⟨b, e2, _⟩ := v y hy
    have e : (f x).toNat = (f y).toNat := e
    exact h.inj x y hx hy (ok.lt x hx).2.1 (ok.lt y hy).2.1 (by rw [e1, e2] at *; simp at e; rw [e])
  · obtain ⟨y, e1, _, _, h3⟩ := v x hx
    have e : (lzA L x).2 = (((f x).toNat : Nat) : Int) := e
    rw [e1] at e
    exact h3 e
  · obtain ⟨y, e, _⟩ := v x hx
    rw [e]; rfl
end BL
namespace BL
open PySem PySem.Spec PyProof.Rows L2 SX He
end BL
namespace BL
open PySem PySem.Spec PyProof.Rows L2 SX He
def RnAt (H : Hp) (rl : List (Addr × List Nat)) : Prop := ∀ x ∈ rl, H x.1 = some (.lst (natV x.2))
theorem RnAt.kept {H H1 : Hp} {rl : List (Addr × List Nat)} (h : RnAt H rl) (s : L2.Same H H1) : RnAt H1 rl := fun x hx => s _ _ (h x hx)
theorem RnAt.keptC {H H1 : Hp} {rl : List (Addr × List Nat)} (h : RnAt H rl) (s : KpC H H1) : RnAt H1 rl := fun x hx => s _ _ (cln_ints _) (h x hx)
end BL
set_option maxRecDepth 100000
set_option maxHeartbeats 1000000
namespace BL
open PySem PySem.Spec PyProof.Rows L2 SX He
section
variable {J : It} {n : Nat} {G : Hp → Prop} {Y : Nat → Hp → V → Hp → Prop}
end
def NmAt (H : Hp) (nl : List (Addr × List Str)) : Prop := ∀ x ∈ nl, H x.1 = some (.lst (x.2.map V.str))
theorem NmAt.kept {H H1 : Hp} {nl : List (Addr × List Str)} (h : NmAt H nl) (s : L2.Same H H1) : NmAt H1 nl := fun x hx => s _ _ (h x hx)
theorem NmAt.keptC {H H1 : Hp} {nl : List (Addr × List Str)} (h : NmAt H nl) (s : KpC H H1) : NmAt H1 nl := fun x hx => s _ _ (cln_strs _) (h x hx)
end BL
namespace BL
open PySem PySem.Spec PyProof.Rows L2 SX He
end BL
namespace BL
open PySem PySem.Spec PyProof.Rows L2 SX He
end BL
namespace BL
open PySem PySem.Spec PyProof.Rows L2 SX He
end BL
set_option maxRecDepth 100000
set_option maxHeartbeats 2000000
namespace PySem
open Sem (wp)
open AutoSeq1 (wpAny_loadPart')
section
variable {prog : Program} {w : World} {A : Around} {E : Value → Shared → Prop} {s : Shared}
end
end PySem
namespace BL
open PySem PySem.Spec PyProof.Rows L2 SX He
section
variable {X : Cx}
end
end BL
set_option maxRecDepth 100000
set_option maxHeartbeats 1000000
namespace BL
open PySem PySem.Spec PyProof.Rows L2 SX He
/-- a turning: lane, crossing, price -/
abbrev Tu := Str × Str × Int
def TuAt (H : Hp) (tl : List (Addr × Tu)) : Prop := ∀ x ∈ tl, H x.1 = some (.tup [.str x.2.1, .str x.2.2.1, .int x.2.2.2])
theorem TuAt.kept {H H1 : Hp} {tl : List (Addr × Tu)} (h : TuAt H tl) (s : L2.Same H H1) : TuAt H1 tl := fun x hx => s _ _ (h x hx)
theorem TuAt.kp {H H1 : Hp} {a C dx : Addr} {fs : List (Str × V)} {tl : List (Addr × Tu)} (h : TuAt H tl) (ha : H a = some (.ins C dx fs)) (k : Kp a H H1) : TuAt H1 tl := fun x hx => k _ _ (h x hx) (ne_of_ob (h x hx) ha (by simp))
theorem TuAt.put {H : Hp} {tl : List (Addr × Tu)} {D : Addr} {acc : List V} {o : HO} (h : TuAt H tl) (hD : H D = some (.lst acc)) : TuAt (upd H D o) tl := fun x hx => by
  have e := h x hx
  have : x.1 ≠ D := by intro q; rw [q, hD] at e; cases e
  exact (upd_ne this).trans e
theorem TuAt.snoc {H : Hp} {tl : List (Addr × Tu)} {p : Addr} {a b : Str} {c : Int} (h : TuAt H tl) (hp : H p = some (.tup [.str a, .str b, .int c])) : TuAt H (tl ++ [(p, (a, b, c))]) := fun x hx => by
  rcases List.mem_append.mp hx with hx | hx
  · exact h x hx
  · rw [List.mem_singleton.mp hx]; exact hp
end BL
set_option maxRecDepth 100000
set_option maxHeartbeats 1000000
namespace BL
open PySem PySem.Spec PyProof.Rows L2 SX He
end BL
set_option maxRecDepth 100000
set_option maxHeartbeats 1000000
namespace BL
open PySem PySem.Spec PyProof.Rows L2 SX He
end BL
set_option maxRecDepth 100000
set_option maxHeartbeats 1000000
namespace BL
open PySem PySem.Spec PyProof.Rows L2 SX He
section
variable {X : Cx} {k j : Nat} {C : Addr} {m : Str} {sp : Sp}
end
end BL
set_option maxRecDepth 100000
set_option maxHeartbeats 1000000
namespace BL
open PySem PySem.Spec PyProof.Rows L2 SX He
section
variable {P : Program} {w : World} {K : PySem.W.Frag} {mg : Str → Option Value} {base : Heap}
end
section
variable {X : Cx} {k j : Nat} {C : Addr} {x : Str} {sp : Sp} {p pos : Pos} {ks : List Str} {kws : List Keyword} {tk : TA} {gV : List V → List V → List V}
end
end BL
set_option maxRecDepth 100000
set_option maxHeartbeats 1000000
namespace BL
open PySem PySem.Spec PyProof.Rows L2 SX He
end BL
set_option maxRecDepth 100000
set_option maxHeartbeats 1000000
namespace BL
open PySem PySem.Spec PyProof.Rows L2 SX He
structure MakX (P : Program) (w : World) (K : PySem.W.Frag) (mg : Str → Option Value) (base : Heap) (k : Nat) (x : Str) (C : Addr) (sp : Sp) : Prop where
  ex : ∃ (f : Addr) (fd : FuncData) (ps : List Str), Mk K C f ∧ FnOk P w K mg base (L2.CX P w) k f fd ps sp ∧ mg x = some (.ref C) ∧ Binds K fd ps []
section
variable {P : Program} {w : World} {K : PySem.W.Frag} {mg : Str → Option Value} {base : Heap}
theorem makX_of {x qual : Str} {C : Addr} {st : Stmt} {f : Addr} {N ps : List Str} {k : Nat} {sp : Sp} (Mm : Mk K C f) (hm : mg x = some (.ref C)) (F : ∃ fd, FunD K "__init__" qual (defArgs st) (defBody st) (defScope st) [] [] f fd) (S : FnScope N ps (defScope st))
    (hb : ∀ (kV doc pm : Value) (an : Option Addr) (cdv ct : Value) (us : List Value), us.length = ps.length → bindArgs (PySem.W.fnOf "__init__" qual (defArgs st) (defBody st) (defScope st) .none kV doc pm an cdv ct) ⟨us, []⟩ = pure (ps.zip us))
    (len : ∀ vs H Q E, sp vs H Q E → vs.length = ps.length)
    (hbody : ∀ (cdv : Value) (A : Around) (outer : List Env) (s : Shared) (H : Hp) (vs : List V) (Q : VK) (E : XK), Room k (A.deeper (envOfC qual (defScope st) s.heap.objs.size f cdv)) → sp vs H Q E →
      ∃ t, PSs (cxOf (L2.CX P w) P w K mg base N qual (defScope st) f cdv A outer s H E) (defBody st) t ∧ t { nx := fun _ H' => Q .non H', rt := Q } (start N vs) H) : MakX P w K mg base (k + 1) x C sp := by
  obtain ⟨fd, F⟩ := F
  exact ⟨f, fd, ps, Mm, F.ok S len hbody, hm, F.bindsN hb⟩
end
section
variable {X : Cx} {k j : Nat} {C : Addr} {x m : Str} {sp : Sp} {W : WX} {p pos apos : Pos} {e o : Expr} {es : List Expr} {ta : TE} {t : TA}
def tMakeS (C : Addr) (sp : Sp) (E : L2.St → XK) (t : TA) : TE := fun σ H Q => t σ H fun zs H1 => ∀ x dx, H1 x = none → H1 dx = none → dx ≠ x → sp (.ref x :: zs) (upd (upd H1 dx (.own x)) x (.ins C dx [])) (fun v H2 => v = .non ∧ Q (.ref x) H2) (E σ)
theorem pe_mkX (c : MakX X.prog X.w X.K X.mg X.base k x C sp) (hr : Room j X.A) (hk : k + 1 ≤ j) (tk : Takes X W) (hg : Gl X x) (ha : PA X (e :: es) t) (hdb : (x == ("__debug__" : Str)) = false := by decide)
    (he : starEach (e :: es) X.env = (false, eval e X.env) :: starEach es X.env := by rfl) (hpl : (backTo pos (starEach es X.env)).any (·.1) = false := by rfl) :
    PE X (.Call (.Name x p) (e :: es) [] pos) (tMakeS C sp (WE W) t) := by
  obtain ⟨f, fd, ps, M, F, hm, b⟩ := c.ex
  refine ⟨fun pins s σ H Q I h => ?_⟩
  refine wpAny_Call_Name_kw (ld_glob I hg hm ?_ hdb)
  refine PySem.W.callWith_K (h₀ := X.base) I.ok.mod.kin M.kp (thn (ha.run pos pins s σ H _ I h) fun us s2 ⟨zs, H2, I2, rz, q2⟩ => ⟨I2.kIn, ?_⟩) he hpl
  have hq := q2 (s2.heap.objs.size + 1) s2.heap.objs.size (I2.hok.fresh (Nat.le_succ _)) (I2.hok.fresh (Nat.le_refl _)) (Nat.ne_of_lt (Nat.lt_succ_self _))
  have I3 := Inv.made (C := C) I2
  have r2 : Vals (V.ref (s2.heap.objs.size + 1) :: zs) (Value.ref (s2.heap.objs.size + 1) :: us) := .cons rfl rz
  have hr := hr.mono hk
  have hl : (Value.ref (s2.heap.objs.size + 1) :: us).length = ps.length := by rw [← r2.length]; exact F.len _ _ _ _ hq
  have bb := b _ (Value.ref (s2.heap.objs.size + 1) :: us) I3.kIn (by rw [List.append_nil]; exact hl)
  rw [List.append_nil] at bb
  refine wpAny_call (make_map (f := f) I2.kIn M.makes M.init (beq_iff_eq.mp M.fn) (codeAny_mono (F.run _ X.stack _ _ ⟨Value.ref (s2.heap.objs.size + 1) :: us, []⟩ _ _ _ (WE W σ) (hr.make C us [])
    (I3.env0.make C us []) bb r2 hq) fun r s' hq' => ?_))
  cases r with
  | error e => exact passAt tk σ pins _ _ e s' I3 hq'
  | ok fl =>
    cases fl with
    | ret u =>
      obtain ⟨v, H', I4, rv, ev, q3⟩ := I3.after hq'
      subst ev
      exact ⟨rv, ⟨V.ref (s2.heap.objs.size + 1), H', I4, rfl, q3⟩⟩
    | next => exact False.elim hq'
    | brk => exact False.elim hq'
    | cont => exact False.elim hq'
/-- o.m(), what it lets out at the slots -/
theorem pe_mX0 {pl : Sem Bool} (c : MetX X.prog X.w X.K X.mg X.base k C m sp) (hr : Room j X.A) (hk : k ≤ j) (tk : Takes X W) (he : PE X o ta)
    (ht : eval (.Call (.Attribute o m apos) [] [] pos) X.env = (do
      let ov ← eval o X.env
      standAt apos.atName
      let (f, first) ← holding [ov] (getMethod ov m pl)
      callWith pos f first (backTo pos (starEach [] X.env)) (backToKw pos (keywordEach [] X.env))) := by rfl) :
    PE X (.Call (.Attribute o m apos) [] [] pos) (tMethS C m sp (WE W) ta tNil) := by
  obtain ⟨f, fd, ps, hc, hm, F, b⟩ := c.ex
  refine ⟨fun pins s σ H Q I h => ?_⟩
  refine PySem.W.methodCall_KW (pl := pl) (thn (he.run pins s σ H _ I h) fun u s1 ⟨x, H1, I1, rx, a, dx, fs, ex, ea, l, q⟩ => ?_) ht
  subst ex
  obtain rfl : u = Value.ref a := rx
  refine getmeth_ok I1 ea hc hm l ?_
  exact PySem.W.callWith_K0 (first := [.ref a]) I1.kIn hm.kp (run_fnS (us := [.ref a]) (vs := [.ref a]) F (hr.mono hk) b (passAt tk σ) I1 (.cons rfl .nil) q)
end
end BL
set_option maxRecDepth 100000
set_option maxHeartbeats 1000000
namespace BL
open PySem PySem.Spec PyProof.Rows L2 SX He
structure WorldP (cs : List (Str × V)) (rs : List Rd) : Prop where
  lo : 2 ≤ cs.length
  hi : cs.length ≤ 24
  cn : ∀ c ∈ cs, NameOk c.1
  cd : (cs.map (·.1)).Nodup
  ck : ∀ c ∈ cs, KindV c.2
  rn : ∀ r ∈ rs, NameOk r.name
  rd : (rs.map (·.name)).Nodup
  re : ∀ r ∈ rs, r.a < cs.length ∧ r.b < cs.length ∧ r.a ≠ r.b
  rm : ∀ r ∈ rs, 1 ≤ r.f ∧ r.f ≤ 60 ∧ 1 ≤ r.k ∧ r.k ≤ 60 ∧ r.l ≤ 9 ∧ 1 ≤ r.r ∧ r.r ≤ 3
  st : (rs.filter (·.two)).length ≤ 36
  ow : (rs.filter (!·.two)).length ≤ 13
  pl : ∀ r ∈ rs, r.two = false → (cs[r.a]?).map (·.2) = some (.str "place") ∧ (cs[r.b]?).map (·.2) = some (.str "place")
  tch : ∀ x, x < cs.length → ∃ r ∈ rs, r.a = x ∨ r.b = x
theorem WorldOk.p {cs : List (Str × V)} {rs : List Rd} (h : WorldOk cs rs) : WorldP cs rs := ⟨h.lo, h.hi, h.cn, h.cd, h.ck, h.rn, h.rd, h.re, h.rm, h.st, Nat.le_succ_of_le h.ow, h.pl, h.tch⟩
theorem nameAt_okP {cs : List (Str × V)} {rs : List Rd} (ok : WorldP cs rs) {i : Nat} (h : i < cs.length) : NameOk (nameAt cs i) := by
  rw [nameAt_eq h]
  exact ok.cn _ (List.getElem_mem h)
theorem lineW_leP {cs : List (Str × V)} {rs : List Rd} (ok : WorldP cs rs) {r : Rd} (h : r ∈ rs) : ∀ z ∈ lineW cs r, z.length ≤ 8 := by
  obtain ⟨h1, h2, _⟩ := ok.re r h
  obtain ⟨f0, f1, k0, k1, l1, r0, r1⟩ := ok.rm r h
  have na := (nameAt_okP ok h1).len
  have nb := (nameAt_okP ok h2).len
  have nr := (ok.rn r h).len
  have n1 := num_len (n := r.f) (by omega)
  have n2 := num_len (n := r.k) (by omega)
  have n3 := num_len (n := r.l) (by omega)
  have n4 := num_len (n := r.r) (by omega)
  have s1 : ("street" : Str).length ≤ 8 := by decide
  have s2 : ("oneway" : Str).length ≤ 8 := by decide
  intro z hz
  unfold lineW lineB lineA at hz
  split at hz <;> simp at hz
  · rcases hz with rfl | rfl | rfl | rfl | rfl | rfl | rfl | rfl <;> omega
  · rcases hz with rfl | rfl | rfl | rfl | rfl | rfl | rfl <;> omega
theorem lineT_lenP {cs : List (Str × V)} {rs : List Rd} (ok : WorldP cs rs) {r : Rd} (h : r ∈ rs) : (lineT cs r).length ≤ 72 := by
  have h1 := sum_le (lineW_leP ok h)
  have h2 := lineW_len cs r
  have h3 := join_len " " (lineW cs r)
  have h4 : (" " : Str).length = 1 := by decide
  unfold lineT
  rw [h4] at h3
  have : (lineW cs r).length * 8 ≤ 64 := by omega
  omega
theorem linesT_lenP {cs : List (Str × V)} {rs : List Rd} (ok : WorldP cs rs) : (linesT cs rs).length ≤ 75 ∧ ((linesT cs rs).map (·.length)).sum ≤ 75 * 72 := by
  have h1 := ok.hi
  have h2 := ok.st
  have h3 := ok.ow
  have h4 := len_two rs
  have hl : (linesT cs rs).length ≤ 75 := by
    unfold linesT
    simp
    omega
  refine ⟨hl, ?_⟩
  have : ∀ z ∈ linesT cs rs, z.length ≤ 72 := by
    intro z hz
    unfold linesT at hz
    rcases List.mem_append.mp hz with q | q
    · rcases List.mem_append.mp q with q | q
      · rcases List.mem_append.mp q with q | q
        · rw [List.mem_singleton.mp q]; decide
        · obtain ⟨c, hc, rfl⟩ := List.mem_map.mp q
          have := crossT_len (ok.cn c hc) (ok.ck c hc)
          omega
      · obtain ⟨r, hr, rfl⟩ := List.mem_map.mp q
        exact lineT_lenP ok hr
    · rw [List.mem_singleton.mp q]; decide
  have := sum_le this
  have h5 : (linesT cs rs).length * 72 ≤ 75 * 72 := Nat.mul_le_mul_right _ hl
  omega
theorem textT_lenP {cs : List (Str × V)} {rs : List Rd} (ok : WorldP cs rs) : (textT cs rs).length ≤ 20000 := by
  obtain ⟨h1, h2⟩ := linesT_lenP ok
  have h3 := join_len "\n" (linesT cs rs ++ ([""] : List Str))
  have h4 : ("\n" : Str).length = 1 := by decide
  have h5 : ("" : Str).length = 0 := by decide
  unfold textT
  rw [List.map_append, List.sum_append, List.length_append, h4, Nat.mul_one] at h3
  have h6 : ((([""] : List Str).map (·.length)).sum) = 0 := by decide
  have h7 : ([""] : List Str).length = 1 := rfl
  omega
theorem names_neP {cs : List (Str × V)} {rs : List Rd} (ok : WorldP cs rs) {i j : Nat} (hi : i < cs.length) (hj : j < cs.length) (h : nameAt cs i = nameAt cs j) : i = j := by
  rw [nameAt_eq hi, nameAt_eq hj] at h
  have pw := List.pairwise_iff_getElem.mp ok.cd
  have l : (cs.map (·.1)).length = cs.length := List.length_map _
  have e : ∀ k (hk : k < cs.length), (cs.map (·.1))[k]'(by omega) = (cs[k]'hk).1 := fun k hk => List.getElem_map _
  rcases Nat.lt_trichotomy i j with q | q | q
  · exact absurd (by rw [e i hi, e j hj]; exact h) (pw i j (by omega) (by omega) q)
  · exact q
  · exact absurd (by rw [e i hi, e j hj]; exact h.symm) (pw j i (by omega) (by omega) q)
theorem lineW_darkP {cs : List (Str × V)} {rs : List Rd} (ok : WorldP cs rs) {r : Rd} (h : r ∈ rs) : ∀ z ∈ lineW cs r, Dark z := by
  obtain ⟨h1, h2, _⟩ := ok.re r h
  obtain ⟨f0, f1, k0, k1, l1, r0, r1⟩ := ok.rm r h
  have na := name_dark (nameAt_okP ok h1)
  have nb := name_dark (nameAt_okP ok h2)
  have nr := name_dark (ok.rn r h)
  have n1 := num_dark (n := r.f) (by omega)
  have n2 := num_dark (n := r.k) (by omega)
  have n3 := num_dark (n := r.l) (by omega)
  have n4 := num_dark (n := r.r) (by omega)
  have s1 : Dark "street" := by show ∀ x ∈ TL.tl ("street" : Str), 33 ≤ x; decide
  have s2 : Dark "oneway" := by show ∀ x ∈ TL.tl ("oneway" : Str), 33 ≤ x; decide
  intro z hz
  unfold lineW lineB lineA at hz
  split at hz <;> simp at hz
  · rcases hz with rfl | rfl | rfl | rfl | rfl | rfl | rfl | rfl <;> assumption
  · rcases hz with rfl | rfl | rfl | rfl | rfl | rfl | rfl <;> assumption
theorem lineT_splitP {cs : List (Str × V)} {rs : List Rd} (ok : WorldP cs rs) {r : Rd} (h : r ∈ rs) : Txt.split (lineT cs r) " " = lineW cs r :=
  split_words (by unfold lineW lineB lineA; split <;> simp) (lineW_darkP ok h)
theorem textT_splitP {cs : List (Str × V)} {rs : List Rd} (ok : WorldP cs rs) : Txt.split (textT cs rs) "\n" = linesT cs rs ++ ([""] : List Str) := by
  refine TL.split_join (s := 10) (S := []) (by decide) (by decide +kernel) (by simp) fun p hp q => ?_
  have lit : ∀ z : Str, (∀ x ∈ TL.tl z, 32 ≤ x) → 10 ∉ TL.tl z := fun z h q => absurd (h _ q) (by decide)
  rcases List.mem_append.mp hp with hp | hp
  · unfold linesT at hp
    rcases List.mem_append.mp hp with hp | hp
    · rcases List.mem_append.mp hp with hp | hp
      · rcases List.mem_append.mp hp with hp | hp
        · rw [List.mem_singleton.mp hp] at q; exact absurd q (by decide)
        · obtain ⟨c, hc, rfl⟩ := List.mem_map.mp hp
          rw [crossT_join] at q
          exact lit _ (join_dark (crossW_dark (ok.cn c hc) (ok.ck c hc))) q
      · obtain ⟨r, hr, rfl⟩ := List.mem_map.mp hp
        exact lit _ (join_dark (lineW_darkP ok hr)) q
    · rw [List.mem_singleton.mp hp] at q; exact absurd q (by decide)
  · rw [List.mem_singleton.mp hp] at q; exact absurd q (by decide)
/-- balanced at every crossing -/
theorem WorldP.ok {cs : List (Str × V)} {rs : List Rd} (h : WorldP cs rs) (h12 : (rs.filter (!·.two)).length ≤ 12) (e : ∀ c ∈ cs, sur cs rs c.1 = 0) : WorldOk cs rs := by
  refine ⟨h.lo, h.hi, h.cn, h.cd, h.ck, h.rn, h.rd, h.re, h.rm, h.st, h12, h.pl, h.tch, ?_⟩
  have inj : ∀ {l : List Nat} {x : Nat}, (∀ y ∈ l, y < cs.length) → x < cs.length → (l.map (nameAt cs)).count (nameAt cs x) = l.count x := by
    intro l x hl hx
    induction l with
    | nil => rfl
    | cons y r ih =>
      rw [List.map_cons, List.count_cons, List.count_cons, ih fun z hz => hl z (List.mem_cons_of_mem _ hz)]
      by_cases q : y = x
      · subst q; simp
      · have : nameAt cs y ≠ nameAt cs x := fun q2 => q (names_neP h (hl y List.mem_cons_self) hx q2)
        simp [q, this]
  have la : ∀ y ∈ (rs.filter (!·.two)).map (·.a), y < cs.length := fun y hy => by
    obtain ⟨r, hr, rfl⟩ := List.mem_map.mp hy
    exact (h.re r (List.mem_filter.mp hr).1).1
  have lb : ∀ y ∈ (rs.filter (!·.two)).map (·.b), y < cs.length := fun y hy => by
    obtain ⟨r, hr, rfl⟩ := List.mem_map.mp hy
    exact (h.re r (List.mem_filter.mp hr).1).2.1
  rw [List.perm_iff_count]
  intro x
  by_cases hx : x < cs.length
  · have h1 := inj la hx
    have h2 := inj lb hx
    have h3 := e _ (List.getElem_mem hx)
    rw [← nameAt_eq hx] at h3
    unfold sur outs ins at h3
    omega
  · rw [List.count_eq_zero_of_not_mem fun q => hx (la x q), List.count_eq_zero_of_not_mem fun q => hx (lb x q)]
/-- the first crossing that is not balanced -/
def unev (cs : List (Str × V)) (rs : List Rd) : Option Str := (cs.find? fun c => decide (sur cs rs c.1 ≠ 0)).map (·.1)
theorem unev_none {cs : List (Str × V)} {rs : List Rd} (h : unev cs rs = none) : ∀ c ∈ cs, sur cs rs c.1 = 0 := by
  unfold unev at h
  have h := Option.map_eq_none_iff.mp h
  intro c hc
  have := List.find?_eq_none.mp h c hc
  simpa using this
theorem WorldP.ev {cs : List (Str × V)} {rs : List Rd} (h : WorldP cs rs) (h12 : (rs.filter (!·.two)).length ≤ 12) (e : unev cs rs = none) : WorldOk cs rs := h.ok h12 (unev_none e)
theorem WorldOk.ev {cs : List (Str × V)} {rs : List Rd} (h : WorldOk cs rs) : unev cs rs = none := by
  unfold unev
  rw [List.find?_eq_none.mpr]
  · rfl
  · intro c _
    rw [sur_zero h]
    simp
theorem unev_at {cs : List (Str × V)} {rs : List Rd} {i : Nat} {c : Str × V} (hc : cs[i]? = some c) (h : sur cs rs c.1 ≠ 0) (hb : ∀ d ∈ cs.take i, sur cs rs d.1 = 0) : unev cs rs = some c.1 := by
  obtain ⟨hi, e⟩ := List.getElem?_eq_some_iff.mp hc
  have e1 : cs = cs.take i ++ c :: cs.drop (i + 1) := by
    rw [← e, List.getElem_cons_drop, List.take_append_drop]
  unfold unev
  rw [show (cs.find? fun c => decide (sur cs rs c.1 ≠ 0)) = some c from ?_]
  · rfl
  · rw [show cs.find? (fun c => decide (sur cs rs c.1 ≠ 0)) = (cs.take i ++ c :: cs.drop (i + 1)).find? (fun c => decide (sur cs rs c.1 ≠ 0)) from congrArg _ e1]
    rw [List.find?_append, List.find?_eq_none.mpr (fun d hd => by rw [hb d hd]; simp), List.find?_cons_of_pos (by simpa using h)]
    rfl
end BL
set_option maxRecDepth 100000
set_option maxHeartbeats 4000000
namespace K02
open PySem PySem.Spec PyProof.Rows L2 He BL SX
local macro_rules | `(tactic| walk_at "ar") => `(tactic| first
  | exact Or.inl ⟨by omega, by omega⟩
  | exact Or.inr ⟨by omega, by omega⟩
  | exact ⟨by omega, by omega⟩
  | exact ⟨by omega, by omega, by omega⟩
  | exact ⟨by decide, by decide, by decide⟩
  | exact Nat.le_of_ble_eq_true rfl
  | exact rfl
  | omega
  | decide
  | fail)
local macro_rules | `(tactic| walk_at "ne") => `(tactic| first
  | assumption
  | (apply Ne.symm; assumption)
  | (refine ne_of_none ?_ (by assumption); walk_at "hp")
  | (apply Ne.symm; refine ne_of_none ?_ (by assumption); walk_at "hp")
  | fail)
local macro_rules | `(tactic| walk_at "hp") => `(tactic| first
  | assumption
  | exact upd_same
  | (refine (upd_ne ?_).trans ?_; · walk_at "ne"; · walk_at "hp")
  | (refine BL.Kp.at (by assumption) ?_ ?_; · walk_at "hp"; · walk_at "ne")
  | (refine BL.Same.at (by assumption) ?_; walk_at "hp")
  | fail)
local macro_rules | `(tactic| walk_at "rd1") => `(tactic| first
  | refine ⟨_, rfl, ?_⟩
  | refine ⟨_, _, rfl, rfl, ?_⟩
  | refine Or.inl ⟨_, rfl, ?_⟩
  | (refine ⟨_, _, _, _, rfl, rfl, SqL.of (by walk_at "hp"), rfl, ?_⟩)
  | (refine ⟨_, _, _, _, rfl, rfl, (by walk_at "hp"), rfl, ?_⟩)
  | (refine And.intro (by walk_at "ar") ?_)
  | fail)
local macro_rules | `(tactic| walk_at "rd") => `(tactic| (walk_at "rd1"; repeat' walk_at "rd1"))

variable {P : Program} {w : World} {K : PySem.W.Frag} {mg : Str → Option Value} {base : Heap}
theorem sc__law_line : FnScope ["w", "r", "words"] ["w", "r"] (defScope s__law_line) := ⟨rfl, rfl, rfl, by decide +kernel, rfl, by decide +kernel, by decide +kernel⟩
abbrev sp__law_line : Sp := fun vs H Q _ => ∃ (w pc pr a : Addr) (cs : List (Addr × Str × V)) (rs : List (Addr × Rd)) (r : Rd), vs = [.ref w, .ref a] ∧ WAt H w pc pr cs rs ∧ H a = some (.tup r.tup) ∧ WorldP (cs.map (·.2)) (rs.map (·.2)) ∧ r ∈ rs.map (·.2) ∧
  ∀ H', L2.Same H H' → Q (.str (lineT (cs.map (·.2)) r)) H'
theorem cal__law_line (M : Md K mg) : C8.Cal P w K mg base 1 "_law_line" sp__law_line [] := by
  refine cal_of (F__law_line M) (g__law_line M) sc__law_line (fun _ _ _ _ _ _ us hl => match us, hl with | [_, _], _ => rfl) (fun vs H Q E h => ?_) (fun cdv A outer s H vs Q E hr h => ?_)
  · obtain ⟨w, pc, pr, a, cs, rs, r, rfl, _⟩ := h
    rfl
  · obtain ⟨w, pc, pr, a, cs, rs, r, rfl, hw, ha, ok, rm, k⟩ := h
    refine ⟨_, (pss_cons (ps_set (i := 2) sc__law_line.nd rfl (Or.inl rfl) (pe_lst (pa_cons (pe_ix ix_tup (pv 1) pe_int (fun _ _ => rfl)) (pa_cons (pe_ix ix_tup (pe_ix ix_list (pe_ix ix_list (pv 0) pe_int (fun _ _ => rfl)) (pe_ix ix_tup (pv 1) pe_int (fun _ _ => rfl)) (fun _ _ => rfl)) pe_int (fun _ _ => rfl)) (pa_cons (pe_ix ix_tup (pe_ix ix_list (pe_ix ix_list (pv 0) pe_int (fun _ _ => rfl)) (pe_ix ix_tup (pv 1) pe_int (fun _ _ => rfl)) (fun _ _ => rfl)) pe_int (fun _ _ => rfl)) (pa_cons (pe_callTy call_str_int (by rfl) (b_str M) (by decide +kernel) (pa_cons (pe_ix ix_tup (pv 1) pe_int (fun _ _ => rfl)) pa_nil)) pa_nil))))))
  (C8.pss_cut (ps_set (i := 2) sc__law_line.nd rfl (Or.inl rfl) (pe_ifExp (pt_cmpR op_eq (pe_ix ix_tup (pv 1) pe_int (fun _ _ => rfl)) pe_int (nomark _)) (pe_op op_cat (pe_op op_cat (pe_lst (pa_cons pe_str pa_nil)) (pv 2)) (pe_lst (pa_cons (pe_callTy call_str_int (by rfl) (b_str M) (by decide +kernel) (pa_cons (pe_ix ix_tup (pv 1) pe_int (fun _ _ => rfl)) pa_nil)) pa_nil))) (pe_op op_cat (pe_lst (pa_cons pe_str pa_nil)) (pv 2))))
  (pss_one (ps_ret (pe_join pe_str (pe_op op_cat (pv 2) (pe_lst (pa_cons (pe_callTy call_str_int (by rfl) (b_str M) (by decide +kernel) (pa_cons (pe_ix ix_tup (pv 1) pe_int (fun _ _ => rfl)) pa_nil)) (pa_cons (pe_callTy call_str_int (by rfl) (b_str M) (by decide +kernel) (pa_cons (pe_ix ix_tup (pv 1) pe_int (fun _ _ => rfl)) pa_nil)) pa_nil))))))))), ?_⟩
    have hl := lineW_leP ok rm
    have sl0 : sizeLine = 16777216 := rfl
    obtain ⟨hra, hrb, _⟩ := ok.re r rm
    obtain ⟨f0, f1, k0, k1, l1, r0, r1⟩ := ok.rm r rm
    have nm : ∀ i, (h : i < (cs.map (·.2)).length) → ∃ x : Addr × Str × V, x ∈ cs ∧ (cs.map fun x => V.ref x.1)[i]? = some (.ref x.1) ∧ x.2.1 = nameAt (cs.map (·.2)) i := by
      intro i h
      have h' : i < cs.length := by rw [List.length_map] at h; exact h
      refine ⟨cs[i]'h', List.getElem_mem _, by rw [List.getElem?_map, List.getElem?_eq_getElem h']; rfl, ?_⟩
      rw [nameAt_eq h, List.getElem_map]
    obtain ⟨xa, xam, xai, xan⟩ := nm r.a hra
    obtain ⟨xb, xbm, xbi, xbn⟩ := nm r.b hrb
    have st : ∀ {f : Nat}, f < 100 → ((f : Nat) : Int).natAbs.log2 < 1920 := fun h => small_log (by omega)
    obtain ⟨z, ia, ib, nf, nk, nl, nr, two⟩ := r
    refine ⟨_, rfl, a, _, 0, .str z, rfl, rfl, .of ha, at_of (j := 0) rfl rfl, ?_⟩
    refine ⟨_, rfl, w, _, 0, _, rfl, rfl, SqL.of hw.hw, at_of (j := 0) rfl rfl, _, rfl, a, _, 1, .int (ia : Nat), rfl, rfl, .of ha, at_of (j := 1) rfl rfl, pc, _, _, _, rfl, rfl, SqL.of hw.hc, at_of (j := ia) rfl xai, xa.1, _, 0, _, rfl, rfl, .of (hw.ca _ xam), at_of (j := 0) rfl rfl, ?_⟩
    refine ⟨_, rfl, w, _, 0, _, rfl, rfl, SqL.of hw.hw, at_of (j := 0) rfl rfl, _, rfl, a, _, 2, .int (ib : Nat), rfl, rfl, .of ha, at_of (j := 2) rfl rfl, pc, _, _, _, rfl, rfl, SqL.of hw.hc, at_of (j := ib) rfl xbi, xb.1, _, 0, _, rfl, rfl, .of (hw.ca _ xbm), at_of (j := 0) rfl rfl, ?_⟩
    refine ⟨_, rfl, a, _, 3, .int (nf : Nat), rfl, rfl, .of ha, at_of (j := 3) rfl rfl, _, rfl, st (f := nf) (Nat.lt_of_le_of_lt f1 (by decide)), ?_⟩
    rw [xan, xbn]
    refine ⟨Nat.le_of_ble_eq_true rfl, fun pw npw => ?_⟩
    -- the words ahead
    have s1 : ∀ {o}, L2.Same H (L2.upd H pw o) := fun {o} => Same.new npw
    refine ⟨fun σ H1 => ∃ p : Addr, σ = [some (.ref w), some (.ref a), some (.ref p)] ∧ L2.Same H H1 ∧ H1 p = some (.lst ((lineB (cs.map (·.2)) ⟨z, ia, ib, nf, nk, nl, nr, two⟩).map .str)), ?_, ?_⟩
    · generalize hH1 : L2.upd H pw _ = H1
      have s1 : L2.Same H H1 := by rw [← hH1]; exact Same.new npw
      have hpw : H1 pw = some (.lst ((lineA (cs.map (·.2)) ⟨z, ia, ib, nf, nk, nl, nr, two⟩).map .str)) := by rw [← hH1]; exact upd_same
      clear hH1
      refine ⟨_, rfl, a, _, 7, .int (if two = true then 1 else 0), rfl, rfl, .of (s1 _ _ ha), at_of (j := 7) rfl rfl, rfl, _, rfl, ?_⟩
      cases two with
      | true =>
        refine iteB (fun _ => ?_) (fun h => by cases h)
        refine ⟨Nat.le_of_ble_eq_true rfl, fun p1 n1 => ?_⟩
        have s2 := s1.trans (Same.new (o := .lst [.str "street"]) n1)
        have hpw2 := (Same.new (o := .lst [.str "street"]) n1) _ _ hpw
        refine ⟨_, rfl, p1, pw, _, _, rfl, rfl, upd_same, hpw2, Nat.le_of_ble_eq_true rfl, fun p2 n2 => ?_⟩
        have s3 := s2.trans (Same.new (o := .lst ([V.str "street"] ++ (lineA (cs.map (·.2)) ⟨z, ia, ib, nf, nk, nl, nr, true⟩).map .str)) n2)
        refine ⟨_, rfl, a, _, 4, .int (nk : Nat), rfl, rfl, .of (s3 _ _ ha), at_of (j := 4) rfl rfl, _, rfl, st (f := nk) (Nat.lt_of_le_of_lt k1 (by decide)), Nat.le_of_ble_eq_true rfl, fun p3 n3 => ?_⟩
        refine ⟨p2, p3, _, _, rfl, rfl, (upd_ne (ne_of_none upd_same n3)).trans upd_same, upd_same, Nat.le_of_ble_eq_true rfl, fun p4 n4 => ?_⟩
        exact ⟨p4, rfl, (s3.trans (Same.new n3)).trans (Same.new n4), upd_same⟩
      | false =>
        refine iteB (fun h => by cases h) (fun _ => ?_)
        refine ⟨Nat.le_of_ble_eq_true rfl, fun p1 n1 => ?_⟩
        have s2 := s1.trans (Same.new (o := .lst [.str "oneway"]) n1)
        have hpw2 := (Same.new (o := .lst [.str "oneway"]) n1) _ _ hpw
        refine ⟨_, rfl, p1, pw, _, _, rfl, rfl, upd_same, hpw2, Nat.le_of_ble_eq_true rfl, fun p2 n2 => ?_⟩
        exact ⟨p2, rfl, s2.trans (Same.new n2), upd_same⟩
    rintro σ H1 ⟨p, rfl, s1, hp⟩
    have bl : (lineB (cs.map (·.2)) ⟨z, ia, ib, nf, nk, nl, nr, two⟩).length ≤ 6 := by unfold lineB lineA; split <;> simp
    refine ⟨⟨_, rfl⟩, _, rfl, ?_⟩
    refine ⟨_, rfl, a, _, 5, .int (nl : Nat), rfl, rfl, .of (s1 _ _ ha), at_of (j := 5) rfl rfl, _, rfl, st (f := nl) (Nat.lt_of_le_of_lt l1 (by decide)), ?_⟩
    refine ⟨_, rfl, a, _, 6, .int (nr : Nat), rfl, rfl, .of (s1 _ _ ha), at_of (j := 6) rfl rfl, _, rfl, st (f := nr) (Nat.lt_of_le_of_lt r1 (by decide)), Nat.le_of_ble_eq_true rfl, fun p1 n1 => ?_⟩
    refine ⟨p, p1, _, _, rfl, rfl, (upd_ne (ne_of_none hp n1)).trans hp, upd_same, ?_, fun p2 n2 => ?_⟩
    · rw [List.length_map, sl0]; show _ + 2 ≤ _; omega
    have e : (lineB (cs.map (·.2)) ⟨z, ia, ib, nf, nk, nl, nr, two⟩).map V.str ++ [V.str (Str.ofString (toString ((nl : Nat) : Int))), V.str (Str.ofString (toString ((nr : Nat) : Int)))] = (lineW (cs.map (·.2)) ⟨z, ia, ib, nf, nk, nl, nr, two⟩).map V.str := by
      unfold lineW
      rw [List.map_append]; rfl
    rw [e]
    refine ⟨_, p2, _, rfl, rfl, .inl (SqL.of upd_same), ?_, ?_⟩
    · have h1 := sum_le hl
      have h2 := lineW_len (cs.map (·.2)) ⟨z, ia, ib, nf, nk, nl, nr, two⟩
      have h4 : (" " : Str).length = 1 := by decide
      rw [h4, Nat.mul_one]
      have : (lineW (cs.map (·.2)) ⟨z, ia, ib, nf, nk, nl, nr, two⟩).length * 8 ≤ 64 := by omega
      show _ ≤ 16777216
      omega
    exact k _ ((s1.trans (Same.new n1)).trans (Same.new n2))
end K02
set_option maxRecDepth 100000
set_option maxHeartbeats 4000000
namespace K02
open PySem PySem.Spec PyProof.Rows L2 He BL SX
local macro_rules | `(tactic| walk_at "ar") => `(tactic| first
  | exact Or.inl ⟨by omega, by omega⟩
  | exact Or.inr ⟨by omega, by omega⟩
  | exact ⟨by omega, by omega⟩
  | exact ⟨by omega, by omega, by omega⟩
  | exact ⟨by decide, by decide, by decide⟩
  | exact Nat.le_of_ble_eq_true rfl
  | exact rfl
  | omega
  | decide
  | fail)
local macro_rules | `(tactic| walk_at "ne") => `(tactic| first
  | assumption
  | (apply Ne.symm; assumption)
  | (refine ne_of_none ?_ (by assumption); walk_at "hp")
  | (apply Ne.symm; refine ne_of_none ?_ (by assumption); walk_at "hp")
  | fail)
local macro_rules | `(tactic| walk_at "hp") => `(tactic| first
  | assumption
  | exact upd_same
  | (refine (upd_ne ?_).trans ?_; · walk_at "ne"; · walk_at "hp")
  | (refine BL.Kp.at (by assumption) ?_ ?_; · walk_at "hp"; · walk_at "ne")
  | (refine BL.Same.at (by assumption) ?_; walk_at "hp")
  | fail)
local macro_rules | `(tactic| walk_at "rd1") => `(tactic| first
  | refine ⟨_, rfl, ?_⟩
  | refine ⟨_, _, rfl, rfl, ?_⟩
  | refine Or.inl ⟨_, rfl, ?_⟩
  | (refine ⟨_, _, _, _, rfl, rfl, SqL.of (by walk_at "hp"), rfl, ?_⟩)
  | (refine ⟨_, _, _, _, rfl, rfl, (by walk_at "hp"), rfl, ?_⟩)
  | (refine And.intro (by walk_at "ar") ?_)
  | fail)
local macro_rules | `(tactic| walk_at "rd") => `(tactic| (walk_at "rd1"; repeat' walk_at "rd1"))

variable {P : Program} {w : World} {K : PySem.W.Frag} {mg : Str → Option Value} {base : Heap}
theorem sc__law_lines : FnScope ["w", "r", "c"] ["w"] (defScope s__law_lines) := ⟨rfl, rfl, rfl, by decide +kernel, rfl, by decide +kernel, by decide +kernel⟩
abbrev sp__law_lines : Sp := fun vs H Q _ => ∃ (w pc pr : Addr) (cs : List (Addr × Str × V)) (rs : List (Addr × Rd)), vs = [.ref w] ∧ WAt H w pc pr cs rs ∧ WorldP (cs.map (·.2)) (rs.map (·.2)) ∧
  ∀ p H', L2.Same H H' → H' p = some (.lst ((linesT (cs.map (·.2)) (rs.map (·.2))).map .str)) → Q (.ref p) H'
theorem cal__law_lines (M : Md K mg) : C8.Cal P w K mg base 2 "_law_lines" sp__law_lines [] := by
  refine cal_of (F__law_lines M) (g__law_lines M) sc__law_lines (fun _ _ _ _ _ _ us hl => match us, hl with | [_], _ => rfl) (fun vs H Q E h => ?_) (fun cdv A outer s H vs Q E hr h => ?_)
  · obtain ⟨w, pc, pr, cs, rs, rfl, _⟩ := h
    rfl
  · obtain ⟨w, pc, pr, cs, rs, rfl, hw, ok, k⟩ := h
    refine ⟨_, (pss_one (ps_ret (pe_op op_cat (pe_op op_cat (pe_op op_cat (pe_lst (pa_cons pe_str pa_nil)) (pe_lc (own := [("c", 2)]) (g := (gName 2)) (tt := tYes) (te := (tOp (fun x y H Q => ∃ i j, x = .str i ∧ y = .str j ∧ i.length + j.length ≤ sizeLine ∧ Q (.str (i ++ j)) H) (tOp (fun x y H Q => ∃ i j, x = .str i ∧ y = .str j ∧ i.length + j.length ≤ sizeLine ∧ Q (.str (i ++ j)) H) (tOp (fun x y H Q => ∃ i j, x = .str i ∧ y = .str j ∧ i.length + j.length ≤ sizeLine ∧ Q (.str (i ++ j)) H) (tC (.str "cross ")) (tOp (rIxT K) (tVar 2) (tC (.int 0)))) (tC (.str " "))) (tCB BL.rStrAny (tCons (tOp (rIxT K) (tVar 2) (tC (.int 1))) tNil)))) rfl sc__law_lines.nd (pi_list (pe_ix ix_list (pv 0) pe_int (fun _ _ => rfl))) (blkOk_by (N := ["w", "r", "c"]) (by kernel_rfl)) (fun _ _ _ _ _ => (pg_name (i := 2) sc__law_lines.nd rfl (Or.inl rfl))) (fun _ _ _ _ _ => pts_nil) (fun _ _ _ _ _ => (pe_op op_add_str (pe_op op_add_str (pe_op op_add_str pe_str (pe_ix ix_tup (pv 2) pe_int (fun _ _ => rfl))) pe_str) (pe_callTy BL.call_str_any (by rfl) (b_str M) (by decide +kernel) (pa_cons (pe_ix ix_tup (pv 2) pe_int (fun _ _ => rfl)) pa_nil)))))) (pe_lc (own := [("r", 1)]) (g := (gName 1)) (tt := tYes) (te := (tCall (sp__law_line) [] E0 (tCons (tVar 0) (tCons (tVar 1) tNil)))) rfl sc__law_lines.nd (pi_list (pe_ix ix_list (pv 0) pe_int (fun _ _ => rfl))) (blkOk_by (N := ["w", "r", "c"]) (by kernel_rfl)) (fun _ _ _ _ _ => (pg_name (i := 1) sc__law_lines.nd rfl (Or.inl rfl))) (fun _ _ _ _ _ => pts_nil) (fun _ _ _ _ _ => (C8.pe_c (cal__law_line M) hr (by decide) rfl (pa_cons (pv 0) (pa_cons (pv 1) pa_nil)))))) (pe_lst (pa_cons pe_str pa_nil))))), ?_⟩
    have sl0 : sizeLine = 16777216 := rfl
    have csl : cs.length ≤ 24 := by have := ok.hi; rwa [List.length_map] at this
    have rsl : rs.length ≤ 49 := by
      have h1 := ok.st
      have h2 := ok.ow
      have h3 : ∀ l : List Rd, l.length = (l.filter (·.two)).length + (l.filter (!·.two)).length := by
        intro l
        induction l with
        | nil => rfl
        | cons r t ih => cases h : r.two <;> simp [List.filter_cons, h] <;> omega
      have := h3 (rs.map (·.2))
      rw [List.length_map] at this
      omega
    refine ⟨Nat.le_of_ble_eq_true rfl, fun p1 n1 => ?_⟩
    have s1 : L2.Same H (L2.upd H p1 (.lst [.str "town"])) := Same.new n1
    have hp1 : (L2.upd H p1 (.lst [.str "town"])) p1 = some (.lst ((["town"] : List Str).map .str)) := upd_same
    generalize (L2.upd H p1 (.lst [.str "town"])) = H1 at s1 hp1
    -- crossings
    refine ⟨_, rfl, w, _, 0, _, rfl, rfl, SqL.of (s1 _ _ hw.hw), at_of (j := 0) rfl rfl, pc, rfl, ⟨_, SqL.of (s1 _ _ hw.hc)⟩, fun D nD => ?_⟩
    refine lc_list (K := K) (a := pc) (xs := cs.map fun x => V.ref x.1) (fun i H2 => H2 = L2.upd H1 D (.lst ((((cs.take i).map (·.2)).map crossT).map .str))) rfl ?_ ?_ ?_
    · rintro i H2 _ rfl
      exact SqL.of ((Same.new nD) _ _ (s1 _ _ hw.hc))
    · rintro i x H2 hx rfl
      obtain ⟨c, hc, rfl⟩ := at_map hx
      have hcm := List.mem_of_getElem? hc
      have cno := (ok.cn _ (List.mem_map.mpr ⟨c, hcm, rfl⟩)).len
      have ckd := kindT_len (ok.ck _ (List.mem_map.mpr ⟨c, hcm, rfl⟩))
      have hcc := (Same.new nD (o := .lst ((((cs.take i).map (·.2)).map crossT).map .str))) _ _ (s1 _ _ (hw.ca c hcm))
      refine ⟨rfl, _, rfl, c.1, _, 0, .str c.2.1, rfl, rfl, .of hcc, at_of (j := 0) rfl rfl, ?_⟩
      have c6 : ("cross " : Str).length = 6 := by decide
      have c1 : (" " : Str).length = 1 := by decide
      refine ⟨_, _, rfl, rfl, by rw [c6, sl0]; omega, ?_⟩
      refine ⟨_, _, rfl, rfl, by rw [cat_len, c6, c1, sl0]; omega, ?_⟩
      refine ⟨_, rfl, c.1, _, 1, c.2.2, rfl, rfl, .of hcc, at_of (j := 1) rfl rfl, ?_⟩
      have put : ∃ acc, (L2.upd H1 D (.lst ((((cs.take i).map (·.2)).map crossT).map .str))) D = some (.lst acc) ∧ acc.length < sizeLine ∧ L2.upd (L2.upd H1 D (.lst ((((cs.take i).map (·.2)).map crossT).map .str))) D (.lst (acc ++ [.str (crossT c.2)])) = L2.upd H1 D (.lst ((((cs.take (i + 1)).map (·.2)).map crossT).map .str)) := by
        refine ⟨_, upd_same, ?_, ?_⟩
        · rw [List.length_map, List.length_map, List.length_map, List.length_take, sl0]; omega
        · rw [upd_upd, take_snoc hc, List.map_append, List.map_append, List.map_append]; rfl
      have lk : (("cross " : Str) ++ c.2.1 ++ (" " : Str)).length + (kindT c.2.2).length ≤ sizeLine := by rw [cat_len, cat_len, c6, c1, sl0]; omega
      obtain ⟨ca, cz, cv⟩ := c
      rcases ok.ck _ (List.mem_map.mpr ⟨_, hcm, rfl⟩) with ⟨n, e, h0, h1⟩ | e | e
      · have e : cv = .int n := e
        subst e
        exact .inl ⟨n, rfl, small_log (by omega), _, _, rfl, rfl, lk, put⟩
      · have e : cv = .str "never" := e
        subst e
        exact .inr ⟨_, rfl, _, _, rfl, rfl, lk, put⟩
      · have e : cv = .str "place" := e
        subst e
        exact .inr ⟨_, rfl, _, _, rfl, rfl, lk, put⟩
    rintro H2 rfl
    rw [List.length_map, List.take_length]
    have s2 : L2.Same H (L2.upd H1 D (.lst (((cs.map (·.2)).map crossT).map .str))) := s1.trans (Same.new nD)
    have nD1 : p1 ≠ D := ne_of_none hp1 nD
    refine ⟨p1, D, _, _, rfl, rfl, (upd_ne nD1).trans hp1, upd_same, by rw [List.length_map, List.length_map, List.length_map, List.length_map, sl0]; simp; omega, fun p2 n2 => ?_⟩
    rw [← List.map_append]
    have s3 := s2.trans (Same.new (o := .lst (((["town"] : List Str) ++ (cs.map (·.2)).map crossT).map .str)) n2)
    have hp3 : (L2.upd (L2.upd H1 D (.lst (((cs.map (·.2)).map crossT).map .str))) p2 (.lst (((["town"] : List Str) ++ (cs.map (·.2)).map crossT).map .str))) p2 = some (.lst (((["town"] : List Str) ++ (cs.map (·.2)).map crossT).map .str)) := upd_same
    generalize (L2.upd (L2.upd H1 D (.lst (((cs.map (·.2)).map crossT).map .str))) p2 (.lst (((["town"] : List Str) ++ (cs.map (·.2)).map crossT).map .str))) = H3 at s3 hp3
    clear s2 nD1 n2 s1 hp1 nD
    -- roads
    refine ⟨_, rfl, w, _, 1, _, rfl, rfl, SqL.of (s3 _ _ hw.hw), at_of (j := 1) rfl rfl, pr, rfl, ⟨_, SqL.of (s3 _ _ hw.hr)⟩, fun D nD => ?_⟩
    have sD : L2.Same H3 (L2.upd H3 D (.lst [])) := Same.new nD
    refine lc_list (K := K) (a := pr) (xs := rs.map fun x => V.ref x.1) (fun i H2 => L2.Same H3 H2 ∧ H2 D = some (.lst ((((rs.take i).map (·.2)).map (lineT (cs.map (·.2)))).map .str))) ⟨Same.new nD, upd_same⟩ ?_ ?_ ?_
    · rintro i H2 _ ⟨s4, _⟩
      exact SqL.of (s4 _ _ (s3 _ _ hw.hr))
    · rintro i x H2 hx ⟨s4, h4⟩
      obtain ⟨r, hr, rfl⟩ := at_map hx
      have hrm := List.mem_of_getElem? hr
      refine ⟨rfl, _, rfl, _, rfl, w, pc, pr, r.1, cs, rs, r.2, rfl, hw.kept (s3.trans s4), s4 _ _ (s3 _ _ (hw.ra r hrm)), ok, List.mem_map.mpr ⟨r, hrm, rfl⟩, fun H5 s5 => ?_⟩
      refine ⟨_, s5 _ _ h4, ?_, Same.put (s4.trans s5) nD, ?_⟩
      · rw [List.length_map, List.length_map, List.length_map, List.length_take, sl0]; omega
      · rw [upd_same, take_snoc hr, List.map_append, List.map_append, List.map_append]; rfl
    rintro H4 ⟨s4, h4⟩
    rw [List.length_map, List.take_length] at h4
    refine ⟨p2, D, _, _, rfl, rfl, s4 _ _ hp3, h4, by rw [List.length_map, List.length_map, List.length_map, List.length_map, List.length_append, List.length_map, List.length_map, sl0]; simp; omega, fun p5 n5 => ?_⟩
    rw [← List.map_append]
    refine ⟨Nat.le_of_ble_eq_true rfl, fun p6 n6 => ?_⟩
    refine ⟨p5, p6, _, _, rfl, rfl, (upd_ne (ne_of_none upd_same n6)).trans upd_same, upd_same, ?_, fun p7 n7 => ?_⟩
    · rw [List.length_map, List.length_append, List.length_append, List.length_map, List.length_map, List.length_map, List.length_map, sl0]; simp; omega
    refine k p7 _ (((s3.trans s4).trans (Same.new n5)).trans (Same.new n6) |>.trans (Same.new n7)) ?_
    rw [upd_same]
    unfold linesT
    rw [List.map_append (l₁ := (["town"] : List Str) ++ _ ++ _)]
    rfl
theorem sc__law_text : FnScope ["w"] ["w"] (defScope s__law_text) := ⟨rfl, rfl, rfl, by decide +kernel, rfl, by decide +kernel, by decide +kernel⟩
abbrev sp__law_text : Sp := fun vs H Q _ => ∃ (w pc pr : Addr) (cs : List (Addr × Str × V)) (rs : List (Addr × Rd)), vs = [.ref w] ∧ WAt H w pc pr cs rs ∧ WorldP (cs.map (·.2)) (rs.map (·.2)) ∧
  ∀ H', L2.Same H H' → Q (.str (textT (cs.map (·.2)) (rs.map (·.2)))) H'
theorem cal__law_text (M : Md K mg) : C8.Cal P w K mg base 3 "_law_text" sp__law_text [] := by
  refine cal_of (F__law_text M) (g__law_text M) sc__law_text (fun _ _ _ _ _ _ us hl => match us, hl with | [_], _ => rfl) (fun vs H Q E h => ?_) (fun cdv A outer s H vs Q E hr h => ?_)
  · obtain ⟨w, pc, pr, cs, rs, rfl, _⟩ := h
    rfl
  · obtain ⟨w, pc, pr, cs, rs, rfl, hw, ok, k⟩ := h
    refine ⟨_, (pss_one (ps_ret (pe_join pe_str (pe_op op_cat (C8.pe_c (cal__law_lines M) hr (by decide) rfl (pa_cons (pv 0) pa_nil)) (pe_lst (pa_cons pe_str pa_nil)))))), ?_⟩
    refine ⟨⟨_, rfl⟩, _, rfl, w, pc, pr, cs, rs, rfl, hw, ok, fun p H1 s1 h1 => ?_⟩
    refine ⟨Nat.le_of_ble_eq_true rfl, fun p2 n2 => ?_⟩
    obtain ⟨ll, lt⟩ := linesT_lenP ok
    refine ⟨p, p2, _, _, rfl, rfl, (upd_ne (ne_of_none h1 n2)).trans h1, upd_same, ?_, fun p3 n3 => ?_⟩
    · rw [List.length_map]
      show _ + 1 ≤ 16777216
      omega
    have e : (linesT (cs.map (·.2)) (rs.map (·.2))).map V.str ++ [V.str ""] = (linesT (cs.map (·.2)) (rs.map (·.2)) ++ ([""] : List Str)).map V.str := by rw [List.map_append]; rfl
    rw [e]
    refine ⟨_, p3, _, rfl, rfl, .inl (SqL.of upd_same), ?_, ?_⟩
    · have h4 : ("\n" : Str).length = 1 := by decide
      have h5 : ("" : Str).length = 0 := by decide
      rw [List.map_append, List.sum_append, List.length_append, h4, Nat.mul_one]
      show _ + (("" : Str).length + 0) + (_ + 1) ≤ 16777216
      omega
    exact k _ ((s1.trans (Same.new n2)).trans (Same.new n3))
end K02
set_option maxRecDepth 100000
set_option maxHeartbeats 1000000
namespace BL
open PySem PySem.Spec PyProof.Rows L2 SX He
inductive Out where
  | town
  | uneven (z : Str)
  | bad (n : Nat)
  | many
def badL : Str := "street 0 1 2 1 1 0 1"
theorem badL_split : Txt.split badL (" " : Str) = ([("street" : Str), "0", "1", "2", "1", "1", "0", "1"] : List Str) := by decide +kernel
def outE (K : PySem.W.Frag) (o : Out) (H : Hp) (E : XK) : Prop :=
  match o with
  | .town => True
  | .uneven z => ∀ d, H d = none → E (.ref (ga K "Uneven")) (some d) (L2.upd H d (.xd [(("crossing" : Str), .str z)]))
  | .bad n => ∀ d why, H d = none → E (.ref (ga K "BadTown")) (some d) (L2.upd H d (.xd [(("why" : Str), .str why), (("line" : Str), .int (n : Nat))]))
  | .many => ∀ d, H d = none → E (.ref (ga K "TooMany")) (some d) (L2.upd H d (.xd [(("count" : Str), .int 13), (("what" : Str), .str ("oneways" : Str))]))
def evenO (cs : List (Str × V)) (rs : List Rd) : Out := match unev cs rs with | none => .town | some c => .uneven c
/-- the lines of a text, the first `m` of which are those of a world; what comes of it -/
structure Rds (cs : List (Str × V)) (rs : List Rd) (z : Str) (ls : List Str) (m : Nat) (o : Out) : Prop where
  ok : WorldP cs rs
  zl : z.length ≤ 20000
  sp : Txt.split z "\n" = ls ++ ([""] : List Str)
  ll : ls.length ≤ 100
  ag : ∀ i, i < m → ls[i]? = (linesT cs rs)[i]?
  e : (m = ls.length ∧ ls = linesT cs rs ∧ z = textT cs rs ∧ ((12 < (rs.filter (!·.two)).length ∧ o = .many) ∨ ((rs.filter (!·.two)).length ≤ 12 ∧ o = evenO cs rs))) ∨ (1 ≤ m ∧ m < ls.length ∧ m ≤ cs.length + rs.length + 1 ∧ ls[m]? = some badL ∧ o = .bad (m + 1))
theorem Rds.town {cs : List (Str × V)} {rs : List Rd} {z : Str} {ls : List Str} {m : Nat} {o : Out} (r : Rds cs rs z ls m o) (e : o = .town) : z = textT cs rs ∧ (rs.filter (!·.two)).length ≤ 12 ∧ unev cs rs = none := by
  rcases r.e with ⟨_, _, h3, h | h⟩ | h
  · rw [h.2] at e; cases e
  · refine ⟨h3, h.1, ?_⟩
    rw [h.2] at e
    unfold evenO at e
    cases eu : unev cs rs with
    | none => rfl
    | some c => rw [eu] at e; cases e
  · rw [h.2.2.2.2] at e; cases e
def badT (cs : List (Str × V)) (rs : List Rd) (k : Nat) : Str := Txt.join "\n" (((linesT cs rs).take k ++ ([badL] : List Str)) ++ (linesT cs rs).drop k ++ ([""] : List Str))
theorem rds_text {cs : List (Str × V)} {rs : List Rd} (ok : WorldP cs rs) (h : (rs.filter (!·.two)).length ≤ 12) : Rds cs rs (textT cs rs) (linesT cs rs) (linesT cs rs).length (evenO cs rs) :=
  ⟨ok, textT_lenP ok, textT_splitP ok, Nat.le_trans (linesT_lenP ok).1 (by decide), fun _ _ => rfl, .inl ⟨rfl, rfl, rfl, .inr ⟨h, rfl⟩⟩⟩
theorem rds_many {cs : List (Str × V)} {rs : List Rd} (ok : WorldP cs rs) (h : 12 < (rs.filter (!·.two)).length) : Rds cs rs (textT cs rs) (linesT cs rs) (linesT cs rs).length .many :=
  ⟨ok, textT_lenP ok, textT_splitP ok, Nat.le_trans (linesT_lenP ok).1 (by decide), fun _ _ => rfl, .inl ⟨rfl, rfl, rfl, .inl ⟨h, rfl⟩⟩⟩
theorem lines_no10 {cs : List (Str × V)} {rs : List Rd} (ok : WorldP cs rs) {p : Str} (hp : p ∈ linesT cs rs) : 10 ∉ TL.tl p := by
  intro q
  have lit : ∀ z : Str, (∀ x ∈ TL.tl z, 32 ≤ x) → 10 ∉ TL.tl z := fun z h q => absurd (h _ q) (by decide)
  unfold linesT at hp
  rcases List.mem_append.mp hp with hp | hp
  · rcases List.mem_append.mp hp with hp | hp
    · rcases List.mem_append.mp hp with hp | hp
      · rw [List.mem_singleton.mp hp] at q; exact absurd q (by decide)
      · obtain ⟨c, hc, rfl⟩ := List.mem_map.mp hp
        rw [crossT_join] at q
        exact lit _ (join_dark (crossW_dark (ok.cn c hc) (ok.ck c hc))) q
    · obtain ⟨r, hr, rfl⟩ := List.mem_map.mp hp
      exact lit _ (join_dark (lineW_darkP ok hr)) q
  · rw [List.mem_singleton.mp hp] at q; exact absurd q (by decide)
theorem rds_bad {cs : List (Str × V)} {rs : List Rd} (ok : WorldP cs rs) {k : Nat} (h1 : 1 ≤ k) (h2 : k ≤ cs.length + rs.length + 1) :
    Rds cs rs (badT cs rs k) (((linesT cs rs).take k ++ ([badL] : List Str)) ++ (linesT cs rs).drop k) k (.bad (k + 1)) := by
  have hl : (linesT cs rs).length = cs.length + rs.length + 2 := linesT_length cs rs
  have kl : k ≤ (linesT cs rs).length := by omega
  have tl : ((linesT cs rs).take k).length = k := by rw [List.length_take]; omega
  obtain ⟨l1, l2⟩ := linesT_lenP ok
  refine ⟨ok, ?_, ?_, ?_, ?_, .inr ⟨h1, ?_, h2, ?_, rfl⟩⟩
  · have h3 := join_len "\n" (((linesT cs rs).take k ++ ([badL] : List Str)) ++ (linesT cs rs).drop k ++ ([""] : List Str))
    have h4 : ("\n" : Str).length = 1 := by decide
    have h6 : (([badL] : List Str).map (·.length)).sum = 20 := by decide +kernel
    have h7 : ((([""] : List Str).map (·.length)).sum) = 0 := by decide
    have h8 : (((linesT cs rs).take k).map (·.length)).sum + (((linesT cs rs).drop k).map (·.length)).sum = ((linesT cs rs).map (·.length)).sum := by
      rw [← List.sum_append, ← List.map_append, List.take_append_drop]
    simp only [List.map_append, List.sum_append, List.length_append, h4, h6, h7, Nat.mul_one, tl, List.length_drop, List.length_cons, List.length_nil] at h3
    show (Txt.join "\n" _).length ≤ 20000
    omega
  · refine TL.split_join (s := 10) (S := []) (by decide) (by decide +kernel) (by simp) fun p hp => ?_
    rcases List.mem_append.mp hp with hp | hp
    · rcases List.mem_append.mp hp with hp | hp
      · rcases List.mem_append.mp hp with hp | hp
        · exact lines_no10 ok (List.mem_of_mem_take hp)
        · rw [List.mem_singleton.mp hp]; decide +kernel
      · exact lines_no10 ok (List.mem_of_mem_drop hp)
    · rw [List.mem_singleton.mp hp]; decide
  · simp only [List.length_append, tl, List.length_drop, List.length_cons, List.length_nil]
    omega
  · intro i hi
    rw [List.append_assoc, List.getElem?_append_left (by omega), List.getElem?_take, if_pos hi]
  · simp only [List.length_append, tl, List.length_drop, List.length_cons, List.length_nil]
    omega
  · rw [List.append_assoc, List.getElem?_append_right (by omega), tl, Nat.sub_self]; rfl
end BL
set_option maxRecDepth 100000
set_option maxHeartbeats 4000000
namespace K02
open PySem PySem.Spec PyProof.Rows L2 He BL SX
local macro_rules | `(tactic| walk_at "ar") => `(tactic| first
  | exact Or.inl ⟨by omega, by omega⟩
  | exact Or.inr ⟨by omega, by omega⟩
  | exact ⟨by omega, by omega⟩
  | exact ⟨by omega, by omega, by omega⟩
  | exact ⟨by decide, by decide, by decide⟩
  | exact Nat.le_of_ble_eq_true rfl
  | exact rfl
  | omega
  | decide
  | fail)
local macro_rules | `(tactic| walk_at "ne") => `(tactic| first
  | assumption
  | (apply Ne.symm; assumption)
  | (refine ne_of_none ?_ (by assumption); walk_at "hp")
  | (apply Ne.symm; refine ne_of_none ?_ (by assumption); walk_at "hp")
  | fail)
local macro_rules | `(tactic| walk_at "hp") => `(tactic| first
  | assumption
  | exact upd_same
  | (refine (upd_ne ?_).trans ?_; · walk_at "ne"; · walk_at "hp")
  | (refine BL.Kp.at (by assumption) ?_ ?_; · walk_at "hp"; · walk_at "ne")
  | (refine BL.Same.at (by assumption) ?_; walk_at "hp")
  | fail)
local macro_rules | `(tactic| walk_at "rd1") => `(tactic| first
  | refine ⟨_, rfl, ?_⟩
  | refine ⟨_, _, rfl, rfl, ?_⟩
  | refine Or.inl ⟨_, rfl, ?_⟩
  | (refine ⟨_, _, _, _, rfl, rfl, SqL.of (by walk_at "hp"), rfl, ?_⟩)
  | (refine ⟨_, _, _, _, rfl, rfl, (by walk_at "hp"), rfl, ?_⟩)
  | (refine And.intro (by walk_at "ar") ?_)
  | fail)
local macro_rules | `(tactic| walk_at "rd") => `(tactic| (walk_at "rd1"; repeat' walk_at "rd1"))

variable {P : Program} {w : World} {K : PySem.W.Frag} {mg : Str → Option Value} {base : Heap}
theorem sc_check_text : FnScope ["text"] ["text"] (defScope s_check_text) := ⟨rfl, rfl, rfl, by decide +kernel, rfl, by decide +kernel, by decide +kernel⟩
abbrev sp_check_text : Sp := fun vs H Q _ => ∃ z : Str, vs = [.str z] ∧ z.length ≤ 20000 ∧ Q .non H
theorem cal_check_text (M : Md K mg) : C8.Cal P w K mg base 1 "check_text" sp_check_text [] := by
  refine cal_of (F_check_text M) (g_check_text M) sc_check_text (fun _ _ _ _ _ _ us hl => match us, hl with | [_], _ => rfl) (fun vs H Q E h => ?_) (fun cdv A outer s H vs Q E hr h => ?_)
  · obtain ⟨z, rfl, _⟩ := h
    rfl
  · obtain ⟨z, rfl, hz, k⟩ := h
    refine ⟨_, (pss_one (ps_if (pt_cmpR op_gt (pe_callB call_len_str (by rfl) (b_len M) PySem.boot_len (pa_cons (pv 0) pa_nil)) (C8.pe_gc rfl (k_TEXT_LIMIT M)) (nomark _)) (pss_one ps_never) pss_nil)), ?_⟩
    refine ⟨_, rfl, ⟨_, rfl, Nat.le_trans hz (by decide), ?_⟩⟩
    refine ⟨_, 20000, rfl, rfl, _, rfl, iteD (fun e => ?_) (fun _ => k)⟩
    have e : (20000 : Int) < (z.length : Int) := e
    omega
theorem sc_TooMany___init__ : FnScope ["self", "what", "count"] ["self", "what", "count"] (defScope s_TooMany___init__) := ⟨rfl, rfl, rfl, by decide +kernel, rfl, by decide +kernel, by decide +kernel⟩
theorem err_TooMany (M : Md K mg) : ErrC P w K mg base 1 "TooMany" (spE2 (ga K "TooMany") "what" "count") := by
  refine err_of (V_TooMany M) (kg_TooMany M) (F_TooMany___init__ M) sc_TooMany___init__ (fun _ _ _ _ _ _ us hl => match us, hl with | [_, _, _], _ => rfl) (fun vs H Q E h => ?_) (fun cdv A outer s H vs Q E hr h => ?_)
  · obtain ⟨a, x, y, rfl, _⟩ := h
    rfl
  · obtain ⟨a, x, y, rfl, ha, k⟩ := h
    refine ⟨_, pss_cons (ps_ost (pv 0) (pv 1)) (pss_one (ps_ost (pv 0) (pv 2))), ?_⟩
    refine ⟨_, rfl, _, rfl, a, ga K "TooMany", rfl, (V_TooMany M).o, NF_TooMany_what M, .inl ⟨ha, fun dx ndx ne => ?_⟩⟩
    exact ⟨_, rfl, _, rfl, a, ga K "TooMany", rfl, (V_TooMany M).o, NF_TooMany_count M, .inr ⟨dx, _, upd_same, (upd_ne ne).trans upd_same, Nat.le_of_ble_eq_true rfl, k dx ndx ne⟩⟩
theorem sc_check_sizes : FnScope ["crossings", "streets", "oneways"] ["crossings", "streets", "oneways"] (defScope s_check_sizes) := ⟨rfl, rfl, rfl, by decide +kernel, rfl, by decide +kernel, by decide +kernel⟩
abbrev sp_check_sizes (K : PySem.W.Frag) : Sp := fun vs H Q E => ∃ a b c : Int, vs = [.int a, .int b, .int c] ∧ a ≤ 24 ∧ b ≤ 36 ∧ c ≤ 13 ∧ (c ≤ 12 → Q .non H) ∧ (12 < c → outE K .many H E)
theorem calX_check_sizes (M : Md K mg) : BL.CalX P w K mg base 3 "check_sizes" (sp_check_sizes K) := by
  refine calX_of (F_check_sizes M) (g_check_sizes M) sc_check_sizes (fun _ _ _ _ _ _ us hl => match us, hl with | [_, _, _], _ => rfl) (fun vs H Q E h => ?_) (fun cdv A outer s H vs Q E hr h => ?_)
  · obtain ⟨a, b, c, rfl, _⟩ := h
    rfl
  · obtain ⟨a, b, c, rfl, ha, hb, hc, k, ke⟩ := h
    refine ⟨_, (pss_cons (ps_if (pt_cmpR op_gt (pv 0) (C8.pe_gc rfl (k_CROSSING_LIMIT M)) (nomark _)) (pss_one (ps_raiseE rfl (err_TooMany M) hr (by decide) (takes_of rfl rfl rfl rfl) rfl (pa_cons pe_str (pa_cons (pv 0) pa_nil)))) pss_nil)
  (pss_cons (ps_if (pt_cmpR op_gt (pv 1) (C8.pe_gc rfl (k_STREET_LIMIT M)) (nomark _)) (pss_one (ps_raiseE rfl (err_TooMany M) hr (by decide) (takes_of rfl rfl rfl rfl) rfl (pa_cons pe_str (pa_cons (pv 1) pa_nil)))) pss_nil)
  (pss_one (ps_if (pt_cmpR op_gt (pv 2) (C8.pe_gc rfl (k_ONEWAY_LIMIT M)) (nomark _)) (pss_one (ps_raiseE rfl (err_TooMany M) hr (by decide) (takes_of rfl rfl rfl rfl) rfl (pa_cons pe_str (pa_cons (pv 2) pa_nil)))) pss_nil)))), ?_⟩
    refine ⟨_, rfl, _, 24, rfl, rfl, _, rfl, iteD (fun e => ?_) (fun _ => ?_)⟩
    · have e : (24 : Int) < a := e
      omega
    refine ⟨_, rfl, _, 36, rfl, rfl, _, rfl, iteD (fun e => ?_) (fun _ => ?_)⟩
    · have e : (36 : Int) < b := e
      omega
    refine ⟨_, rfl, _, 12, rfl, rfl, _, rfl, iteD (fun e => ?_) (fun e => k ?_)⟩
    · have e : (12 : Int) < c := e
      have ec : c = 13 := by omega
      subst ec
      exact raise2 (fun Q q => ⟨_, rfl, q⟩) fun d nd => ke e d nd
    · have e : ¬ (12 : Int) < c := e
      omega
theorem sc_lines_of : FnScope ["text", "pieces"] ["text"] (defScope s_lines_of) := ⟨rfl, rfl, rfl, by decide +kernel, rfl, by decide +kernel, by decide +kernel⟩
abbrev sp_lines_of : Sp := fun vs H Q _ => ∃ (z : Str) (ls : List Str), vs = [.str z] ∧ z.length ≤ 20000 ∧ Txt.split z "\n" = ls ++ ([""] : List Str) ∧ ls.length ≤ 100 ∧ ∀ t p H', L2.Same H H' → H' t = some (.tup [.ref p, .str ""]) → H' p = some (.lst (ls.map .str)) → Q (.ref t) H'
theorem cal_lines_of (M : Md K mg) : C8.Cal P w K mg base 1 "lines_of" sp_lines_of [] := by
  refine cal_of (F_lines_of M) (g_lines_of M) sc_lines_of (fun _ _ _ _ _ _ us hl => match us, hl with | [_], _ => rfl) (fun vs H Q E h => ?_) (fun cdv A outer s H vs Q E hr h => ?_)
  · obtain ⟨z, ls, rfl, _⟩ := h
    rfl
  · obtain ⟨z, ls, rfl, hz, hs, hl, k⟩ := h
    refine ⟨_, (pss_cons (ps_set (i := 1) sc_lines_of.nd rfl (Or.inl rfl) (pe_split (pv 0) pe_str))
  (pss_one (ps_ret (pe_tup (pa_cons (pe_slice sl_list (pv 1) po_none (po_some (pe_un un_neg pe_int))) (pa_cons (pe_ix ix_list (pv 1) (pe_un un_neg pe_int) (fun _ _ => rfl)) pa_nil)))))), ?_⟩
    refine ⟨_, rfl, ⟨_, rfl⟩, _, _, rfl, rfl, by decide, ?_, fun p np => ?_⟩
    · show _ + 2 ≤ 16777216
      omega
    rw [hs]
    have e1 : cutV ((ls ++ ([""] : List Str)).map V.str) none (some (-1)) = ls.map V.str := cut_last ls ""
    refine ⟨_, rfl, _, rfl, _, rfl, p, _, rfl, SqL.of upd_same, fun p2 n2 => ?_⟩
    refine ⟨_, rfl, _, rfl, p, _, _, .str "", rfl, rfl, SqL.of ((upd_ne (ne_of_none upd_same n2)).trans upd_same), at_last ls "", ?_⟩
    refine ⟨Nat.le_of_ble_eq_true rfl, fun t nt => ?_⟩
    refine k t p2 _ (((Same.new np).trans (Same.new n2)).trans (Same.new nt)) upd_same ((upd_ne (ne_of_none upd_same nt)).trans ?_)
    rw [← e1]
    exact upd_same
end K02
set_option maxRecDepth 100000
set_option maxHeartbeats 4000000
namespace K02
open PySem PySem.Spec PyProof.Rows L2 He BL SX
local macro_rules | `(tactic| walk_at "ar") => `(tactic| first
  | exact Or.inl ⟨by omega, by omega⟩
  | exact Or.inr ⟨by omega, by omega⟩
  | exact ⟨by omega, by omega⟩
  | exact ⟨by omega, by omega, by omega⟩
  | exact ⟨by decide, by decide, by decide⟩
  | exact Nat.le_of_ble_eq_true rfl
  | exact rfl
  | omega
  | decide
  | fail)
local macro_rules | `(tactic| walk_at "ne") => `(tactic| first
  | assumption
  | (apply Ne.symm; assumption)
  | (refine ne_of_none ?_ (by assumption); walk_at "hp")
  | (apply Ne.symm; refine ne_of_none ?_ (by assumption); walk_at "hp")
  | fail)
local macro_rules | `(tactic| walk_at "hp") => `(tactic| first
  | assumption
  | exact upd_same
  | (refine (upd_ne ?_).trans ?_; · walk_at "ne"; · walk_at "hp")
  | (refine BL.Kp.at (by assumption) ?_ ?_; · walk_at "hp"; · walk_at "ne")
  | (refine BL.Same.at (by assumption) ?_; walk_at "hp")
  | fail)
local macro_rules | `(tactic| walk_at "rd1") => `(tactic| first
  | refine ⟨_, rfl, ?_⟩
  | refine ⟨_, _, rfl, rfl, ?_⟩
  | refine Or.inl ⟨_, rfl, ?_⟩
  | (refine ⟨_, _, _, _, rfl, rfl, SqL.of (by walk_at "hp"), rfl, ?_⟩)
  | (refine ⟨_, _, _, _, rfl, rfl, (by walk_at "hp"), rfl, ?_⟩)
  | (refine And.intro (by walk_at "ar") ?_)
  | fail)
local macro_rules | `(tactic| walk_at "rd") => `(tactic| (walk_at "rd1"; repeat' walk_at "rd1"))

variable {P : Program} {w : World} {K : PySem.W.Frag} {mg : Str → Option Value} {base : Heap}
theorem sc_is_name : FnScope ["word", "sign"] ["word"] (defScope s_is_name) := ⟨rfl, rfl, rfl, by decide +kernel, rfl, by decide +kernel, by decide +kernel⟩
abbrev sp_is_name : Sp := fun vs H Q _ => ∃ z : Str, vs = [.str z] ∧ ((NameOk z ∧ ∀ H', L2.Same H H' → Q (.bl true) H') ∨ (z = "0" ∧ Q (.bl false) H))
theorem cal_is_name (M : Md K mg) : C8.Cal P w K mg base 1 "is_name" sp_is_name [] := by
  refine cal_of (F_is_name M) (g_is_name M) sc_is_name (fun _ _ _ _ _ _ us hl => match us, hl with | [_], _ => rfl) (fun vs H Q E h => ?_) (fun cdv A outer s H vs Q E hr h => ?_)
  · obtain ⟨z, rfl, _⟩ := h
    rfl
  · obtain ⟨z, rfl, h⟩ := h
    refine ⟨_, (pss_cons (ps_if (PW.pt (pw_or (pt_cmpR op_eq (pv 0) pe_str (nomark _)) (pw_or (pt_cmpR op_gt (pe_callB call_len_str (by rfl) (b_len M) PySem.boot_len (pa_cons (pv 0) pa_nil)) (C8.pe_gc rfl (k_NAME_LENGTH M)) (nomark _)) (pw_or1 (pt_cmpR op_in_seq (pv 0) (C8.pe_gc rfl (k_RESERVED M)) (by rfl)))))) (pss_one (ps_ret pe_bl)) pss_nil)
  (pss_cons (ps_if (pt_cmpR op_notIn_sign (pe_ix ix_str (pv 0) pe_int (fun _ _ => rfl)) (C8.pe_gc rfl (k_LETTERS M)) (by rfl)) (pss_one (ps_ret pe_bl)) pss_nil)
  (pss_one (ps_ret (pe_callB (cr_all rfl) (by rfl) (b_all M) (by decide +kernel) (pa_cons (pe_lc (own := [("sign", 1)]) (g := (gName 1)) (tt := tYes) (te := (tOrV (tOp BL.rInC (tVar 1) (tC (kv_LETTERS K))) (tOp BL.rInC (tVar 1) (tC (kv_DIGITS K))))) rfl sc_is_name.nd (pi_str (pv 0)) (blkOk_by (N := ["word", "sign"]) (by kernel_rfl)) (fun _ _ _ _ _ => (pg_name (i := 1) sc_is_name.nd rfl (Or.inl rfl))) (fun _ _ _ _ _ => pts_nil) (fun _ _ _ _ _ => (pe_or (pe_cmpR op_in_sign (pv 1) (C8.pe_gc rfl (k_LETTERS M)) (by rfl)) (pe_one (pe_cmpR op_in_sign (pv 1) (C8.pe_gc rfl (k_DIGITS M)) (by rfl)))))) pa_nil)))))), ?_⟩
    rcases h with ⟨hz, k⟩ | ⟨rfl, k⟩
    rotate_left
    · refine ⟨_, rfl, rfl, _, rfl, iteS (fun e => absurd e (by decide)) (fun _ => ?_)⟩
      refine ⟨_, rfl, ⟨_, rfl, by decide, ⟨_, 8, rfl, rfl, _, rfl, iteD (fun e => absurd e (by decide)) (fun _ => ?_)⟩⟩⟩
      have kt : ∀ H, SqT K H (ga K "RESERVED") (keptW.map V.str) := fun H => kt_RESERVED M H
      refine ⟨_, rfl, _, _, rfl, .inr (kt _), rfl, flat_strs _, _, rfl, ?_⟩
      rw [inV_str]
      have n0 : ("0" : Str) ∉ keptW := by decide +kernel
      refine iteD (fun e => absurd e n0) (fun _ => ?_)
      refine ⟨_, rfl, _, 0, 48, rfl, rfl, by decide, atT_of (j := 0) rfl rfl, ⟨48, _, rfl, rfl, _, rfl, iteDN (fun _ => ?_) (fun e => absurd e (by decide +kernel))⟩⟩
      exact k
    have zl := hz.len
    have sl0 : sizeLine = 16777216 := rfl
    have kt : ∀ H, SqT K H (ga K "RESERVED") (keptW.map V.str) := fun H => kt_RESERVED M H
    obtain ⟨c, r, rfl, hc, hr7, hrs, hnk⟩ := hz
    refine ⟨_, rfl, rfl, _, rfl, iteS (fun e => ?_) (fun _ => ?_)⟩
    · rw [e] at zl
      exact absurd zl.2 (by decide)
    refine ⟨_, rfl, ⟨_, rfl, by omega, ⟨_, 8, rfl, rfl, _, rfl, iteD (fun e => ?_) (fun _ => ?_)⟩⟩⟩
    · have e : (8 : Int) < ((S (c :: r)).length : Int) := e
      omega
    refine ⟨_, rfl, _, _, rfl, .inr (kt _), rfl, flat_strs _, _, rfl, ?_⟩
    rw [inV_str]
    refine iteD (fun e => absurd e hnk) (fun _ => ?_)
    refine ⟨_, rfl, _, 0, c, rfl, rfl, by omega, atT_of (j := 0) rfl rfl, ⟨c, _, rfl, rfl, _, rfl, iteDN (fun e => absurd (let_in c hc) e) (fun _ => ?_)⟩⟩
    refine ⟨_, rfl, _, rfl, fun D nD => ?_⟩
    refine lc_it walk_str (fun i H1 => H1 = L2.upd H D (.lst ((List.replicate i true).map V.bl)) ∧ i ≤ (S (c :: r)).cps.size) ⟨rfl, Nat.zero_le _⟩ (fun _ _ _ _ => trivial) ?_ ?_
    · rintro i x H1 H2 hi ⟨rfl, _⟩ ⟨rfl, d, hd, rfl⟩
      have hdm : isLet d ∨ isDig d := by
        have : d ∈ c :: r := by
          rw [Array.getElem?_eq_some_iff] at hd
          obtain ⟨h1, h2⟩ := hd
          rw [← h2]
          have := Array.getElem_mem h1
          exact Array.mem_toList_iff.mpr this
        rcases List.mem_cons.mp this with q | q
        · rw [q]; exact .inl hc
        · exact hrs d q
      have put : ∃ acc, (L2.upd H D (.lst ((List.replicate i true).map V.bl))) D = some (.lst acc) ∧ acc.length < sizeLine ∧ L2.upd (L2.upd H D (.lst ((List.replicate i true).map V.bl))) D (.lst (acc ++ [.bl true])) = L2.upd H D (.lst ((List.replicate (i + 1) true).map V.bl)) ∧ i + 1 ≤ (S (c :: r)).cps.size := by
        refine ⟨_, upd_same, ?_, ?_, hi⟩
        · rw [List.length_map, List.length_replicate, sl0]
          have : (S (c :: r)).cps.size = (S (c :: r)).length := rfl
          omega
        · rw [upd_upd, ← rep_snoc, List.map_append]; rfl
      refine ⟨rfl, _, rfl, d, _, rfl, rfl, _, rfl, iteD (fun _ => put) (fun e => ?_)⟩
      have hdd : isDig d := hdm.resolve_left fun q => e (let_in d q)
      refine ⟨_, rfl, d, _, rfl, rfl, ?_⟩
      rw [decide_eq_true (dig_in d hdd)]
      exact put
    · rintro H1 ⟨rfl, _⟩
      refine ⟨D, _, rfl, SqL.of upd_same, ?_⟩
      rw [rep_all]
      exact k _ (Same.new nD)
theorem sc_number_in : FnScope ["word", "least", "most", "number", "sign"] ["word", "least", "most"] (defScope s_number_in) := ⟨rfl, rfl, rfl, by decide +kernel, rfl, by decide +kernel, by decide +kernel⟩
abbrev sp_number_in : Sp := fun vs H Q _ => ∃ (n : Nat) (lo hi : Int), vs = [.str (num n), .int lo, .int hi] ∧ n < 100 ∧ lo ≤ n ∧ n ≤ hi ∧ ∀ H', L2.Same H H' → Q (.int n) H'
theorem cal_number_in (M : Md K mg) : C8.Cal P w K mg base 1 "number_in" sp_number_in [] := by
  refine cal_of (F_number_in M) (g_number_in M) sc_number_in (fun _ _ _ _ _ _ us hl => match us, hl with | [_, _, _], _ => rfl) (fun vs H Q E h => ?_) (fun cdv A outer s H vs Q E hr h => ?_)
  · obtain ⟨n, lo, hi, rfl, _⟩ := h
    rfl
  · obtain ⟨n, lo, hi, rfl, hn, h1, h2, k⟩ := h
    refine ⟨_, (pss_cons (ps_if (PW.pt (pw_or (pt_cmpR op_eq (pv 0) pe_str (nomark _)) (pw_or1 (pt_cmpR op_gt (pe_callB call_len_str (by rfl) (b_len M) PySem.boot_len (pa_cons (pv 0) pa_nil)) (C8.pe_gc rfl (k_NUMBER_LENGTH M)) (nomark _))))) (pss_one (ps_ret pe_non)) pss_nil)
  (pss_cons (ps_if (pt_val (pe_callB (cr_any rfl) (by rfl) (b_any M) (by decide +kernel) (pa_cons (pe_lc (own := [("sign", 4)]) (g := (gName 4)) (tt := tYes) (te := (tOp BL.rNotInC (tVar 4) (tC (kv_DIGITS K)))) rfl sc_number_in.nd (pi_str (pv 0)) (blkOk_by (N := ["word", "least", "most", "number", "sign"]) (by kernel_rfl)) (fun _ _ _ _ _ => (pg_name (i := 4) sc_number_in.nd rfl (Or.inl rfl))) (fun _ _ _ _ _ => pts_nil) (fun _ _ _ _ _ => (pe_cmpR op_notIn_sign (pv 4) (C8.pe_gc rfl (k_DIGITS M)) (by rfl)))) pa_nil))) (pss_one (ps_ret pe_non)) pss_nil)
  (pss_cons (ps_if (PW.pt (pw_and (pt_cmpR op_eq (pe_ix ix_str (pv 0) pe_int (fun _ _ => rfl)) pe_str (nomark _)) (pw_and1 (pt_cmpR op_gt (pe_callB call_len_str (by rfl) (b_len M) PySem.boot_len (pa_cons (pv 0) pa_nil)) pe_int (nomark _))))) (pss_one (ps_ret pe_non)) pss_nil)
  (pss_cons (ps_set (i := 3) sc_number_in.nd rfl (Or.inl rfl) (pe_callTy call_int_str (by rfl) (b_int M) (by decide +kernel) (pa_cons (pv 0) pa_nil)))
  (pss_cons (ps_if (pt_chain op_le op_le (pv 1) (pv 3) (pv 2)) (pss_one (ps_ret (pv 3))) pss_nil)
  (pss_one (ps_ret pe_non))))))), ?_⟩
    obtain ⟨f1, f2, f3, f4⟩ := num_facts n hn
    have nl := num_len hn
    have sl0 : sizeLine = 16777216 := rfl
    refine ⟨_, rfl, rfl, _, rfl, iteS (fun e => absurd e f1) (fun _ => ?_)⟩
    refine ⟨_, rfl, ⟨_, rfl, by omega, ⟨_, 9, rfl, rfl, _, rfl, iteD (fun e => ?_) (fun _ => ?_)⟩⟩⟩
    · have e : (9 : Int) < ((num n).length : Int) := e
      omega
    refine ⟨_, rfl, _, rfl, fun D nD => ?_⟩
    refine lc_it walk_str (fun i H1 => H1 = L2.upd H D (.lst ((List.replicate i false).map V.bl)) ∧ i ≤ (num n).cps.size) ⟨rfl, Nat.zero_le _⟩ (fun _ _ _ _ => trivial) ?_ ?_
    · rintro i x H1 H2 hi ⟨rfl, _⟩ ⟨rfl, d, hd, rfl⟩
      have hdm := f2 d (by
        rw [Array.getElem?_eq_some_iff] at hd
        obtain ⟨h1, h2⟩ := hd
        rw [← h2]
        exact Array.mem_toList_iff.mpr (Array.getElem_mem h1))
      refine ⟨rfl, _, rfl, d, _, rfl, rfl, ?_⟩
      rw [decide_eq_true hdm]
      refine ⟨_, upd_same, ?_, ?_, hi⟩
      · rw [List.length_map, List.length_replicate, sl0]
        have : (num n).cps.size = (num n).length := rfl
        omega
      · rw [upd_upd, ← rep_snoc, List.map_append]; rfl
    · rintro H1 ⟨rfl, _⟩
      refine ⟨D, _, rfl, SqL.of upd_same, ?_⟩
      rw [rep_any]
      refine ⟨_, rfl, iteB (fun e => by cases e) (fun _ => ?_)⟩
      have nc : (num n).cps.toList.length = (num n).length := by rw [Array.length_toList]; rfl
      obtain ⟨c, hc⟩ : ∃ c, (num n).cps.toList[0]? = some c := ⟨_, List.getElem?_eq_getElem (by omega)⟩
      refine ⟨_, rfl, _, 0, c, rfl, rfl, by omega, atT_of (j := 0) rfl hc, rfl, _, rfl, iteS (fun e => ?_) (fun _ => iteB (fun e => by cases e) (fun _ => ?_))⟩
      · have ec : c = 48 := by
          have e : S [c] = S [48] := e.trans (by decide +kernel)
          have := S_inj e
          simpa using this
        refine ⟨_, rfl, ⟨_, rfl, by omega, ⟨_, 1, rfl, rfl, _, rfl, iteD (fun e => ?_) (fun _ => ?_)⟩⟩⟩
        · have e : (1 : Int) < ((num n).length : Int) := e
          exact absurd ⟨by rw [hc, ec], by omega⟩ f4
        refine ⟨_, rfl, _, _, rfl, f3, by omega, ?_⟩
        refine ⟨_, rfl, _, rfl, _, _, rfl, rfl, _, rfl, iteD (fun _ => ?_) (fun q => absurd h1 q)⟩
        refine ⟨_, rfl, _, _, rfl, rfl, _, rfl, iteD (fun _ => ?_) (fun q => absurd h2 q)⟩
        exact ⟨_, rfl, k _ (Same.new nD)⟩
      · refine ⟨_, rfl, _, _, rfl, f3, by omega, ?_⟩
        refine ⟨_, rfl, _, rfl, _, _, rfl, rfl, _, rfl, iteD (fun _ => ?_) (fun q => absurd h1 q)⟩
        refine ⟨_, rfl, _, _, rfl, rfl, _, rfl, iteD (fun _ => ?_) (fun q => absurd h2 q)⟩
        exact ⟨_, rfl, k _ (Same.new nD)⟩
theorem sc_kind_in : FnScope ["word"] ["word"] (defScope s_kind_in) := ⟨rfl, rfl, rfl, by decide +kernel, rfl, by decide +kernel, by decide +kernel⟩
abbrev sp_kind_in : Sp := fun vs H Q _ => ∃ v : V, vs = [.str (kindT v)] ∧ KindV v ∧ ∀ H', L2.Same H H' → Q v H'
theorem cal_kind_in (M : Md K mg) : C8.Cal P w K mg base 2 "kind_in" sp_kind_in [] := by
  refine cal_of (F_kind_in M) (g_kind_in M) sc_kind_in (fun _ _ _ _ _ _ us hl => match us, hl with | [_], _ => rfl) (fun vs H Q E h => ?_) (fun cdv A outer s H vs Q E hr h => ?_)
  · obtain ⟨v, rfl, _⟩ := h
    rfl
  · obtain ⟨v, rfl, hv, k⟩ := h
    refine ⟨_, (pss_cons (ps_if (PW.pt (pw_or (pt_cmpR op_eq (pv 0) pe_str (nomark _)) (pw_or1 (pt_cmpR op_eq (pv 0) pe_str (nomark _))))) (pss_one (ps_ret (pv 0))) pss_nil)
  (pss_one (ps_ret (C8.pe_c (cal_number_in M) hr (by decide) rfl (pa_cons (pv 0) (pa_cons pe_int (pa_cons (C8.pe_gc rfl (k_GREATEST_PRICE M)) pa_nil))))))), ?_⟩
    rcases hv with ⟨n, rfl, h0, h1⟩ | rfl | rfl
    · obtain ⟨m, rfl⟩ : ∃ m : Nat, n = (m : Int) := ⟨n.toNat, by omega⟩
      have ne : ∀ n, n < 41 → num n ≠ "place" ∧ num n ≠ "never" := by decide +kernel
      obtain ⟨n1, n2⟩ := ne m (by omega)
      refine ⟨_, rfl, rfl, _, rfl, iteS (fun e => absurd e n1) (fun _ => ?_)⟩
      refine ⟨_, rfl, rfl, _, rfl, iteS (fun e => absurd e n2) (fun _ => ?_)⟩
      exact ⟨_, rfl, m, 0, 40, rfl, by omega, h0, h1, k⟩
    · refine ⟨_, rfl, rfl, _, rfl, iteS (fun e => by cases e) (fun _ => ?_)⟩
      refine ⟨_, rfl, rfl, _, rfl, iteS (fun _ => ?_) (fun e => absurd rfl e)⟩
      exact ⟨_, rfl, k _ (Same.refl _)⟩
    · refine ⟨_, rfl, rfl, _, rfl, iteS (fun _ => ?_) (fun e => absurd rfl e)⟩
      exact iteB (fun _ => ⟨_, rfl, k _ (Same.refl _)⟩) (fun e => by cases e)
end K02
set_option maxRecDepth 100000
set_option maxHeartbeats 4000000
namespace K02
open PySem PySem.Spec PyProof.Rows L2 He BL SX
local macro_rules | `(tactic| walk_at "ar") => `(tactic| first
  | exact Or.inl ⟨by omega, by omega⟩
  | exact Or.inr ⟨by omega, by omega⟩
  | exact ⟨by omega, by omega⟩
  | exact ⟨by omega, by omega, by omega⟩
  | exact ⟨by decide, by decide, by decide⟩
  | exact Nat.le_of_ble_eq_true rfl
  | exact rfl
  | omega
  | decide
  | fail)
local macro_rules | `(tactic| walk_at "ne") => `(tactic| first
  | assumption
  | (apply Ne.symm; assumption)
  | (refine ne_of_none ?_ (by assumption); walk_at "hp")
  | (apply Ne.symm; refine ne_of_none ?_ (by assumption); walk_at "hp")
  | fail)
local macro_rules | `(tactic| walk_at "hp") => `(tactic| first
  | assumption
  | exact upd_same
  | (refine (upd_ne ?_).trans ?_; · walk_at "ne"; · walk_at "hp")
  | (refine BL.Kp.at (by assumption) ?_ ?_; · walk_at "hp"; · walk_at "ne")
  | (refine BL.Same.at (by assumption) ?_; walk_at "hp")
  | fail)
local macro_rules | `(tactic| walk_at "rd1") => `(tactic| first
  | refine ⟨_, rfl, ?_⟩
  | refine ⟨_, _, rfl, rfl, ?_⟩
  | refine Or.inl ⟨_, rfl, ?_⟩
  | (refine ⟨_, _, _, _, rfl, rfl, SqL.of (by walk_at "hp"), rfl, ?_⟩)
  | (refine ⟨_, _, _, _, rfl, rfl, (by walk_at "hp"), rfl, ?_⟩)
  | (refine And.intro (by walk_at "ar") ?_)
  | fail)
local macro_rules | `(tactic| walk_at "rd") => `(tactic| (walk_at "rd1"; repeat' walk_at "rd1"))

variable {P : Program} {w : World} {K : PySem.W.Frag} {mg : Str → Option Value} {base : Heap}
theorem sc_Road___init__ : FnScope ["self", "start", "goal", "times", "load", "weight"] ["self", "start", "goal", "times", "load", "weight"] (defScope s_Road___init__) := ⟨rfl, rfl, rfl, by decide +kernel, rfl, by decide +kernel, by decide +kernel⟩
abbrev sp_Road___init__ (K : PySem.W.Frag) : Sp := fun vs H Q _ => ∃ (a dx : Addr) (st go : Str) (t l g : V), vs = [.ref a, .str st, .str go, t, l, g] ∧ H a = some (.ins (ga K "Road") dx []) ∧
  Q .non (upd H a (.ins (ga K "Road") dx [("start", .str st), ("goal", .str go), ("times", t), ("load", l), ("weight", g)]))
theorem mak_Road (M : Md K mg) : C8.Mak P w K mg base 1 "Road" (ga K "Road") (sp_Road___init__ K) [] := by
  refine mak_of (mk_Road M) (kg_Road M) (F_Road___init__ M) sc_Road___init__ (fun _ _ _ _ _ _ us hl => match us, hl with | [_, _, _, _, _, _], _ => rfl) (fun vs H Q E h => ?_) (fun cdv A outer s H vs Q E hr h => ?_)
  · obtain ⟨a, dx, st, go, t, l, g, rfl, _⟩ := h
    rfl
  · obtain ⟨a, dx, st, go, t, l, g, rfl, ha, k⟩ := h
    refine ⟨_, (pss_cons (ps_fld (pv 0) (pv 1) rfl)
  (pss_cons (ps_fld (pv 0) (pv 2) rfl)
  (pss_cons (ps_fld (pv 0) (pv 3) rfl)
  (pss_cons (ps_fld (pv 0) (pv 4) rfl)
  (pss_one (ps_fld (pv 0) (pv 5) rfl)))))), ?_⟩
    refine ⟨_, rfl, _, rfl, a, _, dx, _, rfl, ha, c_Road M, na_Road_start M, Nat.le_of_ble_eq_true rfl, ?_⟩
    refine ⟨_, rfl, _, rfl, a, _, dx, _, rfl, upd_same, c_Road M, na_Road_goal M, Nat.le_of_ble_eq_true rfl, ?_⟩
    refine ⟨_, rfl, _, rfl, a, _, dx, _, rfl, upd_same, c_Road M, na_Road_times M, Nat.le_of_ble_eq_true rfl, ?_⟩
    refine ⟨_, rfl, _, rfl, a, _, dx, _, rfl, upd_same, c_Road M, na_Road_load M, Nat.le_of_ble_eq_true rfl, ?_⟩
    refine ⟨_, rfl, _, rfl, a, _, dx, _, rfl, upd_same, c_Road M, na_Road_weight M, Nat.le_of_ble_eq_true rfl, ?_⟩
    rw [upd_upd, upd_upd, upd_upd, upd_upd]
    exact k
theorem sc_Road_two_way : FnScope ["self"] ["self"] (defScope s_Road_two_way) := ⟨rfl, rfl, rfl, by decide +kernel, rfl, by decide +kernel, by decide +kernel⟩
abbrev sp_Road_two_way (K : PySem.W.Frag) : Sp := fun vs H Q _ => ∃ (cs : List (Str × V)) (o : RdO × BL.Rd), vs = [.ref o.1.ra] ∧ RoadAt K H cs o ∧ Q (.bl o.2.two) H
theorem met_Road_two_way (M : Md K mg) : C8.Met P w K mg base 1 (ga K "Road") "two_way" (sp_Road_two_way K) [] := by
  refine met_of (c_Road M) (m_Road_two_way M) (F_Road_two_way M) sc_Road_two_way (fun _ _ _ _ _ _ us hl => match us, hl with | [_], _ => rfl) (fun vs H Q E h => ?_) (fun cdv A outer s H vs Q E hr h => ?_)
  · obtain ⟨cs, o, rfl, _⟩ := h
    rfl
  · obtain ⟨cs, o, rfl, ⟨h1, h2⟩, k⟩ := h
    refine ⟨_, (pss_one (ps_ret (pe_cmpR op_eq (pe_callB call_len_seq (by rfl) (b_len M) PySem.boot_len (pa_cons (pe_fld (pv 0) rfl) pa_nil)) pe_int (nomark _)))), ?_⟩
    refine ⟨_, rfl, _, _, _, _, _, rfl, h1, c_Road M, na_Road_times M, rfl, ⟨_, _, rfl, .inl (SqL.of h2), ?_⟩⟩
    refine ⟨rfl, ?_⟩
    have e : decide (V.int (((times o.2).map fun n => V.int (n : Nat)).length : Nat) = V.int 2) = o.2.two := by
      unfold times
      cases o.2.two <;> rfl
    rw [e]
    exact k
theorem sc_TownReader___init__ : FnScope ["self"] ["self"] (defScope s_TownReader___init__) := ⟨rfl, rfl, rfl, by decide +kernel, rfl, by decide +kernel, by decide +kernel⟩
abbrev sp_TownReader___init__ (K : PySem.W.Frag) : Sp := fun vs H Q _ => ∃ (a dx : Addr), vs = [.ref a] ∧ H a = some (.ins (ga K "TownReader") dx []) ∧
  ∀ kd rdd H', H kd = none → H rdd = none → RdrAt K H' a dx kd rdd [] [] false → (∀ b o, H b = some o → b ≠ a → H' b = some o) → Q .non H'
theorem mak_TownReader (M : Md K mg) : C8.Mak P w K mg base 1 "TownReader" (ga K "TownReader") (sp_TownReader___init__ K) [] := by
  refine mak_of (mk_TownReader M) (kg_TownReader M) (F_TownReader___init__ M) sc_TownReader___init__ (fun _ _ _ _ _ _ us hl => match us, hl with | [_], _ => rfl) (fun vs H Q E h => ?_) (fun cdv A outer s H vs Q E hr h => ?_)
  · obtain ⟨a, dx, rfl, _⟩ := h
    rfl
  · obtain ⟨a, dx, rfl, ha, k⟩ := h
    refine ⟨_, (pss_cons (ps_fld (pv 0) pe_dnewK rfl)
  (pss_cons (ps_fld (pv 0) pe_dnewK rfl)
  (pss_one (ps_fld (pv 0) pe_bl rfl)))), ?_⟩
    intro kd nk
    have hak := ne_of_none ha nk
    refine ⟨_, rfl, a, _, dx, _, rfl, (upd_ne hak).trans ha, c_TownReader M, na_TownReader_kinds M, Nat.le_of_ble_eq_true rfl, ?_⟩
    intro rdd nr
    have nr1 := upd_free nr
    have nr2 := upd_free nr1
    have har : a ≠ rdd := ne_of_none ha nr2
    have hkr : kd ≠ rdd := ne_of_none (H := L2.upd H kd (.dK [])) upd_same nr1
    refine ⟨_, rfl, a, _, dx, _, rfl, (upd_ne har).trans upd_same, c_TownReader M, na_TownReader_roads M, Nat.le_of_ble_eq_true rfl, ?_⟩
    refine ⟨_, rfl, a, _, dx, _, rfl, upd_same, c_TownReader M, na_TownReader_ended M, Nat.le_of_ble_eq_true rfl, ?_⟩
    refine k kd rdd _ nk nr2 ⟨upd_same, ?_, ?_, nofun, hkr⟩ ?_
    · exact (upd_ne hak.symm).trans ((upd_ne hak.symm).trans ((upd_ne hkr).trans ((upd_ne hak.symm).trans upd_same)))
    · exact (upd_ne har.symm).trans ((upd_ne har.symm).trans upd_same)
    · intro b o hb nb
      exact (upd_ne nb).trans ((upd_ne nb).trans ((upd_ne (ne_of_none hb nr2)).trans ((upd_ne nb).trans ((upd_ne (ne_of_none hb nk)).trans hb))))
end K02
set_option maxRecDepth 100000
set_option maxHeartbeats 4000000
namespace K02
open PySem PySem.Spec PyProof.Rows L2 He BL SX
local macro_rules | `(tactic| walk_at "ar") => `(tactic| first
  | exact Or.inl ⟨by omega, by omega⟩
  | exact Or.inr ⟨by omega, by omega⟩
  | exact ⟨by omega, by omega⟩
  | exact ⟨by omega, by omega, by omega⟩
  | exact ⟨by decide, by decide, by decide⟩
  | exact Nat.le_of_ble_eq_true rfl
  | exact rfl
  | omega
  | decide
  | fail)
local macro_rules | `(tactic| walk_at "ne") => `(tactic| first
  | assumption
  | (apply Ne.symm; assumption)
  | (refine ne_of_none ?_ (by assumption); walk_at "hp")
  | (apply Ne.symm; refine ne_of_none ?_ (by assumption); walk_at "hp")
  | fail)
local macro_rules | `(tactic| walk_at "hp") => `(tactic| first
  | assumption
  | exact upd_same
  | (refine (upd_ne ?_).trans ?_; · walk_at "ne"; · walk_at "hp")
  | (refine BL.Kp.at (by assumption) ?_ ?_; · walk_at "hp"; · walk_at "ne")
  | (refine BL.Same.at (by assumption) ?_; walk_at "hp")
  | fail)
local macro_rules | `(tactic| walk_at "rd1") => `(tactic| first
  | refine ⟨_, rfl, ?_⟩
  | refine ⟨_, _, rfl, rfl, ?_⟩
  | refine Or.inl ⟨_, rfl, ?_⟩
  | (refine ⟨_, _, _, _, rfl, rfl, SqL.of (by walk_at "hp"), rfl, ?_⟩)
  | (refine ⟨_, _, _, _, rfl, rfl, (by walk_at "hp"), rfl, ?_⟩)
  | (refine And.intro (by walk_at "ar") ?_)
  | fail)
local macro_rules | `(tactic| walk_at "rd") => `(tactic| (walk_at "rd1"; repeat' walk_at "rd1"))

variable {P : Program} {w : World} {K : PySem.W.Frag} {mg : Str → Option Value} {base : Heap}
theorem sc_BadTown___init__ : FnScope ["self", "line", "why"] ["self", "line", "why"] (defScope s_BadTown___init__) := ⟨rfl, rfl, rfl, by decide +kernel, rfl, by decide +kernel, by decide +kernel⟩
theorem err_BadTown (M : Md K mg) : ErrC P w K mg base 1 "BadTown" (spE2 (ga K "BadTown") "line" "why") := by
  refine err_of (V_BadTown M) (kg_BadTown M) (F_BadTown___init__ M) sc_BadTown___init__ (fun _ _ _ _ _ _ us hl => match us, hl with | [_, _, _], _ => rfl) (fun vs H Q E h => ?_) (fun cdv A outer s H vs Q E hr h => ?_)
  · obtain ⟨a, x, y, rfl, _⟩ := h
    rfl
  · obtain ⟨a, x, y, rfl, ha, k⟩ := h
    refine ⟨_, pss_cons (ps_ost (pv 0) (pv 1)) (pss_one (ps_ost (pv 0) (pv 2))), ?_⟩
    refine ⟨_, rfl, _, rfl, a, ga K "BadTown", rfl, (V_BadTown M).o, NF_BadTown_line M, .inl ⟨ha, fun dx ndx ne => ?_⟩⟩
    exact ⟨_, rfl, _, rfl, a, ga K "BadTown", rfl, (V_BadTown M).o, NF_BadTown_why M, .inr ⟨dx, _, upd_same, (upd_ne ne).trans upd_same, Nat.le_of_ble_eq_true rfl, k dx ndx ne⟩⟩
theorem sc_TownReader_read_crossing : FnScope ["self", "number", "words", "name", "kind"] ["self", "number", "words"] (defScope s_TownReader_read_crossing) := ⟨rfl, rfl, rfl, by decide +kernel, rfl, by decide +kernel, by decide +kernel⟩
abbrev sp_TownReader_read_crossing (K : PySem.W.Frag) : Sp := fun vs H Q _ => ∃ (rd dx kd rdd p : Addr) (ks : List (Str × V)) (n : V) (z : Str) (v : V), vs = [.ref rd, n, .ref p] ∧ RdrAt K H rd dx kd rdd ks [] false ∧
  H p = some (.lst (([("cross" : Str), z, kindT v]).map .str)) ∧ NameOk z ∧ KindV v ∧ z ∉ ks.map (·.1) ∧ ks.length < 1000 ∧ ∀ H', RdrAt K H' rd dx kd rdd (ks ++ [(z, v)]) [] false → Kp3 rd kd rdd H H' → Q .non H'
theorem met_TownReader_read_crossing (M : Md K mg) : C8.Met P w K mg base 3 (ga K "TownReader") "read_crossing" (sp_TownReader_read_crossing K) [] := by
  refine met_of (c_TownReader M) (m_TownReader_read_crossing M) (F_TownReader_read_crossing M) sc_TownReader_read_crossing (fun _ _ _ _ _ _ us hl => match us, hl with | [_, _, _], _ => rfl) (fun vs H Q E h => ?_) (fun cdv A outer s H vs Q E hr h => ?_)
  · obtain ⟨rd, dx, kd, rdd, p, ks, n, z, v, rfl, _⟩ := h
    rfl
  · obtain ⟨rd, dx, kd, rdd, p, ks, n, z, v, rfl, R, hp, zo, vo, zn, kl, k⟩ := h
    have hu := hu_of hr
    refine ⟨_, (pss_cons (ps_set (i := 3) sc_TownReader_read_crossing.nd rfl (Or.inl rfl) (pe_ix ix_list (pv 2) pe_int (fun _ _ => rfl)))
  (pss_cons (ps_if (pt_cmpR op_gt (pe_callB call_lenD (by rfl) (b_len M) PySem.boot_len (pa_cons (pe_fld (pv 0) rfl) pa_nil)) pe_int (nomark _)) (pss_one ps_never) pss_nil)
  (pss_cons (ps_if (pt_not (pt_val (C8.pe_c (cal_is_name M) hr (by decide) rfl (pa_cons (pv 3) pa_nil)))) (pss_one ps_never) pss_nil)
  (pss_cons (ps_if (pt_cmp (pc_din hu (pv 3) (pe_fld (pv 0) rfl))) (pss_one ps_never) pss_nil)
  (pss_cons (ps_set (i := 4) sc_TownReader_read_crossing.nd rfl (Or.inl rfl) (C8.pe_c (cal_kind_in M) hr (by decide) rfl (pa_cons (pe_ix ix_list (pv 2) pe_int (fun _ _ => rfl)) pa_nil)))
  (pss_cons (ps_if (pt_cmp (pc_isN (pv 4))) (pss_one ps_never) pss_nil)
  (pss_one (ps_dput hu (pe_fld (pv 0) rfl) (pv 3) (pv 4) rfl)))))))), ?_⟩
    have sl0 : sizeLine = 16777216 := rfl
    refine ⟨_, rfl, p, _, 1, .str z, rfl, rfl, SqL.of hp, at_of (j := 1) rfl rfl, ?_⟩
    refine ⟨_, rfl, rd, _, dx, _, _, rfl, R.hi, c_TownReader M, na_TownReader_roads M, rfl, ⟨_, _, rfl, R.hr, ⟨_, _, rfl, rfl, _, rfl, iteD (fun e => absurd e (by decide)) (fun _ => ?_)⟩⟩⟩
    refine ⟨_, rfl, z, rfl, .inl ⟨zo, fun H1 s1 => ⟨_, rfl, iteB (fun e => by cases e) (fun _ => ?_)⟩⟩⟩
    have R1 := R.kept s1
    refine ⟨_, rfl, _, rfl, rd, _, dx, _, _, rfl, R1.hi, c_TownReader M, na_TownReader_kinds M, rfl, ⟨_, _, rfl, .k (k := .inr z) R1.hk, _, rfl, ?_⟩⟩
    rw [val_none zn]
    refine iteB (fun e => by cases e) (fun _ => ?_)
    refine ⟨_, rfl, p, _, 2, .str (kindT v), rfl, rfl, SqL.of (s1 _ _ hp), at_of (j := 2) rfl rfl, v, rfl, vo, fun H2 s2 => ?_⟩
    have R2 := R1.kept s2
    refine ⟨_, rfl, ?_⟩
    refine ⟨_, rfl, iteD (fun e => absurd e vo.nn) (fun _ => ?_)⟩
    refine ⟨_, rfl, _, rfl, rd, _, dx, _, _, rfl, R2.hi, c_TownReader M, na_TownReader_kinds M, rfl, _, rfl, kd, _, rfl, .k (k := .inr z) R2.hk (by rw [kvOf_len, sl0]; omega), ?_⟩
    rw [put_new zn]
    exact k _ R2.putK ((Kp3.of (s1.trans s2)).trans Kp3.u2)
theorem sc_TownReader_read_road : FnScope ["self", "number", "words", "lanes", "name", "start", "goal", "times", "load", "weight", "word", "time"] ["self", "number", "words", "lanes"] (defScope s_TownReader_read_road) := ⟨rfl, rfl, rfl, by decide +kernel, rfl, by decide +kernel, by decide +kernel⟩
abbrev sp_TownReader_read_road (K : PySem.W.Frag) : Sp := fun vs H Q E => (∃ (rd dx kd rdd p : Addr) (cs : List (Str × V)) (ros : List (RdO × BL.Rd)) (n : V) (rs : List BL.Rd) (r : BL.Rd), vs = [.ref rd, n, .ref p, .int (if r.two = true then 2 else 1)] ∧ RdrAt K H rd dx kd rdd cs ros false ∧
  H p = some (.lst ((lineW cs r).map .str)) ∧ WorldP cs rs ∧ r ∈ rs ∧ r.name ∉ ros.map (·.2.name) ∧ ros.length < 1000 ∧ ∀ (o : RdO) H', RdrAt K H' rd dx kd rdd cs (ros ++ [(o, r)]) false → Kp3 rd kd rdd H H' → Q .non H') ∨
  (∃ (rd p : Addr) (n : Nat), vs = [.ref rd, .int (n : Nat), .ref p, .int 2] ∧ H p = some (.lst (([("street" : Str), "0", "1", "2", "1", "1", "0", "1"] : List Str).map .str)) ∧ outE K (.bad n) H E)
theorem metX_TownReader_read_road (M : Md K mg) : BL.MetX P w K mg base 3 (ga K "TownReader") "read_road" (sp_TownReader_read_road K) := by
  refine metX_of (c_TownReader M) (m_TownReader_read_road M) (F_TownReader_read_road M) sc_TownReader_read_road (fun _ _ _ _ _ _ us hl => match us, hl with | [_, _, _, _], _ => rfl) (fun vs H Q E h => ?_) (fun cdv A outer s H vs Q E hr h => ?_)
  · rcases h with ⟨rd, dx, kd, rdd, p, cs, ros, n, rs, r, rfl, _⟩ | ⟨rd, p, n, rfl, _⟩ <;> rfl
  · have hu := hu_of hr
    rcases h with ⟨rd, dx, kd, rdd, p, cs, ros, n, rs, r, rfl, R, hp, ok, rm, rn, rl, k⟩ | ⟨rd, p, n, rfl, hp, k⟩
    rotate_left
    · refine ⟨_, (pss_cons (ps_par3 (i := 4) (j := 5) (l := 6) rfl sc_TownReader_read_road.nd rfl rfl rfl (by decide) (by decide) (by decide) rfl rfl rfl (pa_cons (pe_ix ix_list (pv 2) pe_int (fun _ _ => rfl)) (pa_cons (pe_ix ix_list (pv 2) pe_int (fun _ _ => rfl)) (pa_cons (pe_ix ix_list (pv 2) pe_int (fun _ _ => rfl)) pa_nil))) (by rfl))
  (pss_cons (ps_if (pt_not (pt_val (C8.pe_c (cal_is_name M) hr (by decide) rfl (pa_cons (pv 4) pa_nil)))) (pss_one (ps_raiseE rfl (err_BadTown M) hr (by decide) (takes_of rfl rfl rfl rfl) rfl (pa_cons (pv 1) (pa_cons pe_str pa_nil)))) pss_nil)
  (pss_cons (ps_if (pt_cmp (pc_din hu (pv 4) (pe_fld (pv 0) rfl))) (pss_one (ps_raiseE rfl (err_BadTown M) hr (by decide) (takes_of rfl rfl rfl rfl) rfl (pa_cons (pv 1) (pa_cons pe_str pa_nil)))) pss_nil)
  (pss_cons (ps_if (PW.pt (pw_or (pt_cmp (pc_dnotin hu (pv 5) (pe_fld (pv 0) rfl))) (pw_or1 (pt_cmp (pc_dnotin hu (pv 6) (pe_fld (pv 0) rfl)))))) (pss_one (ps_raiseE rfl (err_BadTown M) hr (by decide) (takes_of rfl rfl rfl rfl) rfl (pa_cons (pv 1) (pa_cons pe_str pa_nil)))) pss_nil)
  (pss_cons (ps_if (pt_cmpR op_eq (pv 5) (pv 6) (nomark _)) (pss_one (ps_raiseE rfl (err_BadTown M) hr (by decide) (takes_of rfl rfl rfl rfl) rfl (pa_cons (pv 1) (pa_cons pe_str pa_nil)))) pss_nil)
  (C8.pss_cut (ps_if (PW.pt (pw_and (pt_cmpR op_eq (pv 3) pe_int (nomark _)) (pw_and1 (PW.pt (pw_or (pt_cmpR op_ne (pe_dget hu (pe_fld (pv 0) rfl) (pv 5) (fun _ _ => rfl)) pe_str (nomark _)) (pw_or1 (pt_cmpR op_ne (pe_dget hu (pe_fld (pv 0) rfl) (pv 6) (fun _ _ => rfl)) pe_str (nomark _)))))))) (pss_one (ps_raiseE rfl (err_BadTown M) hr (by decide) (takes_of rfl rfl rfl rfl) rfl (pa_cons (pv 1) (pa_cons pe_str pa_nil)))) pss_nil)
  (pss_cons (ps_setLc (i := 7) (own := [("word", 10)]) (g := (gName 10)) (tt := tYes) (te := (tCall (sp_number_in) [] E0 (tCons (tVar 10) (tCons (tC (.int 1)) (tCons (tC (kv_MOST_MINUTES K)) tNil))))) rfl sc_TownReader_read_road.nd rfl rfl (sw_true rfl rfl rfl (by decide +kernel)) (pi_list (pe_slice sl_list (pv 2) (po_some pe_int) (po_some (pe_op op_add pe_int (pv 3))))) (blkOk_by (N := ["self", "number", "words", "lanes", "name", "start", "goal", "times", "load", "weight", "word", "time"]) (by kernel_rfl)) (fun _ _ _ _ _ => (pg_name (i := 10) sc_TownReader_read_road.nd rfl (Or.inl rfl))) (fun _ _ _ _ _ => pts_nil) (fun _ _ _ _ _ => (C8.pe_c (cal_number_in M) hr (by decide) rfl (pa_cons (pv 10) (pa_cons pe_int (pa_cons (C8.pe_gc rfl (k_MOST_MINUTES M)) pa_nil))))))
  (pss_cons (ps_set (i := 8) sc_TownReader_read_road.nd rfl (Or.inl rfl) (C8.pe_c (cal_number_in M) hr (by decide) rfl (pa_cons (pe_ix ix_list (pv 2) (pe_un un_neg pe_int) (fun _ _ => rfl)) (pa_cons pe_int (pa_cons (C8.pe_gc rfl (k_MOST_SACKS M)) pa_nil)))))
  (pss_cons (ps_set (i := 9) sc_TownReader_read_road.nd rfl (Or.inl rfl) (C8.pe_c (cal_number_in M) hr (by decide) rfl (pa_cons (pe_ix ix_list (pv 2) (pe_un un_neg pe_int) (fun _ _ => rfl)) (pa_cons pe_int (pa_cons (C8.pe_gc rfl (k_LAST_RANK M)) pa_nil)))))
  (pss_cons (ps_if (PW.pt (pw_or (pt_cmp (pc_isN (pv 8))) (pw_or (pt_cmp (pc_isN (pv 9))) (pw_or1 (pt_val (pe_callB (cr_any rfl) (by rfl) (b_any M) (by decide +kernel) (pa_cons (pe_lc (own := [("time", 11)]) (g := (gName 11)) (tt := tYes) (te := (tIsN (tVar 11))) rfl sc_TownReader_read_road.nd (pi_list (pv 7)) (blkOk_by (N := ["self", "number", "words", "lanes", "name", "start", "goal", "times", "load", "weight", "word", "time"]) (by kernel_rfl)) (fun _ _ _ _ _ => (pg_name (i := 11) sc_TownReader_read_road.nd rfl (Or.inl rfl))) (fun _ _ _ _ _ => pts_nil) (fun _ _ _ _ _ => (pe_cmp (pc_isN (pv 11)) rfl))) pa_nil))))))) (pss_one (ps_raiseE rfl (err_BadTown M) hr (by decide) (takes_of rfl rfl rfl rfl) rfl (pa_cons (pv 1) (pa_cons pe_str pa_nil)))) pss_nil)
  (pss_one (ps_dput hu (pe_fld (pv 0) rfl) (pv 4) (C8.pe_mk (mak_Road M) hr (by decide) rfl (pa_cons (pv 5) (pa_cons (pv 6) (pa_cons (pv 7) (pa_cons (pv 8) (pa_cons (pv 9) pa_nil)))))) rfl)))))))))))), ?_⟩
      refine ⟨_, rfl, p, _, 1, _, rfl, rfl, SqL.of hp, at_of (j := 1) rfl rfl, _, rfl, p, _, 2, _, rfl, rfl, SqL.of hp, at_of (j := 2) rfl rfl, _, rfl, p, _, 3, _, rfl, rfl, SqL.of hp, at_of (j := 3) rfl rfl, _, _, _, rfl, ?_⟩
      refine ⟨_, rfl, "0", rfl, .inr ⟨rfl, _, rfl, iteB (fun _ => ?_) (fun e => by cases e)⟩⟩
      exact raise2 (fun Q q => ⟨_, rfl, q⟩) fun d nd => k d _ nd
    refine ⟨_, (pss_cons (ps_par3 (i := 4) (j := 5) (l := 6) rfl sc_TownReader_read_road.nd rfl rfl rfl (by decide) (by decide) (by decide) rfl rfl rfl (pa_cons (pe_ix ix_list (pv 2) pe_int (fun _ _ => rfl)) (pa_cons (pe_ix ix_list (pv 2) pe_int (fun _ _ => rfl)) (pa_cons (pe_ix ix_list (pv 2) pe_int (fun _ _ => rfl)) pa_nil))) (by rfl))
  (pss_cons (ps_if (pt_not (pt_val (C8.pe_c (cal_is_name M) hr (by decide) rfl (pa_cons (pv 4) pa_nil)))) (pss_one (ps_raiseE rfl (err_BadTown M) hr (by decide) (takes_of rfl rfl rfl rfl) rfl (pa_cons (pv 1) (pa_cons pe_str pa_nil)))) pss_nil)
  (pss_cons (ps_if (pt_cmp (pc_din hu (pv 4) (pe_fld (pv 0) rfl))) (pss_one (ps_raiseE rfl (err_BadTown M) hr (by decide) (takes_of rfl rfl rfl rfl) rfl (pa_cons (pv 1) (pa_cons pe_str pa_nil)))) pss_nil)
  (pss_cons (ps_if (PW.pt (pw_or (pt_cmp (pc_dnotin hu (pv 5) (pe_fld (pv 0) rfl))) (pw_or1 (pt_cmp (pc_dnotin hu (pv 6) (pe_fld (pv 0) rfl)))))) (pss_one (ps_raiseE rfl (err_BadTown M) hr (by decide) (takes_of rfl rfl rfl rfl) rfl (pa_cons (pv 1) (pa_cons pe_str pa_nil)))) pss_nil)
  (pss_cons (ps_if (pt_cmpR op_eq (pv 5) (pv 6) (nomark _)) (pss_one (ps_raiseE rfl (err_BadTown M) hr (by decide) (takes_of rfl rfl rfl rfl) rfl (pa_cons (pv 1) (pa_cons pe_str pa_nil)))) pss_nil)
  (C8.pss_cut (ps_if (PW.pt (pw_and (pt_cmpR op_eq (pv 3) pe_int (nomark _)) (pw_and1 (PW.pt (pw_or (pt_cmpR op_ne (pe_dget hu (pe_fld (pv 0) rfl) (pv 5) (fun _ _ => rfl)) pe_str (nomark _)) (pw_or1 (pt_cmpR op_ne (pe_dget hu (pe_fld (pv 0) rfl) (pv 6) (fun _ _ => rfl)) pe_str (nomark _)))))))) (pss_one (ps_raiseE rfl (err_BadTown M) hr (by decide) (takes_of rfl rfl rfl rfl) rfl (pa_cons (pv 1) (pa_cons pe_str pa_nil)))) pss_nil)
  (pss_cons (ps_setLc (i := 7) (own := [("word", 10)]) (g := (gName 10)) (tt := tYes) (te := (tCall (sp_number_in) [] E0 (tCons (tVar 10) (tCons (tC (.int 1)) (tCons (tC (kv_MOST_MINUTES K)) tNil))))) rfl sc_TownReader_read_road.nd rfl rfl (sw_true rfl rfl rfl (by decide +kernel)) (pi_list (pe_slice sl_list (pv 2) (po_some pe_int) (po_some (pe_op op_add pe_int (pv 3))))) (blkOk_by (N := ["self", "number", "words", "lanes", "name", "start", "goal", "times", "load", "weight", "word", "time"]) (by kernel_rfl)) (fun _ _ _ _ _ => (pg_name (i := 10) sc_TownReader_read_road.nd rfl (Or.inl rfl))) (fun _ _ _ _ _ => pts_nil) (fun _ _ _ _ _ => (C8.pe_c (cal_number_in M) hr (by decide) rfl (pa_cons (pv 10) (pa_cons pe_int (pa_cons (C8.pe_gc rfl (k_MOST_MINUTES M)) pa_nil))))))
  (pss_cons (ps_set (i := 8) sc_TownReader_read_road.nd rfl (Or.inl rfl) (C8.pe_c (cal_number_in M) hr (by decide) rfl (pa_cons (pe_ix ix_list (pv 2) (pe_un un_neg pe_int) (fun _ _ => rfl)) (pa_cons pe_int (pa_cons (C8.pe_gc rfl (k_MOST_SACKS M)) pa_nil)))))
  (pss_cons (ps_set (i := 9) sc_TownReader_read_road.nd rfl (Or.inl rfl) (C8.pe_c (cal_number_in M) hr (by decide) rfl (pa_cons (pe_ix ix_list (pv 2) (pe_un un_neg pe_int) (fun _ _ => rfl)) (pa_cons pe_int (pa_cons (C8.pe_gc rfl (k_LAST_RANK M)) pa_nil)))))
  (pss_cons (ps_if (PW.pt (pw_or (pt_cmp (pc_isN (pv 8))) (pw_or (pt_cmp (pc_isN (pv 9))) (pw_or1 (pt_val (pe_callB (cr_any rfl) (by rfl) (b_any M) (by decide +kernel) (pa_cons (pe_lc (own := [("time", 11)]) (g := (gName 11)) (tt := tYes) (te := (tIsN (tVar 11))) rfl sc_TownReader_read_road.nd (pi_list (pv 7)) (blkOk_by (N := ["self", "number", "words", "lanes", "name", "start", "goal", "times", "load", "weight", "word", "time"]) (by kernel_rfl)) (fun _ _ _ _ _ => (pg_name (i := 11) sc_TownReader_read_road.nd rfl (Or.inl rfl))) (fun _ _ _ _ _ => pts_nil) (fun _ _ _ _ _ => (pe_cmp (pc_isN (pv 11)) rfl))) pa_nil))))))) (pss_one (ps_raiseE rfl (err_BadTown M) hr (by decide) (takes_of rfl rfl rfl rfl) rfl (pa_cons (pv 1) (pa_cons pe_str pa_nil)))) pss_nil)
  (pss_one (ps_dput hu (pe_fld (pv 0) rfl) (pv 4) (C8.pe_mk (mak_Road M) hr (by decide) rfl (pa_cons (pv 5) (pa_cons (pv 6) (pa_cons (pv 7) (pa_cons (pv 8) (pa_cons (pv 9) pa_nil)))))) rfl)))))))))))), ?_⟩
    have sl0 : sizeLine = 16777216 := rfl
    obtain ⟨hra, hrb, hab⟩ := ok.re r rm
    obtain ⟨f0, f1, k0, k1, l1, r0, r1⟩ := ok.rm r rm
    refine ⟨_, rfl, p, _, 1, _, rfl, rfl, SqL.of hp, at_of (j := 1) rfl (lw_at1 cs r), _, rfl, p, _, 2, _, rfl, rfl, SqL.of hp, at_of (j := 2) rfl (lw_at2 cs r), _, rfl, p, _, 3, _, rfl, rfl, SqL.of hp, at_of (j := 3) rfl (lw_at3 cs r), _, _, _, rfl, ?_⟩
    refine ⟨_, rfl, r.name, rfl, .inl ⟨ok.rn r rm, fun H1 s1 => ⟨_, rfl, iteB (fun e => by cases e) (fun _ => ?_)⟩⟩⟩
    have R1 := R.kept s1
    have hn : r.name ∉ (rkv ros).map (·.1) := by unfold rkv; rw [List.map_map]; exact rn
    refine ⟨_, rfl, _, rfl, rd, _, dx, _, _, rfl, R1.hi, c_TownReader M, na_TownReader_roads M, rfl, ⟨_, _, rfl, .k (k := .inr r.name) R1.hr, _, rfl, ?_⟩⟩
    rw [val_none hn]
    refine iteB (fun e => by cases e) (fun _ => ?_)
    refine ⟨_, rfl, _, rfl, rd, _, dx, _, _, rfl, R1.hi, c_TownReader M, na_TownReader_kinds M, rfl, ⟨_, _, rfl, .k (k := .inr (nameAt cs r.a)) R1.hk, _, rfl, ?_⟩⟩
    rw [val_isSome, decide_eq_true (name_in hra)]
    refine iteB (fun e => by cases e) (fun _ => ?_)
    refine ⟨_, rfl, _, rfl, rd, _, dx, _, _, rfl, R1.hi, c_TownReader M, na_TownReader_kinds M, rfl, ⟨_, _, rfl, .k (k := .inr (nameAt cs r.b)) R1.hk, _, rfl, ?_⟩⟩
    rw [val_isSome, decide_eq_true (name_in hrb)]
    refine iteB (fun e => by cases e) (fun _ => ?_)
    refine ⟨_, rfl, _, rfl, rfl, _, rfl, iteS (fun e => absurd (names_neP ok hra hrb e) hab) (fun _ => ?_)⟩
    refine ⟨fun σ H2 => H2 = H1 ∧ σ = [some (.ref rd), some n, some (.ref p), some (.int (if r.two = true then 2 else 1)), some (.str r.name), some (.str (nameAt cs r.a)), some (.str (nameAt cs r.b)), none, none, none, none, none], ?_, ?_⟩
    · refine ⟨_, rfl, rfl, _, rfl, ?_⟩
      cases htw : r.two with
      | true => exact iteB (fun e => by cases e) (fun _ => iteB (fun e => by cases e) (fun _ => ⟨rfl, rfl⟩))
      | false =>
        obtain ⟨pa, pb⟩ := ok.pl r rm htw
        refine iteB (fun _ => ?_) (fun e => by cases e)
        have g1 : DGet H1 kd (V.str (nameAt cs r.a)) (some (.str "place")) := by rw [← val_at ok.cd pa]; exact DGet.k (k := .inr _) R1.hk
        have g2 : DGet H1 kd (V.str (nameAt cs r.b)) (some (.str "place")) := by rw [← val_at ok.cd pb]; exact DGet.k (k := .inr _) R1.hk
        refine ⟨_, rfl, rd, _, dx, _, _, rfl, R1.hi, c_TownReader M, na_TownReader_kinds M, rfl, _, rfl, kd, _, rfl, g1, rfl, _, rfl, iteB (fun e => by cases e) (fun _ => ?_)⟩
        exact ⟨_, rfl, rd, _, dx, _, _, rfl, R1.hi, c_TownReader M, na_TownReader_kinds M, rfl, _, rfl, kd, _, rfl, g2, rfl, _, rfl, iteB (fun e => by cases e) (fun _ => ⟨rfl, rfl⟩)⟩
    rintro σ H1 ⟨rfl, rfl⟩
    -- times
    refine ⟨_, rfl, 4, rfl, _, rfl, _, _, rfl, rfl, _, rfl, p, _, rfl, SqL.of (s1 _ _ hp), fun p2 n2 => ?_⟩
    rw [lw_sl]
    refine ⟨p2, rfl, ⟨_, SqL.of upd_same⟩, fun D nD => ?_⟩
    have s2 := s1.trans (Same.new (o := .lst (((times r).map num).map V.str)) n2)
    have hp2 : (L2.upd H1 p2 (.lst (((times r).map num).map V.str))) p2 = some (.lst (((times r).map num).map V.str)) := upd_same
    generalize (L2.upd H1 p2 (.lst (((times r).map num).map V.str))) = H2 at s2 hp2 nD
    refine lc_list (K := K) (a := p2) (xs := ((times r).map num).map V.str) (fun i H5 => L2.Same H2 H5 ∧ H5 D = some (.lst (((times r).take i).map fun n => V.int (n : Nat)))) ⟨Same.new nD, upd_same⟩ ?_ ?_ ?_
    · rintro i H5 _ ⟨s5, _⟩
      exact SqL.of (s5 _ _ hp2)
    · rintro i x H5 hx ⟨s5, h5⟩
      obtain ⟨y, hy, rfl⟩ := at_map hx
      obtain ⟨t, ht, rfl⟩ := at_map hy
      have tb : t < 100 ∧ 1 ≤ t ∧ t ≤ 60 := by rcases times_at ht with q | q <;> omega
      refine ⟨rfl, _, rfl, t, 1, 60, rfl, tb.1, by omega, by omega, fun H6 s6 => ?_⟩
      refine ⟨_, s6 _ _ h5, ?_, Same.put (s5.trans s6) nD, ?_⟩
      · have := times_len r
        rw [List.length_map, List.length_take, sl0]; omega
      · rw [upd_same, take_snoc ht, List.map_append]; rfl
    rintro H3 ⟨s3, h3⟩
    rw [List.length_map, List.length_map, List.take_length] at h3
    have s13 := s2.trans s3
    -- load, weight
    refine ⟨_, rfl, _, rfl, p, _, -2, _, rfl, rfl, SqL.of (s13 _ _ hp), lw_m2 cs r, r.l, 0, 9, rfl, by omega, by omega, by omega, fun H4 s4 => ?_⟩
    have s14 := s13.trans s4
    refine ⟨_, rfl, _, rfl, p, _, -1, _, rfl, rfl, SqL.of (s14 _ _ hp), lw_m1 cs r, r.r, 1, 3, rfl, by omega, by omega, by omega, fun H5 s5 => ?_⟩
    have s15 := s14.trans s5
    have h5 := s5 _ _ (s4 _ _ h3)
    refine ⟨_, rfl, _, rfl, iteB (fun e => by cases e) (fun _ => ?_)⟩
    refine ⟨_, rfl, _, rfl, iteB (fun e => by cases e) (fun _ => ?_)⟩
    refine ⟨_, rfl, D, rfl, ⟨_, SqL.of h5⟩, fun E nE => ?_⟩
    refine lc_list (K := K) (a := D) (xs := (times r).map fun n => V.int (n : Nat)) (fun i H6 => H6 = L2.upd H5 E (.lst ((List.replicate i false).map V.bl)) ∧ i ≤ (times r).length) ⟨rfl, Nat.zero_le _⟩ ?_ ?_ ?_
    · rintro i H6 _ ⟨rfl, _⟩
      exact SqL.of ((upd_ne (ne_of_none h5 nE)).trans h5)
    · rintro i x H6 hx ⟨rfl, hi⟩
      obtain ⟨t, ht, rfl⟩ := at_map hx
      have hil := (List.getElem?_eq_some_iff.mp ht).1
      refine ⟨rfl, _, rfl, _, upd_same, ?_, ?_, hil⟩
      · have := times_len r
        rw [List.length_map, List.length_replicate, sl0]; omega
      · rw [upd_upd, ← rep_snoc, List.map_append]; rfl
    rintro H6 ⟨rfl, _⟩
    refine ⟨E, _, rfl, SqL.of upd_same, ?_⟩
    rw [rep_any]
    refine ⟨_, rfl, iteB (fun e => by cases e) (fun _ => ?_)⟩
    have s16 := s15.trans (Same.new (o := .lst ((List.replicate ((times r).map fun n => V.int (n : Nat)).length false).map V.bl)) nE)
    have h6 := (Same.new (o := .lst ((List.replicate ((times r).map fun n => V.int (n : Nat)).length false).map V.bl)) nE) _ _ h5
    generalize (L2.upd H5 E (.lst ((List.replicate ((times r).map fun n => V.int (n : Nat)).length false).map V.bl))) = H7 at s16 h6
    refine ⟨_, rfl, _, rfl, _, rfl, _, rfl, _, rfl, fun x dx' nx ndx hne => ?_⟩
    have R7 := R.kept s16
    have sx : L2.Same H7 (L2.upd (L2.upd (L2.upd H7 dx' (.own x)) x (.ins (ga K "Road") dx' [])) x (.ins (ga K "Road") dx' [("start", .str (nameAt cs r.a)), ("goal", .str (nameAt cs r.b)), ("times", .ref D), ("load", .int (r.l : Nat)), ("weight", .int (r.r : Nat))])) := Same.put (Same.put (Same.new ndx) nx) nx
    refine ⟨x, dx', _, _, _, _, _, rfl, upd_same, rfl, ?_⟩
    have R8 := R7.kept sx
    have ho : RoadAt K (L2.upd (L2.upd (L2.upd H7 dx' (.own x)) x (.ins (ga K "Road") dx' [])) x (.ins (ga K "Road") dx' [("start", .str (nameAt cs r.a)), ("goal", .str (nameAt cs r.b)), ("times", .ref D), ("load", .int (r.l : Nat)), ("weight", .int (r.r : Nat))])) cs (⟨x, dx', D⟩, r) := ⟨upd_same, sx _ _ h6⟩
    have s17 := s16.trans sx
    refine ⟨_, rfl, rd, _, dx, _, _, rfl, R8.hi, c_TownReader M, na_TownReader_roads M, rfl, _, rfl, rdd, _, rfl, .k (k := .inr r.name) R8.hr (by rw [kvOf_len]; unfold rkv; rw [List.length_map, sl0]; omega), ?_⟩
    rw [put_new hn]
    have er : rkv ros ++ [(r.name, V.ref x)] = rkv (ros ++ [((⟨x, dx', D⟩ : RdO), r)]) := by unfold rkv; rw [List.map_append]; rfl
    rw [er]
    exact k _ _ (R8.putR ho) ((Kp3.of s17).trans Kp3.u3)
theorem sc_TownReader_read_done : FnScope ["self", "number", "touched", "road"] ["self", "number"] (defScope s_TownReader_read_done) := ⟨rfl, rfl, rfl, by decide +kernel, rfl, by decide +kernel, by decide +kernel⟩
abbrev sp_TownReader_read_done (K : PySem.W.Frag) : Sp := fun vs H Q _ => ∃ (rd dx kd rdd : Addr) (cs : List (Str × V)) (ros : List (RdO × BL.Rd)) (n : V), vs = [.ref rd, n] ∧ RdrAt K H rd dx kd rdd cs ros false ∧
  WorldP cs (ros.map (·.2)) ∧ ∀ H', RdrAt K H' rd dx kd rdd cs ros true → Kp3 rd kd rdd H H' → Q .non H'
theorem met_TownReader_read_done (M : Md K mg) : C8.Met P w K mg base 3 (ga K "TownReader") "read_done" (sp_TownReader_read_done K) [] := by
  refine met_of (c_TownReader M) (m_TownReader_read_done M) (F_TownReader_read_done M) sc_TownReader_read_done (fun _ _ _ _ _ _ us hl => match us, hl with | [_, _], _ => rfl) (fun vs H Q E h => ?_) (fun cdv A outer s H vs Q E hr h => ?_)
  · obtain ⟨rd, dx, kd, rdd, cs, ros, n, rfl, _⟩ := h
    rfl
  · obtain ⟨rd, dx, kd, rdd, cs, ros, n, rfl, R, ok, k⟩ := h
    have hu := hu_of hr
    refine ⟨_, (pss_cons (ps_lock (BL.ps_setDc (i := 2) (own := [("road", 3)]) (g := (gName 3)) (tt := tYes) (tk := (tFld K (tVar 3) "start")) (tv := (tC (.bl true))) rfl sc_TownReader_read_done.nd rfl rfl (BL.sw_trueD rfl rfl rfl (by decide +kernel)) (pi_values (pe_fld (pv 0) rfl)) (blkOk_by (N := ["self", "number", "touched", "road"]) (by kernel_rfl)) (fun _ _ _ _ _ => (pg_name (i := 3) sc_TownReader_read_done.nd rfl (Or.inl rfl))) (fun _ _ _ _ _ => pts_nil) (fun _ _ _ _ _ => (pe_fld (pv 3) rfl)) (fun _ _ _ _ _ => pe_bl)))
  (pss_cons (ps_lock (ps_expr (pe_bm PySem.F.plainAttrs_dict PySem.F.slot_dict_update PySem.F.type_dict_update BL.mt_update (pv 2) (pa_cons (pe_dc (own := [("road", 3)]) (g := (gName 3)) (tt := tYes) (tk := (tFld K (tVar 3) "goal")) (tv := (tC (.bl true))) rfl sc_TownReader_read_done.nd (pi_values (pe_fld (pv 0) rfl)) (blkOk_by (N := ["self", "number", "touched", "road"]) (by kernel_rfl)) (fun _ _ _ _ _ => (pg_name (i := 3) sc_TownReader_read_done.nd rfl (Or.inl rfl))) (fun _ _ _ _ _ => pts_nil) (fun _ _ _ _ _ => (pe_fld (pv 3) rfl)) (fun _ _ _ _ _ => pe_bl)) pa_nil))))
  (pss_cons (ps_if (pt_cmpR op_eq (pe_callB call_lenD (by rfl) (b_len M) PySem.boot_len (pa_cons (pe_fld (pv 0) rfl) pa_nil)) pe_int (nomark _)) (pss_one ps_never) pss_nil)
  (pss_cons (ps_if (pt_cmpR op_lt (pe_callB call_lenD (by rfl) (b_len M) PySem.boot_len (pa_cons (pv 2) pa_nil)) (pe_callB call_lenD (by rfl) (b_len M) PySem.boot_len (pa_cons (pe_fld (pv 0) rfl) pa_nil)) (nomark _)) (pss_one ps_never) pss_nil)
  (pss_one (ps_fld (pv 0) pe_bl rfl)))))), ?_⟩
    have sl0 : sizeLine = 16777216 := rfl
    have rl48 : ros.length ≤ 49 := by
      have h1 := ok.st
      have h2 := ok.ow
      have h3 := len_two (ros.map (·.2))
      rw [List.length_map] at h3
      omega
    have kl : (kvOf (rkv ros)).length = ros.length := by rw [kvOf_len]; unfold rkv; rw [List.length_map]
    have rat : ∀ {i : Nat} {k : Key} {x : V}, (kvOf (rkv ros))[i]? = some (k, x) → ∃ o, ros[i]? = some o ∧ x = .ref o.1.ra := by
      intro i k x h
      unfold kvOf rkv at h
      rw [List.map_map, List.getElem?_map] at h
      cases e : ros[i]? with
      | none => rw [e] at h; cases h
      | some o => rw [e] at h; exact ⟨o, rfl, (congrArg Prod.snd (Option.some.inj h)).symm⟩
    have rdr : rd ≠ rdd := ne_of_ob R.hi R.hr (by simp)
    -- one dict of the roads' ends
    have turns : ∀ (f : Str) (nm : BL.Rd → Str) (H : Hp) (od : Obj) (D : Addr) (σ : L2.St), (na : NoAttr K (ga K "Road") f) → RdrAt K H rd dx kd rdd cs ros false → (L2.upd H rdd (.frz od (.dK (kvOf (rkv ros))))) D = none → True := fun _ _ _ _ _ _ _ _ _ => trivial
    refine ⟨rdd, _, R.hr, True.intro, fun od => ?_⟩
    have Rf : ∀ {a o}, H a = some o → a ≠ rdd → (L2.upd H rdd (.frz od (.dK (kvOf (rkv ros))))) a = some o := fun h n => (upd_ne n).trans h
    refine ⟨_, rfl, rd, _, dx, _, _, rfl, Rf R.hi rdr, c_TownReader M, na_TownReader_roads M, rfl, rdd, od, _, rfl, upd_same, fun D nD => ?_⟩
    have Dr : D ≠ rdd := (ne_of_none (H := L2.upd H rdd (.frz od (.dK (kvOf (rkv ros))))) upd_same nD).symm
    refine dc_it walk_values (fun i H1 => ∃ kvs : List (Key × V), H1 = L2.upd (L2.upd H rdd (.frz od (.dK (kvOf (rkv ros))))) D (.dK kvs) ∧ kvs.length ≤ i ∧ ∀ o ∈ ros.take i, (valV kvs (.inr (nameAt cs o.2.a))).isSome = true) ⟨[], rfl, Nat.le_refl _, nofun⟩ ?_ ?_ ?_
    · rintro i H1 _ ⟨kvs, rfl, _⟩
      exact (upd_ne Dr.symm).trans upd_same
    · rintro i x H1 H2 hi ⟨kvs, rfl, l1, m1⟩ ⟨rfl, kk, hx⟩
      obtain ⟨o, ho, rfl⟩ := rat hx
      have hR := R.ho o (List.mem_of_getElem? ho)
      have hf := Rf hR.1 (ne_of_ob hR.1 R.hr (by simp))
      refine ⟨rfl, _, rfl, o.1.ra, _, _, _, _, rfl, (upd_ne (ne_of_none hf nD)).trans hf, c_Road M, na_Road_start M, rfl, _, .inr (nameAt cs o.2.a), rfl, upd_same, by rw [kl] at hi; rw [sl0]; omega, ?_⟩
      refine ⟨_, upd_upd, by have := (put_len (kvs := kvs) (k := .inr (nameAt cs o.2.a)) (v := .bl true)).1; omega, fun q hq => ?_⟩
      rw [put_keys]
      rw [take_snoc ho] at hq
      rcases List.mem_append.mp hq with z | z
      · rw [m1 q z, Bool.or_true]
      · rw [List.mem_singleton.mp z, decide_eq_true rfl]; rfl
    rintro H1 ⟨T, rfl, l1, m1⟩
    rw [kl] at l1 m1
    rw [List.take_length] at m1
    refine ⟨(upd_ne Dr.symm).trans upd_same, ?_⟩
    rw [unlock R.hr Dr]
    have nD0 : H D = none := by rw [upd_ne Dr] at nD; exact nD
    have s1 : L2.Same H (L2.upd H D (.dK T)) := Same.new nD0
    have hT : (L2.upd H D (.dK T)) D = some (.dK T) := upd_same
    generalize (L2.upd H D (.dK T)) = H1 at s1 hT
    have R1 := R.kept s1
    clear Rf nD
    -- the goals too
    refine ⟨rdd, _, R1.hr, True.intro, fun od2 => ?_⟩
    have Rf : ∀ {a o}, H1 a = some o → a ≠ rdd → (L2.upd H1 rdd (.frz od2 (.dK (kvOf (rkv ros))))) a = some o := fun h n => (upd_ne n).trans h
    refine ⟨_, rfl, .inr (.inr (.inl ⟨rfl, .inl ⟨_, Rf hT Dr⟩⟩)), ?_⟩
    refine ⟨_, rfl, rd, _, dx, _, _, rfl, Rf R1.hi rdr, c_TownReader M, na_TownReader_roads M, rfl, rdd, od2, _, rfl, upd_same, fun E nE => ?_⟩
    have Er : E ≠ rdd := (ne_of_none (H := L2.upd H1 rdd (.frz od2 (.dK (kvOf (rkv ros))))) upd_same nE).symm
    have hTf := Rf hT Dr
    have DE : D ≠ E := ne_of_none hTf nE
    refine dc_it walk_values (fun i H2 => ∃ kvs : List (Key × V), H2 = L2.upd (L2.upd H1 rdd (.frz od2 (.dK (kvOf (rkv ros))))) E (.dK kvs) ∧ kvs.length ≤ i ∧ ∀ o ∈ ros.take i, (valV kvs (.inr (nameAt cs o.2.b))).isSome = true) ⟨[], rfl, Nat.le_refl _, nofun⟩ ?_ ?_ ?_
    · rintro i H2 _ ⟨kvs, rfl, _⟩
      exact (upd_ne Er.symm).trans upd_same
    · rintro i x H2 H3 hi ⟨kvs, rfl, l2, m2⟩ ⟨rfl, kk, hx⟩
      obtain ⟨o, ho, rfl⟩ := rat hx
      have hR := R1.ho o (List.mem_of_getElem? ho)
      have hf := Rf hR.1 (ne_of_ob hR.1 R1.hr (by simp))
      refine ⟨rfl, _, rfl, o.1.ra, _, _, _, _, rfl, (upd_ne (ne_of_none hf nE)).trans hf, c_Road M, na_Road_goal M, rfl, _, .inr (nameAt cs o.2.b), rfl, upd_same, by rw [kl] at hi; rw [sl0]; omega, ?_⟩
      refine ⟨_, upd_upd, by have := (put_len (kvs := kvs) (k := .inr (nameAt cs o.2.b)) (v := .bl true)).1; omega, fun q hq => ?_⟩
      rw [put_keys]
      rw [take_snoc ho] at hq
      rcases List.mem_append.mp hq with z | z
      · rw [m2 q z, Bool.or_true]
      · rw [List.mem_singleton.mp z, decide_eq_true rfl]; rfl
    rintro H2 ⟨T2, rfl, l2, m2⟩
    rw [kl] at l2 m2
    rw [List.take_length] at m2
    refine ⟨D, E, T, T2, rfl, rfl, DE, (upd_ne DE).trans hTf, upd_same, by rw [sl0]; omega, ?_, ?_⟩
    · exact (upd_ne Dr.symm).trans ((upd_ne Er.symm).trans upd_same)
    rw [unlock2 R1.hr Dr Er]
    have nE0 : H1 E = none := by rw [upd_ne Er] at nE; exact nE
    have s2 : L2.Same H (L2.upd (L2.upd H1 E (.dK T2)) D (.dK (mergeK T T2))) := Same.put (s1.trans (Same.new nE0)) nD0
    have R2 := R.kept s2
    have hT2 : (L2.upd (L2.upd H1 E (.dK T2)) D (.dK (mergeK T T2))) D = some (.dK (mergeK T T2)) := upd_same
    generalize (L2.upd (L2.upd H1 E (.dK T2)) D (.dK (mergeK T T2))) = H2 at s2 R2 hT2
    have lo := ok.lo
    have hlen : cs.length ≤ (mergeK T T2).length := by
      rw [← List.length_map (f := fun c : Str × V => c.1)]
      refine keys_le ok.cd fun z hz => ?_
      obtain ⟨c, hc, rfl⟩ := List.mem_map.mp hz
      obtain ⟨x, hx, ex⟩ := List.mem_iff_getElem.mp hc
      have en : nameAt cs x = c.1 := by rw [nameAt_eq hx, ex]
      obtain ⟨r, hr', e⟩ := ok.tch x hx
      obtain ⟨o, ho, rfl⟩ := List.mem_map.mp hr'
      rw [← en]
      rcases e with e | e
      · exact puts_keys (.inr (by rw [← e]; exact m1 o ho))
      · exact puts_keys (.inl (val_mem (by rw [← e]; exact m2 o ho)))
    refine ⟨_, rfl, rd, _, dx, _, _, rfl, R2.hi, c_TownReader M, na_TownReader_kinds M, rfl, ⟨_, _, rfl, R2.hk, ?_⟩⟩
    refine ⟨rfl, _, rfl, iteI (fun e => ?_) (fun _ => ?_)⟩
    · rw [kvOf_len] at e
      omega
    refine ⟨_, rfl, ⟨_, _, rfl, hT2, ?_⟩⟩
    refine ⟨_, rfl, rd, _, dx, _, _, rfl, R2.hi, c_TownReader M, na_TownReader_kinds M, rfl, ⟨_, _, rfl, R2.hk, ?_⟩⟩
    refine ⟨_, _, rfl, rfl, _, rfl, iteD (fun e => ?_) (fun _ => ?_)⟩
    · have e : ((mergeK T T2).length : Int) < ((kvOf cs).length : Nat) := e
      rw [kvOf_len] at e
      omega
    refine ⟨_, rfl, rd, _, dx, _, rfl, R2.hi, c_TownReader M, na_TownReader_ended M, Nat.le_of_ble_eq_true rfl, ?_⟩
    exact k _ R2.end_ ((Kp3.of s2).trans Kp3.u1)
end K02
set_option maxRecDepth 100000
set_option maxHeartbeats 4000000
namespace K02
open PySem PySem.Spec PyProof.Rows L2 He BL SX
local macro_rules | `(tactic| walk_at "ar") => `(tactic| first
  | exact Or.inl ⟨by omega, by omega⟩
  | exact Or.inr ⟨by omega, by omega⟩
  | exact ⟨by omega, by omega⟩
  | exact ⟨by omega, by omega, by omega⟩
  | exact ⟨by decide, by decide, by decide⟩
  | exact Nat.le_of_ble_eq_true rfl
  | exact rfl
  | omega
  | decide
  | fail)
local macro_rules | `(tactic| walk_at "ne") => `(tactic| first
  | assumption
  | (apply Ne.symm; assumption)
  | (refine ne_of_none ?_ (by assumption); walk_at "hp")
  | (apply Ne.symm; refine ne_of_none ?_ (by assumption); walk_at "hp")
  | fail)
local macro_rules | `(tactic| walk_at "hp") => `(tactic| first
  | assumption
  | exact upd_same
  | (refine (upd_ne ?_).trans ?_; · walk_at "ne"; · walk_at "hp")
  | (refine BL.Kp.at (by assumption) ?_ ?_; · walk_at "hp"; · walk_at "ne")
  | (refine BL.Same.at (by assumption) ?_; walk_at "hp")
  | fail)
local macro_rules | `(tactic| walk_at "rd1") => `(tactic| first
  | refine ⟨_, rfl, ?_⟩
  | refine ⟨_, _, rfl, rfl, ?_⟩
  | refine Or.inl ⟨_, rfl, ?_⟩
  | (refine ⟨_, _, _, _, rfl, rfl, SqL.of (by walk_at "hp"), rfl, ?_⟩)
  | (refine ⟨_, _, _, _, rfl, rfl, (by walk_at "hp"), rfl, ?_⟩)
  | (refine And.intro (by walk_at "ar") ?_)
  | fail)
local macro_rules | `(tactic| walk_at "rd") => `(tactic| (walk_at "rd1"; repeat' walk_at "rd1"))

variable {P : Program} {w : World} {K : PySem.W.Frag} {mg : Str → Option Value} {base : Heap}
theorem sc_TownReader_check_oneways : FnScope ["self", "surplus", "road", "crossing"] ["self"] (defScope s_TownReader_check_oneways) := ⟨rfl, rfl, rfl, by decide +kernel, rfl, by decide +kernel, by decide +kernel⟩
abbrev unevE (K : PySem.W.Frag) (z : Str) (H : Hp) (E : XK) : Prop := ∀ d, H d = none → E (.ref (ga K "Uneven")) (some d) (L2.upd H d (.xd [(("crossing" : Str), .str z)]))
theorem sc_Uneven___init__ : FnScope ["self", "crossing"] ["self", "crossing"] (defScope s_Uneven___init__) := ⟨rfl, rfl, rfl, by decide +kernel, rfl, by decide +kernel, by decide +kernel⟩
theorem err_Uneven (M : Md K mg) : ErrC P w K mg base 1 "Uneven" (spE1 (ga K "Uneven") "crossing") := by
  refine err_of (V_Uneven M) (kg_Uneven M) (F_Uneven___init__ M) sc_Uneven___init__ (fun _ _ _ _ _ _ us hl => match us, hl with | [_, _], _ => rfl) (fun vs H Q E h => ?_) (fun cdv A outer s H vs Q E hr h => ?_)
  · obtain ⟨a, x, rfl, _⟩ := h
    rfl
  · obtain ⟨a, x, rfl, ha, k⟩ := h
    refine ⟨_, pss_one (ps_ost (pv 0) (pv 1)), ?_⟩
    exact ⟨_, rfl, _, rfl, a, ga K "Uneven", rfl, (V_Uneven M).o, NF_Uneven_crossing M, .inl ⟨ha, k⟩⟩
abbrev sp_TownReader_check_oneways (K : PySem.W.Frag) : Sp := fun vs H Q E => ∃ (rd dx kd rdd : Addr) (cs : List (Str × V)) (ros : List (RdO × BL.Rd)) (e : Bool), vs = [.ref rd] ∧ RdrAt K H rd dx kd rdd cs ros e ∧
  WorldP cs (ros.map (·.2)) ∧ (unev cs (ros.map (·.2)) = none → ∀ H', L2.Same H H' → Q .non H') ∧
  (∀ z, unev cs (ros.map (·.2)) = some z → ∀ H', (∀ b o, H b = some o → b ≠ kd → H' b = some o) → unevE K z H' E)
theorem metX_TownReader_check_oneways (M : Md K mg) : BL.MetX P w K mg base 3 (ga K "TownReader") "check_oneways" (sp_TownReader_check_oneways K) := by
  refine metX_of (c_TownReader M) (m_TownReader_check_oneways M) (F_TownReader_check_oneways M) sc_TownReader_check_oneways (fun _ _ _ _ _ _ us hl => match us, hl with | [_], _ => rfl) (fun vs H Q E h => ?_) (fun cdv A outer s H vs Q E hr h => ?_)
  · obtain ⟨rd, dx, kd, rdd, cs, ros, e, rfl, _⟩ := h
    rfl
  · obtain ⟨rd, dx, kd, rdd, cs, ros, e, rfl, R, ok, k, kb⟩ := h
    have hu := hu_of hr
    refine ⟨_, (pss_cons (ps_lock (BL.ps_setDc (i := 1) (own := [("crossing", 3)]) (g := (gName 3)) (tt := tYes) (tk := (tVar 3)) (tv := (tC (.int 0))) rfl sc_TownReader_check_oneways.nd rfl rfl (BL.sw_trueD rfl rfl rfl (by decide +kernel)) (pi_keys (pe_fld (pv 0) rfl)) (blkOk_by (N := ["self", "surplus", "road", "crossing"]) (by kernel_rfl)) (fun _ _ _ _ _ => (pg_name (i := 3) sc_TownReader_check_oneways.nd rfl (Or.inl rfl))) (fun _ _ _ _ _ => pts_nil) (fun _ _ _ _ _ => (pv 3)) (fun _ _ _ _ _ => pe_int)))
  (pss_cons (ps_lock (ps_for (L2.passes_of rfl) rfl (pi_values (pe_fld (pv 0) rfl)) (pg_name (i := 2) sc_TownReader_check_oneways.nd rfl (Or.inl rfl)) (pss_one (ps_if (pt_not (pt_val (C8.pe_mt0 (met_Road_two_way M) hr (by decide) (pv 2)))) (pss_cons (ps_daug hu (pv 1) (pe_fld (pv 2) rfl) pe_int in_add (by intros; rfl))
  (pss_one (ps_daug hu (pv 1) (pe_fld (pv 2) rfl) pe_int in_sub (by intros; rfl)))) pss_nil))))
  (pss_one (ps_lock (ps_for (L2.passes_of rfl) rfl (pi_keys (pe_fld (pv 0) rfl)) (pg_name (i := 3) sc_TownReader_check_oneways.nd rfl (Or.inl rfl)) (pss_one (ps_if (pt_cmpR op_ne (pe_dget hu (pv 1) (pv 3) (fun _ _ => rfl)) pe_int (nomark _)) (pss_one (ps_raiseE rfl (err_Uneven M) hr (by decide) (takes_of rfl rfl rfl rfl) rfl (pa_cons (pv 3) pa_nil))) pss_nil))))))), ?_⟩
    have sl0 : sizeLine = 16777216 := rfl
    have cl := ok.hi
    have kat : ∀ {i : Nat} {k : Key} {x : V}, (kvOf cs)[i]? = some (k, x) → ∃ c, cs[i]? = some c ∧ k = .inr c.1 := by
      intro i k x h
      unfold kvOf at h
      rw [List.getElem?_map] at h
      cases e : cs[i]? with
      | none => rw [e] at h; cases h
      | some o => rw [e] at h; exact ⟨o, rfl, (congrArg Prod.fst (Option.some.inj h)).symm⟩
    have kl : (kvOf (rkv ros)).length = ros.length := by rw [kvOf_len]; unfold rkv; rw [List.length_map]
    have rat : ∀ {i : Nat} {k : Key} {x : V}, (kvOf (rkv ros))[i]? = some (k, x) → ∃ o, ros[i]? = some o ∧ x = .ref o.1.ra := by
      intro i k x h
      unfold kvOf rkv at h
      rw [List.map_map, List.getElem?_map] at h
      cases e : ros[i]? with
      | none => rw [e] at h; cases h
      | some o => rw [e] at h; exact ⟨o, rfl, (congrArg Prod.snd (Option.some.inj h)).symm⟩
    have rdr : rd ≠ rdd := ne_of_ob R.hi R.hr (by simp)
    have rdk : rd ≠ kd := ne_of_ob R.hi R.hk (by simp)
    -- surplus
    refine ⟨kd, _, R.hk, True.intro, fun od => ?_⟩
    refine ⟨_, rfl, rd, _, dx, _, _, rfl, (upd_ne rdk).trans R.hi, c_TownReader M, na_TownReader_kinds M, rfl, kd, od, rfl, .inl ⟨_, upd_same, fun D nD => ?_⟩⟩
    have Dk : D ≠ kd := (ne_of_none (H := L2.upd H kd (.frz od (.dK (kvOf cs)))) upd_same nD).symm
    refine dc_it walk_keys (fun i H1 => H1 = L2.upd (L2.upd H kd (.frz od (.dK (kvOf cs)))) D (.dK (kvOf ((cs.take i).map fun c => (c.1, V.int 0))))) rfl ?_ ?_ ?_
    · rintro i H1 _ rfl
      exact (upd_ne Dk.symm).trans upd_same
    · rintro i x H1 H2 hi rfl ⟨rfl, kk, vv, hx, rfl⟩
      obtain ⟨c, hc, rfl⟩ := kat hx
      refine ⟨rfl, _, rfl, _, .inr c.1, rfl, upd_same, by rw [kvOf_len, List.length_map, List.length_take, sl0]; omega, ?_⟩
      have hn := take_nin ok.cd hc
      rw [put_new (by rw [List.map_map]; exact hn), upd_upd, take_snoc hc, List.map_append]
      rfl
    rintro H1 rfl
    rw [kvOf_len, List.take_length]
    refine ⟨(upd_ne Dk.symm).trans upd_same, ?_⟩
    rw [unlock R.hk Dk]
    have nD0 : H D = none := by rw [upd_ne Dk] at nD; exact nD
    have Dr : D ≠ rdd := (ne_of_none R.hr nD0).symm
    have Dd : D ≠ rd := (ne_of_none R.hi nD0).symm
    have hS0 : (L2.upd H D (.dK (kvOf (cs.map fun c => (c.1, V.int 0))))) D = some (.dK (kvOf (cs.map fun c => (c.1, V.int (sur cs [] c.1))))) := upd_same
    have R1 := R.kept (Same.new (o := .dK (kvOf (cs.map fun c => (c.1, V.int 0)))) nD0)
    have fr : ∀ {a o}, (L2.upd H D (.dK (kvOf (cs.map fun c => (c.1, V.int 0))))) a = some o → a ≠ D → H a = some o := fun h n => by rw [upd_ne n] at h; exact h
    clear nD
    generalize hH1 : (L2.upd H D (.dK (kvOf (cs.map fun c => (c.1, V.int 0))))) = H1 at hS0 R1
    have kD : ∀ a o, H a = some o → a ≠ D ∧ H1 a = some o := fun a o h => ⟨ne_of_none h nD0, by rw [← hH1]; exact (upd_ne (ne_of_none h nD0)).trans h⟩
    -- the roads
    refine ⟨rdd, _, R1.hr, True.intro, fun od2 => ?_⟩
    refine ⟨_, rfl, rd, _, dx, _, _, rfl, (upd_ne rdr).trans R1.hi, c_TownReader M, na_TownReader_roads M, rfl, rdd, od2, _, rfl, upd_same, ?_⟩
    refine for_it walk_values (fun i σ H2 => ∃ o : Option V, σ = [some (.ref rd), some (.ref D), o, none] ∧ H2 = L2.upd (L2.upd H1 rdd (.frz od2 (.dK (kvOf (rkv ros))))) D (.dK (kvOf (cs.map fun c => (c.1, V.int (sur cs ((ros.take i).map (·.2)) c.1)))))) ⟨none, rfl, ?_⟩ ?_ ?_ ?_
    · funext a
      by_cases e : a = D
      · subst e
        rw [upd_same, upd_ne Dr]
        exact hS0
      · rw [upd_ne e]
    · rintro i σ H2 _ ⟨o, rfl, rfl⟩
      exact (upd_ne Dr.symm).trans upd_same
    · rintro i x σ H2 H3 hi ⟨o, rfl, rfl⟩ ⟨rfl, kk, hx⟩
      obtain ⟨q, hq, rfl⟩ := rat hx
      have hqm := List.mem_of_getElem? hq
      have hR := R.ho q hqm
      obtain ⟨h1, h2, h3⟩ := ok.re q.2 (List.mem_map.mpr ⟨q, hqm, rfl⟩)
      have keep : ∀ {a o u}, H a = some o → a ≠ rdd → (L2.upd (L2.upd H1 rdd (.frz od2 (.dK (kvOf (rkv ros))))) D u) a = some o := fun h n => (upd_ne (kD _ _ h).1).trans ((upd_ne n).trans (kD _ _ h).2)
      have n1 : q.1.ra ≠ rdd := ne_of_ob hR.1 R.hr (by simp)
      have n2 : q.1.rt ≠ rdd := ne_of_ob hR.2 R.hr (by simp)
      refine ⟨_, rfl, _, _, _, rfl, keep hR.1 n1, rfl, cs, q, rfl, ⟨keep hR.1 n1, keep hR.2 n2⟩, ⟨_, rfl, ?_⟩⟩
      cases htw : q.2.two with
      | true =>
        refine iteB (fun e => by cases e) (fun _ => ⟨_, rfl, ?_⟩)
        congr 1
        rw [take_snoc hq, List.map_append]
        show _ = HO.dK (kvOf (cs.map fun c => (c.1, V.int (sur cs ((ros.take i).map (·.2) ++ [q.2]) c.1))))
        congr 2
        refine List.map_congr_left fun c _ => ?_
        rw [sur_two cs _ htw]
      | false =>
        refine iteB (fun _ => ?_) (fun e => by cases e)
        refine ⟨_, rfl, _, rfl, q.1.ra, _, _, _, _, rfl, keep hR.1 n1, c_Road M, na_Road_start M, rfl, D, _, rfl, dget_int (sur cs ((ros.take i).map (·.2))) upd_same (name_in h1), ?_⟩
        refine ⟨_, _, rfl, rfl, _, .k (k := .inr (nameAt cs q.2.a)) upd_same (by rw [kvOf_len, List.length_map, sl0]; omega), ?_⟩
        rw [put_int (name_in h1), upd_upd]
        refine ⟨_, rfl, _, rfl, q.1.ra, _, _, _, _, rfl, keep hR.1 n1, c_Road M, na_Road_goal M, rfl, D, _, rfl, dget_int (fun z => if z = nameAt cs q.2.a then sur cs ((ros.take i).map (·.2)) (nameAt cs q.2.a) + 1 else sur cs ((ros.take i).map (·.2)) z) upd_same (name_in h2), ?_⟩
        refine ⟨_, _, rfl, rfl, _, .k (k := .inr (nameAt cs q.2.b)) upd_same (by rw [kvOf_len, List.length_map, sl0]; omega), ?_⟩
        rw [put_int (g := fun z => if z = nameAt cs q.2.a then sur cs ((ros.take i).map (·.2)) (nameAt cs q.2.a) + 1 else sur cs ((ros.take i).map (·.2)) z) (name_in h2), upd_upd]
        refine ⟨_, rfl, ?_⟩
        congr 1
        rw [take_snoc hq, List.map_append]
        show _ = HO.dK (kvOf (cs.map fun c => (c.1, V.int (sur cs ((ros.take i).map (·.2) ++ [q.2]) c.1))))
        congr 2
        refine List.map_congr_left fun c _ => ?_
        rw [sur_one cs _ htw]
    rintro σ H2 ⟨o, rfl, rfl⟩
    rw [kl, List.take_length]
    refine ⟨(upd_ne Dr.symm).trans upd_same, ?_⟩
    rw [unlock R1.hr Dr]
    have sS : L2.Same H (L2.upd H1 D (.dK (kvOf (cs.map fun c => (c.1, V.int (sur cs (ros.map (·.2)) c.1)))))) := fun a o h => (upd_ne (kD a o h).1).trans (kD a o h).2
    have hS : (L2.upd H1 D (.dK (kvOf (cs.map fun c => (c.1, V.int (sur cs (ros.map (·.2)) c.1)))))) D = some (.dK (kvOf (cs.map fun c => (c.1, V.int (sur cs (ros.map (·.2)) c.1))))) := upd_same
    generalize (L2.upd H1 D (.dK (kvOf (cs.map fun c => (c.1, V.int (sur cs (ros.map (·.2)) c.1)))))) = H3 at sS hS
    have R3 := R.kept sS
    refine ⟨kd, _, R3.hk, True.intro, fun od3 => ?_⟩
    refine ⟨_, rfl, rd, _, dx, _, _, rfl, (upd_ne rdk).trans R3.hi, c_TownReader M, na_TownReader_kinds M, rfl, kd, od3, rfl, .inl ⟨_, upd_same, ?_⟩⟩
    refine for_it walk_keys (fun i σ H4 => ∃ o o3 : Option V, σ = [some (.ref rd), some (.ref D), o, o3] ∧ H4 = L2.upd H3 kd (.frz od3 (.dK (kvOf cs))) ∧ ∀ c ∈ cs.take i, sur cs (ros.map (·.2)) c.1 = 0) ⟨o, none, rfl, rfl, nofun⟩ ?_ ?_ ?_
    · rintro i σ H4 _ ⟨o, o3, rfl, rfl, _⟩
      exact upd_same
    · rintro i x σ H4 H5 hi ⟨o, o3, rfl, rfl, hz⟩ ⟨rfl, kk, vv, hx, rfl⟩
      obtain ⟨c, hc, rfl⟩ := kat hx
      have hcm : c.1 ∈ cs.map (·.1) := List.mem_map.mpr ⟨c, List.mem_of_getElem? hc, rfl⟩
      refine ⟨_, rfl, _, rfl, D, _, rfl, dget_int (sur cs (ros.map (·.2))) ((upd_ne Dk).trans hS) hcm, rfl, _, rfl, ?_⟩
      refine iteIN (fun e0 => ?_) (fun e0 => ⟨o, _, rfl, rfl, fun d hd => ?_⟩)
      · refine raise1 (x := .str c.1) (fun Q q => ⟨_, rfl, q⟩) (fun d nd => ?_)
        exact kb c.1 (unev_at hc e0 hz) _ (fun b o hb nb => (upd_ne nb).trans (sS _ _ hb)) d nd
      · rw [take_snoc hc] at hd
        rcases List.mem_append.mp hd with hd | hd
        · exact hz d hd
        · rw [List.mem_singleton.mp hd]; exact e0
    · rintro σ H4 ⟨o, o3, rfl, rfl, hz⟩
      refine ⟨upd_same, ?_⟩
      rw [unlock0 R3.hk]
      refine k ?_ _ sS
      rw [kvOf_len, List.take_length] at hz
      unfold unev
      rw [List.find?_eq_none.mpr fun d hd => by rw [hz d hd]; simp]
      rfl
theorem sc_TownReader_read_line : FnScope ["self", "number", "line", "words"] ["self", "number", "line"] (defScope s_TownReader_read_line) := ⟨rfl, rfl, rfl, by decide +kernel, rfl, by decide +kernel, by decide +kernel⟩
abbrev sp_TownReader_read_line (K : PySem.W.Frag) : Sp := fun vs H Q E => ∃ (rd dx kd rdd : Addr) (n : V) (line : Str), vs = [.ref rd, n, .str line] ∧
  ((∃ (ks : List (Str × V)) (z : Str) (v : V), RdrAt K H rd dx kd rdd ks [] false ∧ line = crossT (z, v) ∧ NameOk z ∧ KindV v ∧ z ∉ ks.map (·.1) ∧ ks.length < 1000 ∧ ∀ H', RdrAt K H' rd dx kd rdd (ks ++ [(z, v)]) [] false → Kp3 rd kd rdd H H' → Q .non H') ∨
   (∃ (cs : List (Str × V)) (ros : List (RdO × BL.Rd)) (rs : List BL.Rd) (r : BL.Rd), RdrAt K H rd dx kd rdd cs ros false ∧ line = lineT cs r ∧ WorldP cs rs ∧ r ∈ rs ∧ r.name ∉ ros.map (·.2.name) ∧ ros.length < 1000 ∧ ∀ (o : RdO) H', RdrAt K H' rd dx kd rdd cs (ros ++ [(o, r)]) false → Kp3 rd kd rdd H H' → Q .non H') ∨
   (∃ (cs : List (Str × V)) (ros : List (RdO × BL.Rd)), RdrAt K H rd dx kd rdd cs ros false ∧ line = "done" ∧ WorldP cs (ros.map (·.2)) ∧ ∀ H', RdrAt K H' rd dx kd rdd cs ros true → Kp3 rd kd rdd H H' → Q .non H') ∨
   (∃ (ks : List (Str × V)) (ros : List (RdO × BL.Rd)) (m : Nat), RdrAt K H rd dx kd rdd ks ros false ∧ line = badL ∧ n = .int (m : Nat) ∧ ∀ H', Kp3 rd kd rdd H H' → outE K (.bad m) H' E))
theorem metX_TownReader_read_line (M : Md K mg) : BL.MetX P w K mg base 4 (ga K "TownReader") "read_line" (sp_TownReader_read_line K) := by
  refine metX_of (c_TownReader M) (m_TownReader_read_line M) (F_TownReader_read_line M) sc_TownReader_read_line (fun _ _ _ _ _ _ us hl => match us, hl with | [_, _, _], _ => rfl) (fun vs H Q E h => ?_) (fun cdv A outer s H vs Q E hr h => ?_)
  · obtain ⟨rd, dx, kd, rdd, n, line, rfl, _⟩ := h
    rfl
  · obtain ⟨rd, dx, kd, rdd, n, line, rfl, h⟩ := h
    refine ⟨_, (pss_cons (ps_if (pt_val (pe_fld (pv 0) rfl)) (pss_one (ps_raiseE rfl (err_BadTown M) hr (by decide) (takes_of rfl rfl rfl rfl) rfl (pa_cons (pv 1) (pa_cons pe_str pa_nil)))) pss_nil)
  (pss_cons (ps_set (i := 3) sc_TownReader_read_line.nd rfl (Or.inl rfl) (pe_split (pv 2) pe_str))
  (pss_one (BL.ps_match (pe_ix ix_list (pv 3) pe_int (fun _ _ => rfl)) (BL.pm_case (pt_cmpR op_eq (pe_callB call_len_seq (by rfl) (b_len M) PySem.boot_len (pa_cons (pv 3) pa_nil)) pe_int (nomark _)) (pss_one (ps_expr (C8.pe_mt (met_TownReader_read_crossing M) hr (by decide) (pv 0) (pa_cons (pv 1) (pa_cons (pv 3) pa_nil))))) (BL.pm_case (pt_cmpR op_eq (pe_callB call_len_seq (by rfl) (b_len M) PySem.boot_len (pa_cons (pv 3) pa_nil)) pe_int (nomark _)) (pss_one (ps_expr (BL.pe_mX (metX_TownReader_read_road M) hr (by decide) (takes_of rfl rfl rfl rfl) (pv 0) (pa_cons (pv 1) (pa_cons (pv 3) (pa_cons pe_int pa_nil)))))) (BL.pm_case (pt_cmpR op_eq (pe_callB call_len_seq (by rfl) (b_len M) PySem.boot_len (pa_cons (pv 3) pa_nil)) pe_int (nomark _)) (pss_one (ps_expr (BL.pe_mX (metX_TownReader_read_road M) hr (by decide) (takes_of rfl rfl rfl rfl) (pv 0) (pa_cons (pv 1) (pa_cons (pv 3) (pa_cons pe_int pa_nil)))))) (BL.pm_case (pt_cmpR op_eq (pe_callB call_len_seq (by rfl) (b_len M) PySem.boot_len (pa_cons (pv 3) pa_nil)) pe_int (nomark _)) (pss_one (ps_expr (C8.pe_mt (met_TownReader_read_done M) hr (by decide) (pv 0) (pa_cons (pv 1) pa_nil)))) BL.pm_never)))))))), ?_⟩
    rcases h with ⟨ks, z, v, R, rfl, zo, vo, zn, kl, k⟩ | ⟨cs, ros, rs, r, R, rfl, ok, rm, rn, rl, k⟩ | ⟨cs, ros, R, rfl, ok, k⟩ | ⟨ks, ros, m, R, rfl, rfl, k⟩
    · have cl := crossT_len (c := (z, v)) zo vo
      refine ⟨_, rfl, rd, _, dx, _, _, rfl, R.hi, c_TownReader M, na_TownReader_ended M, rfl, _, rfl, iteB (fun e => by cases e) (fun _ => ?_)⟩
      refine ⟨_, rfl, ⟨_, rfl⟩, _, _, rfl, rfl, by decide, Nat.le_trans (Nat.add_le_add_right cl 2) (by decide), fun p np => ?_⟩
      rw [crossT_split (c := (z, v)) zo vo]
      refine ⟨_, rfl, p, _, 0, .str "cross", rfl, rfl, SqL.of upd_same, at_of (j := 0) rfl rfl, ?_⟩
      refine ⟨_, rfl, fun _ => ?_, fun e => absurd rfl e⟩
      refine ⟨_, rfl, ⟨_, _, rfl, .inl (SqL.of upd_same), rfl, _, rfl, iteB (fun _ => ?_) (fun e => by cases e)⟩⟩
      have s1 := Same.new (o := .lst (([("cross" : Str), z, kindT v]).map .str)) np
      refine ⟨_, rfl, rd, dx, _, rfl, s1 _ _ R.hi, rfl, _, rfl, _, rfl, rd, dx, kd, rdd, p, ks, n, z, v, rfl, R.kept s1, upd_same, zo, vo, zn, kl, fun H' R' k' => ?_⟩
      exact k H' R' ((Kp3.of s1).trans k')
    · have cl := lineT_lenP ok rm
      refine ⟨_, rfl, rd, _, dx, _, _, rfl, R.hi, c_TownReader M, na_TownReader_ended M, rfl, _, rfl, iteB (fun e => by cases e) (fun _ => ?_)⟩
      refine ⟨_, rfl, ⟨_, rfl⟩, _, _, rfl, rfl, by decide, Nat.le_trans (Nat.add_le_add_right cl 2) (by decide), fun p np => ?_⟩
      rw [lineT_splitP ok rm]
      have s1 := Same.new (o := .lst ((lineW cs r).map .str)) np
      have hp : (L2.upd H p (.lst ((lineW cs r).map .str))) p = some (.lst ((lineW cs r).map .str)) := upd_same
      cases htw : r.two with
      | true =>
        have l0 : ((lineW cs r).map V.str)[0]? = some (.str "street") ∧ ((lineW cs r).map V.str).length = 8 := by unfold lineW lineB lineA; rw [htw]; exact ⟨rfl, rfl⟩
        refine ⟨_, rfl, p, _, 0, _, rfl, rfl, SqL.of hp, at_of (j := 0) rfl l0.1, ?_⟩
        refine ⟨_, rfl, fun e => absurd e (by decide), fun _ => ?_⟩
        refine ⟨_, rfl, fun _ => ?_, fun e => absurd rfl e⟩
        refine ⟨_, rfl, ⟨_, _, rfl, .inl (SqL.of hp), rfl, _, rfl, ?_⟩⟩
        rw [l0.2]
        refine iteB (fun _ => ?_) (fun e => by cases e)
        refine ⟨_, rfl, rd, dx, _, rfl, s1 _ _ R.hi, rfl, _, rfl, _, rfl, .inl ⟨rd, dx, kd, rdd, p, cs, ros, n, rs, r, by rw [htw]; rfl, R.kept s1, hp, ok, rm, rn, rl, fun o H' R' k' => ?_⟩⟩
        exact k o H' R' ((Kp3.of s1).trans k')
      | false =>
        have l0 : ((lineW cs r).map V.str)[0]? = some (.str "oneway") ∧ ((lineW cs r).map V.str).length = 7 := by unfold lineW lineB lineA; rw [htw]; exact ⟨rfl, rfl⟩
        refine ⟨_, rfl, p, _, 0, _, rfl, rfl, SqL.of hp, at_of (j := 0) rfl l0.1, ?_⟩
        refine ⟨_, rfl, fun e => absurd e (by decide), fun _ => ?_⟩
        refine ⟨_, rfl, fun e => absurd e (by decide), fun _ => ?_⟩
        refine ⟨_, rfl, fun _ => ?_, fun e => absurd rfl e⟩
        refine ⟨_, rfl, ⟨_, _, rfl, .inl (SqL.of hp), rfl, _, rfl, ?_⟩⟩
        rw [l0.2]
        refine iteB (fun _ => ?_) (fun e => by cases e)
        refine ⟨_, rfl, rd, dx, _, rfl, s1 _ _ R.hi, rfl, _, rfl, _, rfl, .inl ⟨rd, dx, kd, rdd, p, cs, ros, n, rs, r, by rw [htw]; rfl, R.kept s1, hp, ok, rm, rn, rl, fun o H' R' k' => ?_⟩⟩
        exact k o H' R' ((Kp3.of s1).trans k')
    · have es : Txt.split ("done" : Str) (" " : Str) = ([("done" : Str)] : List Str) := by decide +kernel
      refine ⟨_, rfl, rd, _, dx, _, _, rfl, R.hi, c_TownReader M, na_TownReader_ended M, rfl, _, rfl, iteB (fun e => by cases e) (fun _ => ?_)⟩
      refine ⟨_, rfl, ⟨_, rfl⟩, _, _, rfl, rfl, by decide, by decide, fun p np => ?_⟩
      rw [es]
      have s1 := Same.new (o := .lst (([("done" : Str)] : List Str).map .str)) np
      refine ⟨_, rfl, p, _, 0, .str "done", rfl, rfl, SqL.of upd_same, at_of (j := 0) rfl rfl, ?_⟩
      refine ⟨_, rfl, fun e => absurd e (by decide), fun _ => ?_⟩
      refine ⟨_, rfl, fun e => absurd e (by decide), fun _ => ?_⟩
      refine ⟨_, rfl, fun e => absurd e (by decide), fun _ => ?_⟩
      refine ⟨_, rfl, fun _ => ?_, fun e => absurd rfl e⟩
      refine ⟨_, rfl, ⟨_, _, rfl, .inl (SqL.of upd_same), rfl, _, rfl, iteB (fun _ => ?_) (fun e => by cases e)⟩⟩
      refine ⟨_, rfl, rd, dx, _, rfl, s1 _ _ R.hi, rfl, _, rfl, rd, dx, kd, rdd, cs, ros, n, rfl, R.kept s1, ok, fun H' R' k' => ?_⟩
      exact k H' R' ((Kp3.of s1).trans k')
    · refine ⟨_, rfl, rd, _, dx, _, _, rfl, R.hi, c_TownReader M, na_TownReader_ended M, rfl, _, rfl, iteB (fun e => by cases e) (fun _ => ?_)⟩
      refine ⟨_, rfl, ⟨_, rfl⟩, _, _, rfl, rfl, by decide, by decide, fun p np => ?_⟩
      rw [badL_split]
      have s1 := Same.new (o := .lst (([("street" : Str), "0", "1", "2", "1", "1", "0", "1"] : List Str).map .str)) np
      have hp : (L2.upd H p (.lst (([("street" : Str), "0", "1", "2", "1", "1", "0", "1"] : List Str).map .str))) p = some (.lst (([("street" : Str), "0", "1", "2", "1", "1", "0", "1"] : List Str).map .str)) := upd_same
      refine ⟨_, rfl, p, _, 0, _, rfl, rfl, SqL.of hp, at_of (j := 0) rfl rfl, ?_⟩
      refine ⟨_, rfl, fun e => absurd e (by decide), fun _ => ?_⟩
      refine ⟨_, rfl, fun _ => ?_, fun e => absurd rfl e⟩
      refine ⟨_, rfl, ⟨_, _, rfl, .inl (SqL.of hp), rfl, _, rfl, iteB (fun _ => ?_) (fun e => by cases e)⟩⟩
      exact ⟨_, rfl, rd, dx, _, rfl, s1 _ _ R.hi, rfl, _, rfl, _, rfl, .inr ⟨rd, p, m, rfl, hp, k _ (Kp3.of s1)⟩⟩
end K02
set_option maxRecDepth 100000
set_option maxHeartbeats 4000000
namespace K02
open PySem PySem.Spec PyProof.Rows L2 He BL SX
local macro_rules | `(tactic| walk_at "ar") => `(tactic| first
  | exact Or.inl ⟨by omega, by omega⟩
  | exact Or.inr ⟨by omega, by omega⟩
  | exact ⟨by omega, by omega⟩
  | exact ⟨by omega, by omega, by omega⟩
  | exact ⟨by decide, by decide, by decide⟩
  | exact Nat.le_of_ble_eq_true rfl
  | exact rfl
  | omega
  | decide
  | fail)
local macro_rules | `(tactic| walk_at "ne") => `(tactic| first
  | assumption
  | (apply Ne.symm; assumption)
  | (refine ne_of_none ?_ (by assumption); walk_at "hp")
  | (apply Ne.symm; refine ne_of_none ?_ (by assumption); walk_at "hp")
  | fail)
local macro_rules | `(tactic| walk_at "hp") => `(tactic| first
  | assumption
  | exact upd_same
  | (refine (upd_ne ?_).trans ?_; · walk_at "ne"; · walk_at "hp")
  | (refine BL.Kp.at (by assumption) ?_ ?_; · walk_at "hp"; · walk_at "ne")
  | (refine BL.Same.at (by assumption) ?_; walk_at "hp")
  | fail)
local macro_rules | `(tactic| walk_at "rd1") => `(tactic| first
  | refine ⟨_, rfl, ?_⟩
  | refine ⟨_, _, rfl, rfl, ?_⟩
  | refine Or.inl ⟨_, rfl, ?_⟩
  | (refine ⟨_, _, _, _, rfl, rfl, SqL.of (by walk_at "hp"), rfl, ?_⟩)
  | (refine ⟨_, _, _, _, rfl, rfl, (by walk_at "hp"), rfl, ?_⟩)
  | (refine And.intro (by walk_at "ar") ?_)
  | fail)
local macro_rules | `(tactic| walk_at "rd") => `(tactic| (walk_at "rd1"; repeat' walk_at "rd1"))

variable {P : Program} {w : World} {K : PySem.W.Frag} {mg : Str → Option Value} {base : Heap}
theorem sc_TownReader_read_text : FnScope ["self", "text", "lines", "tail", "number", "line", "both", "name"] ["self", "text"] (defScope s_TownReader_read_text) := ⟨rfl, rfl, rfl, by decide +kernel, rfl, by decide +kernel, by decide +kernel⟩
abbrev sp_TownReader_read_text (K : PySem.W.Frag) : Sp := fun vs H Q E => ∃ (rd dx kd rdd : Addr) (cs : List (Str × V)) (rs : List BL.Rd) (z : Str) (ls : List Str) (m : Nat) (o : Out), vs = [.ref rd, .str z] ∧ RdrAt K H rd dx kd rdd [] [] false ∧
  Rds cs rs z ls m o ∧ (o = .town → ∀ (ros : List (RdO × BL.Rd)) H', ros.map (·.2) = rs → RdrAt K H' rd dx kd rdd cs ros true → Kp3 rd kd rdd H H' → Q .non H') ∧
  (o ≠ .town → ∀ H', Kp3 rd kd rdd H H' → outE K o H' E)
theorem metX_TownReader_read_text (M : Md K mg) : BL.MetX P w K mg base 5 (ga K "TownReader") "read_text" (sp_TownReader_read_text K) := by
  refine metX_of (c_TownReader M) (m_TownReader_read_text M) (F_TownReader_read_text M) sc_TownReader_read_text (fun _ _ _ _ _ _ us hl => match us, hl with | [_, _], _ => rfl) (fun vs H Q E h => ?_) (fun cdv A outer s H vs Q E hr h => ?_)
  · obtain ⟨rd, dx, kd, rdd, cs, rs, z, ls, m, o, rfl, _⟩ := h
    rfl
  · obtain ⟨rd, dx, kd, rdd, cs, rs, z, ls, m, o, rfl, R, ⟨ok, zl, sp, l100, ag, cas⟩, k, kb⟩ := h
    have hu := hu_of hr
    refine ⟨_, (pss_cons (ps_expr (C8.pe_c (cal_check_text M) hr (by decide) rfl (pa_cons (pv 1) pa_nil)))
  (pss_cons (ps_asg (C8.pe_c (cal_lines_of M) hr (by decide) rfl (pa_cons (pv 1) pa_nil)) (pg_tup rfl (pgs_cons (pg_name (i := 2) sc_TownReader_read_text.nd rfl (Or.inl rfl)) (pgs_cons (pg_name (i := 3) sc_TownReader_read_text.nd rfl (Or.inl rfl)) pgs_nil))))
  (pss_cons (ps_for (L2.passes_of rfl) rfl (BL.pi_enumK rfl (b_enumerate M) (pa_cons (pv 2) pa_nil) (pk_cons pe_int pk_nil)) (pg_tup rfl (pgs_cons (pg_name (i := 4) sc_TownReader_read_text.nd rfl (Or.inl rfl)) (pgs_cons (pg_name (i := 5) sc_TownReader_read_text.nd rfl (Or.inl rfl)) pgs_nil))) (pss_one (ps_if (pt_cmpR op_eq (pv 4) pe_int (nomark _)) (pss_one (ps_if (pt_cmpR op_ne (pv 5) pe_str (nomark _)) (pss_one (ps_raiseE rfl (err_BadTown M) hr (by decide) (takes_of rfl rfl rfl rfl) rfl (pa_cons (pv 4) (pa_cons pe_str pa_nil)))) pss_nil)) (pss_one (ps_expr (BL.pe_mX (metX_TownReader_read_line M) hr (by decide) (takes_of rfl rfl rfl rfl) (pv 0) (pa_cons (pv 4) (pa_cons (pv 5) pa_nil))))))))
  (pss_cons (ps_if (PW.pt (pw_or (pt_cmpR op_ne (pv 3) pe_str (nomark _)) (pw_or1 (pt_not (pt_val (pe_fld (pv 0) rfl)))))) (pss_one (ps_raiseE rfl (err_BadTown M) hr (by decide) (takes_of rfl rfl rfl rfl) rfl (pa_cons (pe_op op_add (pe_callB call_len_seq (by rfl) (b_len M) PySem.boot_len (pa_cons (pv 2) pa_nil)) pe_int) (pa_cons pe_str pa_nil)))) pss_nil)
  (pss_cons (ps_lock (ps_set (i := 6) sc_TownReader_read_text.nd rfl (Or.inl rfl) (pe_callB call_len_seq (by rfl) (b_len M) PySem.boot_len (pa_cons (pe_lc (own := [("name", 7)]) (g := (gName 7)) (tt := (tB (tMeth (He.ga K "Road") "two_way" (sp_Road_two_way K) [] E0 (tDGet (tFld K (tVar 0) "roads") (tVar 7)) tNil))) (te := (tVar 7)) rfl sc_TownReader_read_text.nd (pi_keys (pe_fld (pv 0) rfl)) (blkOk_by (N := ["self", "text", "lines", "tail", "number", "line", "both", "name"]) (by kernel_rfl)) (fun _ _ _ _ _ => (pg_name (i := 7) sc_TownReader_read_text.nd rfl (Or.inl rfl))) (fun _ _ _ _ _ => (pts_one (pt_val (C8.pe_mt0 (met_Road_two_way M) hr (by decide) (pe_dget hu (pe_fld (pv 0) rfl) (pv 7) (fun _ _ => rfl)))))) (fun _ _ _ _ _ => (pv 7))) pa_nil))))
  (pss_cons (ps_expr (BL.pe_cX (calX_check_sizes M) hr (by decide) (takes_of rfl rfl rfl rfl) rfl (pa_cons (pe_callB call_lenD (by rfl) (b_len M) PySem.boot_len (pa_cons (pe_fld (pv 0) rfl) pa_nil)) (pa_cons (pv 6) (pa_cons (pe_op op_sub (pe_callB call_lenD (by rfl) (b_len M) PySem.boot_len (pa_cons (pe_fld (pv 0) rfl) pa_nil)) (pv 6)) pa_nil)))))
  (pss_one (ps_expr (BL.pe_mX0 (metX_TownReader_check_oneways M) hr (by decide) (takes_of rfl rfl rfl rfl) (pv 0)))))))))), ?_⟩
    have sl0 : sizeLine = 16777216 := rfl
    refine ⟨_, rfl, _, rfl, zl, ?_⟩
    refine ⟨_, rfl, _, ls, rfl, zl, sp, l100, fun t p H1 s1 ht hp => ?_⟩
    refine ⟨t, _, rfl, .of ht, rfl, _, _, rfl, _, _, rfl, rfl, ?_⟩
    have R1 := R.kept s1
    refine ⟨_, rfl, p, _, 1, rfl, rfl, ⟨by decide, by decide⟩, SqL.of hp, ?_⟩
    have ndn := ok.cd
    have rl48 : rs.length ≤ 49 := by
      have h1 := ok.st
      have h2 := ok.ow
      have h3 := len_two rs
      omega
    have cl24 := ok.hi
    -- a line's turn
    have hlen : (ls.map V.str).length = ls.length := List.length_map ..
    have llen : (linesT cs rs).length = cs.length + rs.length + 2 := linesT_length cs rs
    have mle : m ≤ ls.length ∧ m ≤ cs.length + rs.length + 2 := by
      rcases cas with ⟨e1, e2, _⟩ | ⟨_, h1, h2, _⟩
      · rw [e1, e2, llen]; exact ⟨Nat.le_refl _, Nat.le_refl _⟩
      · exact ⟨by omega, by omega⟩
    have pne : p ≠ rd ∧ p ≠ kd ∧ p ≠ rdd := ⟨ne_of_ob hp R1.hi (by simp), ne_of_ob hp R1.hk (by simp), ne_of_ob hp R1.hr (by simp)⟩
    refine for_it (walk_enumK (xs := ls.map V.str)) (fun i σ H2 => ∃ (ros : List (RdO × BL.Rd)) (o4 o5 : Option V), σ = [some (.ref rd), some (.str z), some (.ref p), some (.str ""), o4, o5, none, none] ∧ ros.map (·.2) = rs.take (i - 1 - cs.length) ∧ RdrAt K H2 rd dx kd rdd (cs.take (i - 1)) ros (decide (cs.length + rs.length + 2 ≤ i)) ∧ Kp3 rd kd rdd H1 H2 ∧ i ≤ m) ⟨[], none, none, rfl, ?_, ?_, Kp3.refl _ _ _ _, Nat.zero_le _⟩ ?_ ?_ ?_
    · simp
    · rw [decide_eq_false (by omega)]
      exact R1
    · rintro i σ H2 _ ⟨ros, o4, o5, rfl, _, _, k2, _⟩
      exact SqL.of (k2 _ _ hp pne.1 pne.2.1 pne.2.2)
    · rintro i x σ H2 H3 hi ⟨ros, o4, o5, rfl, er, R2, k2, lm⟩ ⟨T, y1, y2, rfl, nT, rfl, e1, e2⟩
      have e1 := (Option.some.inj e1).symm
      subst e1
      rw [hlen] at hi
      have sT := Same.new (o := .tup [.int (1 + (i : Nat)), y2]) nT
      obtain ⟨ln, hln, rfl⟩ := at_map e2
      have hcase : (i < m ∧ (linesT cs rs)[i]? = some ln) ∨ (i = m ∧ 1 ≤ m ∧ m ≤ cs.length + rs.length + 1 ∧ ln = badL ∧ o = .bad (m + 1)) := by
        rcases Nat.lt_or_ge i m with q | q
        · exact .inl ⟨q, (ag i q).symm.trans hln⟩
        · have em : i = m := by omega
          rcases cas with ⟨e1, _⟩ | ⟨h1, _, h3, h4, h5⟩
          · omega
          · rw [em, h4] at hln
            exact .inr ⟨em, h1, h3, (Option.some.inj hln).symm, h5⟩
      have hlnm : ∀ {x y : Str}, some x = some y → x = y := fun h => Option.some.inj h
      refine ⟨T, _, rfl, .of upd_same, rfl, _, _, rfl, _, _, rfl, rfl, ?_⟩
      have R3 := R2.kept sT
      have k3 := k2.trans (Kp3.of (rd := rd) (kd := kd) (rdd := rdd) sT)
      generalize (L2.upd H2 T (.tup [.int (1 + (i : Nat)), .str ln])) = H3 at R3 k3
      clear sT nT R2 k2
      refine ⟨_, rfl, rfl, _, rfl, ?_⟩
      rcases hcase with ⟨im, hln⟩ | ⟨em, hm1, hm2, rfl, eo⟩
      rotate_left
      · refine iteI (fun e => by omega) (fun _ => ?_)
        rw [decide_eq_false (by omega)] at R3
        refine ⟨_, rfl, rd, dx, _, rfl, R3.hi, rfl, _, rfl, _, rfl, rd, dx, kd, rdd, _, badL, rfl, .inr (.inr (.inr ⟨_, _, m + 1, R3, rfl, by rw [em]; congr 1; omega, fun H' k' => ?_⟩))⟩
        have := kb (by rw [eo]; exact nofun) H' (((Kp3.of s1).trans k3).trans k')
        rw [eo] at this
        exact this
      rcases Nat.lt_or_ge i 1 with h0 | h0
      · -- town
        have hi0 : i = 0 := by omega
        subst hi0
        have hln := hln.symm.trans (line_0 cs rs)
        have hln := Option.some.inj hln
        subst hln
        refine iteI (fun _ => ?_) (fun e => absurd rfl e)
        refine ⟨_, rfl, rfl, _, rfl, iteSN (fun e => absurd rfl e) (fun _ => ?_)⟩
        rw [decide_eq_false (by omega)] at R3
        refine ⟨ros, _, _, rfl, er, ?_, k3, im⟩
        rw [decide_eq_false (by omega)]
        exact R3
      refine iteI (fun e => by omega) (fun _ => ?_)
      refine ⟨_, rfl, rd, dx, _, rfl, R3.hi, rfl, _, rfl, _, rfl, rd, dx, kd, rdd, _, ln, rfl, ?_⟩
      rcases Nat.lt_or_ge (i - 1) cs.length with h1 | h1
      · -- a crossing
        obtain ⟨c, hc⟩ : ∃ c, cs[i - 1]? = some c := ⟨_, List.getElem?_eq_getElem h1⟩
        have hl := line_c (rs := rs) hc
        rw [show i - 1 + 1 = i by omega, hln] at hl
        have hcm := List.mem_of_getElem? hc
        have er0 : ros = [] := by
          rw [show i - 1 - cs.length = 0 by omega] at er
          exact List.map_eq_nil_iff.mp er
        subst er0
        rw [decide_eq_false (by omega)] at R3
        refine .inl ⟨cs.take (i - 1), c.1, c.2, R3, Option.some.inj hl, ok.cn c hcm, ok.ck c hcm, take_nin ndn hc, by rw [List.length_take]; omega, fun H4 R4 k4 => ?_⟩
        refine ⟨[], _, _, rfl, ?_, ?_, k3.trans k4, im⟩
        · rw [show i + 1 - 1 - cs.length = 0 by omega]; rfl
        · rw [decide_eq_false (by omega), show i + 1 - 1 = (i - 1) + 1 by omega, take_snoc hc]
          exact R4
      rcases Nat.lt_or_ge (i - 1 - cs.length) rs.length with h2 | h2
      · -- a road
        obtain ⟨r, hrr⟩ : ∃ r, rs[i - 1 - cs.length]? = some r := ⟨_, List.getElem?_eq_getElem h2⟩
        have hl := line_r (cs := cs) hrr
        rw [show i - 1 - cs.length + 1 + cs.length = i by omega, hln] at hl
        rw [decide_eq_false (by omega), List.take_of_length_le (show cs.length ≤ i - 1 by omega)] at R3
        have rol : ros.length = i - 1 - cs.length := by
          have := congrArg List.length er
          rw [List.length_map, List.length_take] at this
          omega
        refine .inr (.inl ⟨cs, ros, rs, r, R3, Option.some.inj hl, ok, List.mem_of_getElem? hrr, ?_, by omega, fun o H4 R4 k4 => ?_⟩)
        · have e : ros.map (·.2.name) = (rs.take (i - 1 - cs.length)).map (·.name) := by rw [← er, List.map_map]; rfl
          rw [e]
          exact take_nin ok.rd hrr
        · refine ⟨ros ++ [(o, r)], _, _, rfl, ?_, ?_, k3.trans k4, im⟩
          · rw [show i + 1 - 1 - cs.length = (i - 1 - cs.length) + 1 by omega, take_snoc hrr, List.map_append, er]; rfl
          · rw [decide_eq_false (by omega), List.take_of_length_le (show cs.length ≤ i + 1 - 1 by omega)]
            exact R4
      · -- done
        have hid : i = rs.length + 1 + cs.length := by omega
        have hl := line_d cs rs
        rw [← hid, hln] at hl
        rw [decide_eq_false (by omega), List.take_of_length_le (show cs.length ≤ i - 1 by omega)] at R3
        rw [List.take_of_length_le (by omega)] at er
        refine .inr (.inr (.inl ⟨cs, ros, R3, Option.some.inj hl, by rw [er]; exact ok, fun H4 R4 k4 => ?_⟩))
        refine ⟨ros, _, _, rfl, ?_, ?_, k3.trans k4, im⟩
        · rw [List.take_of_length_le (by omega)]; exact er
        · rw [decide_eq_true (by omega), List.take_of_length_le (show cs.length ≤ i + 1 - 1 by omega)]
          exact R4
    rintro σ H2 ⟨ros, o4, o5, rfl, er, R2, k2, lm⟩
    rw [hlen] at lm
    obtain ⟨_, hl, _, hcase⟩ := cas.resolve_right (fun q => by have := q.2.1; omega)
    have hlen : (ls.map V.str).length = cs.length + rs.length + 2 := by rw [hlen, hl, llen]
    rw [hlen, List.take_of_length_le (by omega)] at er
    rw [hlen, List.take_of_length_le (by omega), decide_eq_true (Nat.le_refl _)] at R2
    clear hp ht hlen
    refine ⟨_, rfl, rfl, _, rfl, iteSN (fun e => absurd rfl e) (fun _ => ?_)⟩
    refine ⟨_, rfl, rd, _, dx, _, _, rfl, R2.hi, c_TownReader M, na_TownReader_ended M, rfl, _, rfl, iteB (fun e => by cases e) (fun _ => ?_)⟩
    have kl : (kvOf (rkv ros)).length = ros.length := by rw [kvOf_len]; unfold rkv; rw [List.length_map]
    have rol : ros.length = rs.length := by rw [← er, List.length_map]
    have rnd : ((rkv ros).map (·.1)).Nodup := by
      have : (rkv ros).map (·.1) = rs.map (·.name) := by unfold rkv; rw [List.map_map, ← er, List.map_map]; rfl
      rw [this]; exact ok.rd
    have rat : ∀ {i : Nat} {k : Key} {x : V}, (kvOf (rkv ros))[i]? = some (k, x) → ∃ o, ros[i]? = some o ∧ k = .inr o.2.name := by
      intro i k x h
      unfold kvOf rkv at h
      rw [List.map_map, List.getElem?_map] at h
      cases e : ros[i]? with
      | none => rw [e] at h; cases h
      | some o => rw [e] at h; exact ⟨o, rfl, (congrArg Prod.fst (Option.some.inj h)).symm⟩
    have rdr : rd ≠ rdd := ne_of_ob R2.hi R2.hr (by simp)
    -- both
    refine ⟨rdd, _, R2.hr, True.intro, fun od => ?_⟩
    have Rf : ∀ {a o}, H2 a = some o → a ≠ rdd → (L2.upd H2 rdd (.frz od (.dK (kvOf (rkv ros))))) a = some o := fun h n => (upd_ne n).trans h
    refine ⟨_, rfl, rd, _, dx, _, _, rfl, Rf R2.hi rdr, c_TownReader M, na_TownReader_roads M, rfl, rdd, od, rfl, .inl ⟨_, upd_same, fun D nD => ?_⟩⟩
    have Dr : D ≠ rdd := (ne_of_none (H := L2.upd H2 rdd (.frz od (.dK (kvOf (rkv ros))))) upd_same nD).symm
    refine lc_it walk_keys (fun i H3 => H3 = L2.upd (L2.upd H2 rdd (.frz od (.dK (kvOf (rkv ros))))) D (.lst (((ros.take i).filter (·.2.two)).map fun o => V.str o.2.name))) rfl ?_ ?_ ?_
    · rintro i H3 _ rfl
      exact (upd_ne Dr.symm).trans upd_same
    · rintro i x H3 H4 hi rfl ⟨rfl, kk, vv, hx, rfl⟩
      obtain ⟨o, ho, rfl⟩ := rat hx
      have hom := List.mem_of_getElem? ho
      have hR := R2.ho o hom
      have g : ∀ {a u w}, H2 a = some u → a ≠ rdd → (L2.upd (L2.upd H2 rdd (.frz od (.dK (kvOf (rkv ros))))) D w) a = some u := fun h n => (upd_ne (ne_of_none (Rf h n) nD)).trans (Rf h n)
      have n1 : o.1.ra ≠ rdd := ne_of_ob hR.1 R2.hr (by simp)
      have n2 : o.1.rt ≠ rdd := ne_of_ob hR.2 R2.hr (by simp)
      have dg : DGet (L2.upd (L2.upd H2 rdd (.frz od (.dK (kvOf (rkv ros))))) D (.lst (((ros.take i).filter (·.2.two)).map fun o => V.str o.2.name))) rdd (.str o.2.name) (some (.ref o.1.ra)) := by
        have hv : valV (kvOf (rkv ros)) (.inr o.2.name) = some (.ref o.1.ra) := val_some (c := (o.2.name, V.ref o.1.ra)) (List.mem_map.mpr ⟨o, hom, rfl⟩) rnd
        rw [← hv]
        exact dget_frz (o := od) ((upd_ne Dr.symm).trans upd_same)
      refine ⟨rfl, _, rfl, rd, _, dx, _, _, rfl, g R2.hi rdr, c_TownReader M, na_TownReader_roads M, rfl, _, rfl, rdd, _, rfl, dg, _, _, _, rfl, g hR.1 n1, rfl, _, o, rfl, ⟨g hR.1 n1, g hR.2 n2⟩, ⟨_, rfl, ?_⟩⟩
      cases htw : o.2.two with
      | true =>
        refine iteB (fun _ => ?_) (fun e => by cases e)
        refine ⟨_, rfl, _, upd_same, ?_, ?_⟩
        · rw [List.length_map, sl0]
          have := List.length_filter_le (fun o : RdO × BL.Rd => o.2.two) (ros.take i)
          rw [List.length_take] at this
          omega
        · rw [upd_upd, take_snoc ho, List.filter_append, List.map_append]
          simp [htw]
          rfl
      | false =>
        refine iteB (fun e => by cases e) (fun _ => ?_)
        rw [take_snoc ho, List.filter_append]
        simp [htw]
    rintro H3 rfl
    rw [kl, List.take_length]
    refine ⟨D, _, rfl, .inl (SqL.of upd_same), ?_⟩
    refine ⟨(upd_ne Dr.symm).trans upd_same, ?_⟩
    rw [unlock R2.hr Dr]
    have nD0 : H2 D = none := by rw [upd_ne Dr] at nD; exact nD
    have s3 : L2.Same H2 (L2.upd H2 D (.lst ((ros.filter (·.2.two)).map fun o => V.str o.2.name))) := Same.new nD0
    have R3 := R2.kept s3
    generalize (L2.upd H2 D (.lst ((ros.filter (·.2.two)).map fun o => V.str o.2.name))) = H3 at s3 R3
    have fl : (ros.filter (·.2.two)).length = (rs.filter (·.two)).length := by
      rw [← er, List.filter_map, List.length_map]; rfl
    have l2 := len_two rs
    have h1 := ok.st
    have h2 := ok.ow
    rw [List.length_map, fl]
    refine ⟨_, rfl, rd, _, dx, _, _, rfl, R3.hi, c_TownReader M, na_TownReader_kinds M, rfl, ⟨_, _, rfl, R3.hk, ?_⟩⟩
    refine ⟨_, rfl, _, rfl, rd, _, dx, _, _, rfl, R3.hi, c_TownReader M, na_TownReader_roads M, rfl, ⟨_, _, rfl, R3.hr, ?_⟩⟩
    rw [kvOf_len, kl, rol]
    have K3 : Kp3 rd kd rdd H H3 := ((Kp3.of s1).trans k2).trans (Kp3.of s3)
    refine ⟨_, rfl, _, _, rfl, rfl, _, _, _, rfl, by omega, by omega, by omega, fun hc => ?_, fun hc => ?_⟩
    rotate_left
    · rcases hcase with ⟨h12, ho⟩ | ⟨h12, ho⟩
      · have := kb (by rw [ho]; exact nofun) H3 K3
        rw [ho] at this
        exact this
      · omega
    rcases hcase with ⟨h12, ho⟩ | ⟨h12, ho⟩
    · omega
    refine ⟨_, rfl, rd, dx, _, rfl, R3.hi, rfl, rd, dx, kd, rdd, cs, ros, true, rfl, R3, by rw [er]; exact ok, fun e H4 s4 => ?_, fun z e H4 k4 => ?_⟩
    · rw [er] at e
      exact k (by rw [ho]; unfold evenO; rw [e]) ros H4 er (R3.kept s4) (K3.trans (Kp3.of s4))
    · rw [er] at e
      have ho : o = .uneven z := by rw [ho]; unfold evenO; rw [e]
      have := kb (by rw [ho]; exact nofun) H4 (fun b o hb n1 n2 n3 => k4 _ _ (K3 b o hb n1 n2 n3) n2)
      rw [ho] at this
      exact this
end K02
set_option maxRecDepth 100000
set_option maxHeartbeats 4000000
namespace K02
open PySem PySem.Spec PyProof.Rows L2 He BL SX
local macro_rules | `(tactic| walk_at "ar") => `(tactic| first
  | exact Or.inl ⟨by omega, by omega⟩
  | exact Or.inr ⟨by omega, by omega⟩
  | exact ⟨by omega, by omega⟩
  | exact ⟨by omega, by omega, by omega⟩
  | exact ⟨by decide, by decide, by decide⟩
  | exact Nat.le_of_ble_eq_true rfl
  | exact rfl
  | omega
  | decide
  | fail)
local macro_rules | `(tactic| walk_at "ne") => `(tactic| first
  | assumption
  | (apply Ne.symm; assumption)
  | (refine ne_of_none ?_ (by assumption); walk_at "hp")
  | (apply Ne.symm; refine ne_of_none ?_ (by assumption); walk_at "hp")
  | fail)
local macro_rules | `(tactic| walk_at "hp") => `(tactic| first
  | assumption
  | exact upd_same
  | (refine (upd_ne ?_).trans ?_; · walk_at "ne"; · walk_at "hp")
  | (refine BL.Kp.at (by assumption) ?_ ?_; · walk_at "hp"; · walk_at "ne")
  | (refine BL.Same.at (by assumption) ?_; walk_at "hp")
  | fail)
local macro_rules | `(tactic| walk_at "rd1") => `(tactic| first
  | refine ⟨_, rfl, ?_⟩
  | refine ⟨_, _, rfl, rfl, ?_⟩
  | refine Or.inl ⟨_, rfl, ?_⟩
  | (refine ⟨_, _, _, _, rfl, rfl, SqL.of (by walk_at "hp"), rfl, ?_⟩)
  | (refine ⟨_, _, _, _, rfl, rfl, (by walk_at "hp"), rfl, ?_⟩)
  | (refine And.intro (by walk_at "ar") ?_)
  | fail)
local macro_rules | `(tactic| walk_at "rd") => `(tactic| (walk_at "rd1"; repeat' walk_at "rd1"))

variable {P : Program} {w : World} {K : PySem.W.Frag} {mg : Str → Option Value} {base : Heap}
theorem sc_Groups___init__ : FnScope ["self", "many"] ["self", "many"] (defScope s_Groups___init__) := ⟨rfl, rfl, rfl, by decide +kernel, rfl, by decide +kernel, by decide +kernel⟩
abbrev sp_Groups___init__ (K : PySem.W.Frag) : Sp := fun vs H Q _ => ∃ (a dx : Addr) (n : Nat), vs = [.ref a, .int n] ∧ H a = some (.ins (ga K "Groups") dx []) ∧ n < 1000 ∧
  ∀ p, H p = none → Q .non (L2.upd (L2.upd H p (.lst (natV (List.range n)))) a (.ins (ga K "Groups") dx [("labels", .ref p)]))
theorem mak_Groups (M : Md K mg) : C8.Mak P w K mg base 1 "Groups" (ga K "Groups") (sp_Groups___init__ K) [] := by
  refine mak_of (mk_Groups M) (kg_Groups M) (F_Groups___init__ M) sc_Groups___init__ (fun _ _ _ _ _ _ us hl => match us, hl with | [_, _], _ => rfl) (fun vs H Q E h => ?_) (fun cdv A outer s H vs Q E hr h => ?_)
  · obtain ⟨a, dx, n, rfl, _⟩ := h
    rfl
  · obtain ⟨a, dx, n, rfl, ha, hn, k⟩ := h
    refine ⟨_, (pss_one (ps_fld (pv 0) (pe_listRg rfl rfl (b_list M) (prg_1 rfl (b_range M) (pv 1))) rfl)), ?_⟩
    refine ⟨_, rfl, _, rfl, RgOk.of_le (by decide) (by omega) (by decide) (by omega), fun p np => ?_⟩
    rw [rgV_nat]
    refine ⟨_, rfl, a, _, dx, _, rfl, (upd_ne (ne_of_none ha np)).trans ha, c_Groups M, na_Groups_labels M, Nat.le_of_ble_eq_true rfl, ?_⟩
    exact k p np
theorem sc_Groups_unite : FnScope ["self", "first", "second", "low", "high", "label"] ["self", "first", "second"] (defScope s_Groups_unite) := ⟨rfl, rfl, rfl, by decide +kernel, rfl, by decide +kernel, by decide +kernel⟩
abbrev sp_Groups_unite (K : PySem.W.Frag) : Sp := fun vs H Q _ => ∃ (a dx p : Addr) (L : List Nat) (i j : Nat), vs = [.ref a, .int i, .int j] ∧ H a = some (.ins (ga K "Groups") dx [("labels", .ref p)]) ∧ H p = some (.lst (natV L)) ∧ i < L.length ∧ j < L.length ∧ L.length < 1000 ∧
  ∀ (v : V) (p' : Addr) (H' : Hp), (∀ b o, H b = some o → b ≠ a → H' b = some o) → H' a = some (.ins (ga K "Groups") dx [("labels", .ref p')]) → H' p' = some (.lst (natV (uniteL L i j))) → Q v H'
theorem met_Groups_unite (M : Md K mg) : C8.Met P w K mg base 1 (ga K "Groups") "unite" (sp_Groups_unite K) [] := by
  refine met_of (c_Groups M) (m_Groups_unite M) (F_Groups_unite M) sc_Groups_unite (fun _ _ _ _ _ _ us hl => match us, hl with | [_, _, _], _ => rfl) (fun vs H Q E h => ?_) (fun cdv A outer s H vs Q E hr h => ?_)
  · obtain ⟨a, dx, p, L, i, j, rfl, _⟩ := h
    rfl
  · obtain ⟨a, dx, p, L, i, j, rfl, ha, hp, hi, hj, hl, k⟩ := h
    refine ⟨_, (pss_cons (ps_asg (pe_tup (pa_cons (pe_ix ix_list (pe_fld (pv 0) rfl) (pv 1) (fun _ _ => rfl)) (pa_cons (pe_ix ix_list (pe_fld (pv 0) rfl) (pv 2) (fun _ _ => rfl)) pa_nil))) (pg_tup rfl (pgs_cons (pg_name (i := 3) sc_Groups_unite.nd rfl (Or.inr rfl)) (pgs_cons (pg_name (i := 4) sc_Groups_unite.nd rfl (Or.inr rfl)) pgs_nil))))
  (pss_cons (ps_if (pt_cmpR op_eq (pv 3) (pv 4) (nomark _)) (pss_one (ps_ret pe_bl)) pss_nil)
  (C8.pss_cut (ps_if (pt_cmpR op_gt (pv 3) (pv 4) (nomark _)) (pss_one (ps_asg (pe_tup (pa_cons (pv 4) (pa_cons (pv 3) pa_nil))) (pg_tup rfl (pgs_cons (pg_name (i := 3) sc_Groups_unite.nd rfl (Or.inr rfl)) (pgs_cons (pg_name (i := 4) sc_Groups_unite.nd rfl (Or.inr rfl)) pgs_nil))))) pss_nil)
  (pss_cons (ps_fld (pv 0) (pe_lc (own := [("label", 5)]) (g := (gName 5)) (tt := tYes) (te := (tIf (tTest (tOp rEq (tVar 5) (tVar 4))) (tVar 3) (tVar 5))) rfl sc_Groups_unite.nd (pi_list (pe_fld (pv 0) rfl)) (blkOk_by (N := ["self", "first", "second", "low", "high", "label"]) (by kernel_rfl)) (fun _ _ _ _ _ => (pg_name (i := 5) sc_Groups_unite.nd rfl (Or.inl rfl))) (fun _ _ _ _ _ => pts_nil) (fun _ _ _ _ _ => (pe_ifExp (pt_cmpR op_eq (pv 5) (pv 4) (nomark _)) (pv 3) (pv 5)))) rfl)
  (pss_one (ps_ret pe_bl)))))), ?_⟩
    have sl0 : sizeLine = 16777216 := rfl
    obtain ⟨x, hx⟩ : ∃ x, x = L.getD i 0 := ⟨_, rfl⟩
    obtain ⟨y, hy⟩ : ∃ y, y = L.getD j 0 := ⟨_, rfl⟩
    have ax := natV_at hi
    have ay := natV_at hj
    rw [← hx] at ax
    rw [← hy] at ay
    refine ⟨_, rfl, a, _, dx, _, _, rfl, ha, c_Groups M, na_Groups_labels M, rfl, _, rfl, p, _, _, _, rfl, rfl, SqL.of hp, at_of (j := i) rfl ax, ?_⟩
    refine ⟨_, rfl, a, _, dx, _, _, rfl, ha, c_Groups M, na_Groups_labels M, rfl, _, rfl, p, _, _, _, rfl, rfl, SqL.of hp, at_of (j := j) rfl ay, ?_⟩
    refine ⟨Nat.le_of_ble_eq_true rfl, fun T nT => ?_⟩
    refine ⟨T, _, rfl, .of upd_same, rfl, _, _, rfl, _, _, rfl, rfl, ?_⟩
    have s1 := Same.new (o := .tup [.int (x : Nat), .int (y : Nat)]) nT
    generalize (L2.upd H T (.tup [.int (x : Nat), .int (y : Nat)])) = H1 at s1
    refine ⟨_, rfl, _, rfl, rfl, _, rfl, iteI (fun e => ?_) (fun e => ?_)⟩
    · refine k _ p H1 (fun b o h _ => s1 b o h) (s1 _ _ ha) ?_
      unfold uniteL
      rw [if_pos (by rw [← hx, ← hy]; omega)]
      exact s1 _ _ hp
    have hun : uniteL L i j = L.map fun l => if l = max x y then min x y else l := by
      unfold uniteL
      rw [if_neg (by rw [← hx, ← hy]; omega), ← hx, ← hy]
    refine ⟨fun σ H2 => L2.Same H H2 ∧ σ = [some (.ref a), some (.int i), some (.int j), some (.int (min x y : Nat)), some (.int (max x y : Nat)), none], ?_, ?_⟩
    · refine ⟨_, rfl, _, rfl, _, _, rfl, rfl, _, rfl, iteD (fun e => ?_) (fun e => ?_)⟩
      · have e : (y : Int) < (x : Int) := e
        refine ⟨_, rfl, _, rfl, Nat.le_of_ble_eq_true rfl, fun T2 nT2 => ?_⟩
        refine ⟨T2, _, rfl, .of upd_same, rfl, _, _, rfl, _, _, rfl, rfl, s1.trans (Same.new nT2), ?_⟩
        rw [show min x y = y by omega, show max x y = x by omega]
        rfl
      · have e : ¬ (y : Int) < (x : Int) := e
        refine ⟨s1, ?_⟩
        rw [show min x y = x by omega, show max x y = y by omega]
        rfl
    rintro σ H2 ⟨s2, rfl⟩
    refine ⟨_, rfl, a, _, dx, _, _, rfl, s2 _ _ ha, c_Groups M, na_Groups_labels M, rfl, p, rfl, ⟨_, SqL.of (s2 _ _ hp)⟩, fun D nD => ?_⟩
    refine lc_list (K := K) (a := p) (xs := natV L) (fun t H3 => H3 = L2.upd H2 D (.lst (natV ((L.take t).map fun l => if l = max x y then min x y else l)))) rfl ?_ ?_ ?_
    · rintro t H3 _ rfl
      exact SqL.of ((Same.new nD) _ _ (s2 _ _ hp))
    · rintro t v H3 hv rfl
      obtain ⟨l, hl', rfl⟩ := at_map hv
      have put : ∃ acc, (L2.upd H2 D (.lst (natV ((L.take t).map fun l => if l = max x y then min x y else l)))) D = some (.lst acc) ∧ acc.length < sizeLine ∧ L2.upd (L2.upd H2 D (.lst (natV ((L.take t).map fun l => if l = max x y then min x y else l)))) D (.lst (acc ++ [.int ((if l = max x y then min x y else l : Nat) : Int)])) = L2.upd H2 D (.lst (natV ((L.take (t + 1)).map fun l => if l = max x y then min x y else l))) := by
        refine ⟨_, upd_same, ?_, ?_⟩
        · rw [List.length_map, List.length_map, List.length_take, sl0]; omega
        · rw [upd_upd, take_snoc hl', List.map_append]
          show L2.upd H2 D (.lst _) = L2.upd H2 D (.lst ((_ ++ [_]).map _))
          rw [List.map_append]; rfl
      refine ⟨rfl, _, rfl, _, rfl, rfl, _, rfl, iteI (fun e => ?_) (fun e => ?_)⟩
      · rw [if_pos (show l = max x y by omega)] at put
        exact ⟨_, rfl, put⟩
      · rw [if_neg (show ¬ l = max x y by omega)] at put
        exact ⟨_, rfl, put⟩
    rintro H3 rfl
    rw [List.length_map, List.take_length, ← hun]
    have s3 := s2.trans (Same.new (o := .lst (natV (uniteL L i j))) nD)
    have aD : a ≠ D := ne_of_none (s2 _ _ ha) nD
    refine ⟨_, rfl, a, _, dx, _, rfl, s3 _ _ ha, c_Groups M, na_Groups_labels M, Nat.le_of_ble_eq_true rfl, ?_⟩
    exact k _ D _ (fun b o h n => (upd_ne n).trans (s3 _ _ h)) upd_same ((upd_ne aD.symm).trans upd_same)
theorem sc_Groups_members : FnScope ["self", "table", "at", "label"] ["self"] (defScope s_Groups_members) := ⟨rfl, rfl, rfl, by decide +kernel, rfl, by decide +kernel, by decide +kernel⟩
abbrev sp_Groups_members (K : PySem.W.Frag) : Sp := fun vs H Q _ => ∃ (a dx p : Addr) (L : List Nat), vs = [.ref a] ∧ H a = some (.ins (ga K "Groups") dx [("labels", .ref p)]) ∧ H p = some (.lst (natV L)) ∧ L.length < 1000 ∧
  ∀ (q : Addr) (t : GTab) (H' : Hp), L2.Same H H' → TabOk L L.length t → TabAt H' t → (∀ e ∈ t, H e.1 = none) → H q = none → H' q = some (.lst (t.map fun e => .ref e.1)) → Q (.ref q) H'
theorem met_Groups_members (M : Md K mg) : C8.Met P w K mg base 1 (ga K "Groups") "members" (sp_Groups_members K) [] := by
  refine met_of (c_Groups M) (m_Groups_members M) (F_Groups_members M) sc_Groups_members (fun _ _ _ _ _ _ us hl => match us, hl with | [_], _ => rfl) (fun vs H Q E h => ?_) (fun cdv A outer s H vs Q E hr h => ?_)
  · obtain ⟨a, dx, p, L, rfl, _⟩ := h
    rfl
  · obtain ⟨a, dx, p, L, rfl, ha, hp, hl, k⟩ := h
    have hu := hu_of hr
    refine ⟨_, (pss_cons (ps_set (i := 1) sc_Groups_members.nd rfl (Or.inl rfl) pe_dnewK)
  (pss_cons (ps_for PassesOwn.never rfl (pi_enum rfl (b_enumerate M) (pa_cons (pe_fld (pv 0) rfl) pa_nil)) (pg_tup rfl (pgs_cons (pg_name (i := 2) sc_Groups_members.nd rfl (Or.inl rfl)) (pgs_cons (pg_name (i := 3) sc_Groups_members.nd rfl (Or.inl rfl)) pgs_nil))) (C8.pss_cut (ps_if (pt_cmp (pc_dnotin hu (pv 3) (pv 1))) (pss_one (ps_dput hu (pv 1) (pv 3) (pe_lst pa_nil) rfl)) pss_nil)
  (pss_one (ps_expr (pe_bm PySem.F.plainAttrs_list PySem.F.slot_list_append PySem.F.type_list_append mt_append (pe_dget hu (pv 1) (pv 3) (fun _ _ => rfl)) (pa_cons (pv 2) pa_nil))))))
  (pss_one (ps_ret (BL.pe_listValues rfl rfl (b_list M) (pv 1)))))), ?_⟩
    have sl0 : sizeLine = 16777216 := rfl
    intro tb ntb
    have tba : tb ≠ a := (ne_of_none ha ntb).symm
    have tbp : tb ≠ p := (ne_of_none hp ntb).symm
    refine ⟨_, rfl, a, _, dx, _, _, rfl, (upd_ne tba.symm).trans ha, c_Groups M, na_Groups_labels M, rfl, p, _, rfl, SqL.of ((upd_ne tbp.symm).trans hp), ?_⟩
    have nl : (natV L).length = L.length := List.length_map _
    refine for_it (walk_enum (xs := natV L)) (fun i σ H1 => ∃ (t : BL.GTab) (o2 o3 : Option V), σ = [some (.ref a), some (.ref tb), o2, o3] ∧ L2.Same H H1 ∧ H1 tb = some (.dK (kvI (tkv t))) ∧ TabAt H1 t ∧ TabOk L i t ∧ (∀ e ∈ t, H e.1 = none) ∧ t.length ≤ i ∧ ∀ e ∈ t, e.2.2.length ≤ i) ⟨[], none, none, rfl, Same.new ntb, upd_same, ⟨nofun, List.nodup_nil, List.nodup_nil⟩, ⟨nofun, nofun, fun x h => absurd h (Nat.not_lt_zero _), List.nodup_nil, fun _ => rfl⟩, nofun, Nat.le_refl _, nofun⟩ ?_ ?_ ?_
    · rintro i σ H1 _ ⟨t, o2, o3, rfl, s1, _⟩
      exact SqL.of (s1 _ _ hp)
    · rintro i x σ H1 H2 hi ⟨t, o2, o3, rfl, s1, h1, t1, to1, f1, l1, m1⟩ ⟨T, y1, y2, rfl, nT, rfl, e1, e2⟩
      have e1 := (Option.some.inj e1).symm
      subst e1
      obtain ⟨lab, hlab, rfl⟩ := at_map e2
      rw [nl] at hi
      refine ⟨T, _, rfl, .of upd_same, rfl, _, _, rfl, _, _, rfl, rfl, ?_⟩
      have sT := Same.new (o := .tup [.int (i : Nat), .int (lab : Nat)]) nT
      have s2 := s1.trans sT
      have h2 := sT _ _ h1
      have t2 : TabAt (L2.upd H1 T (.tup [.int (i : Nat), .int (lab : Nat)])) t := t1.kept fun e he => by rw [sT _ _ (t1.at_ e he), t1.at_ e he]
      generalize (L2.upd H1 T (.tup [.int (i : Nat), .int (lab : Nat)])) = H2 at s2 h2 t2
      clear s1 h1 t1 sT nT
      -- a list for the label
      refine ⟨fun σ H3 => ∃ t3 : BL.GTab, σ = [some (.ref a), some (.ref tb), some (.int (i : Nat)), some (.int (lab : Nat))] ∧ L2.Same H H3 ∧ H3 tb = some (.dK (kvI (tkv t3))) ∧ TabAt H3 t3 ∧ (t3 = t ∨ ∃ p, t3 = t ++ [(p, lab, [])]) ∧ lab ∈ t3.map (·.2.1) ∧ (t3 ≠ t → lab ∉ t.map (·.2.1)) ∧ ∀ e ∈ t3, H e.1 = none, ?_, ?_⟩
      · refine ⟨_, rfl, _, rfl, tb, _, rfl, .k (k := .inl (lab : Int)) h2, _, rfl, ?_⟩
        by_cases hin : lab ∈ t.map (·.2.1)
        · obtain ⟨e, he, el⟩ := List.mem_map.mp hin
          have hv : valV (kvI (tkv t)) (.inl (lab : Int)) = some (.ref e.1) := by
            rw [← el]
            exact valI_some (c := (e.2.1, V.ref e.1)) (List.mem_map.mpr ⟨e, he, rfl⟩) (by rw [tkv_keys]; exact t2.ln)
          rw [hv]
          exact iteB (fun e => by cases e) (fun _ => ⟨t, rfl, s2, h2, t2, .inl rfl, hin, fun q => absurd rfl q, f1⟩)
        · have hv : valV (kvI (tkv t)) (.inl (lab : Int)) = none := valI_none (by rw [tkv_keys]; exact hin)
          rw [hv]
          refine iteB (fun _ => ?_) (fun e => by cases e)
          refine ⟨Nat.zero_le _, fun q nq => ?_⟩
          have h3 := (Same.new (o := .lst []) nq) _ _ h2
          refine ⟨_, rfl, _, rfl, tb, _, rfl, .k (k := .inl (lab : Int)) h3 (by unfold kvI tkv; rw [List.length_map, List.length_map, sl0]; omega), ?_⟩
          rw [putI_new (by rw [tkv_keys]; exact hin)]
          have t3 := t2.new (lab := lab) nq hin
          have eq : tkv t ++ [(lab, V.ref q)] = tkv (t ++ [(q, lab, [])]) := by unfold tkv; rw [List.map_append]; rfl
          rw [eq]
          refine ⟨t ++ [(q, lab, [])], rfl, Same.put (s2.trans (Same.new nq)) ntb, upd_same, t3.kept fun e he => upd_ne (ne_of_ob (t3.at_ e he) h3 (by simp)), .inr ⟨q, rfl⟩, ?_, fun _ => hin, ?_⟩
          · rw [List.map_append]; exact List.mem_append_right _ (List.mem_singleton.mpr rfl)
          · intro e he
            rcases List.mem_append.mp he with z | z
            · exact f1 e z
            · rw [List.mem_singleton.mp z]; exact s2.free nq
      clear h2 t2 s2
      rintro σ H3 ⟨t3, rfl, s3, h3, ta3, hor, hin, hnew, f3⟩
      obtain ⟨e, he, el⟩ := List.mem_map.mp hin
      have hv : valV (kvI (tkv t3)) (.inl (lab : Int)) = some (.ref e.1) := by
        rw [← el]
        exact valI_some (c := (e.2.1, V.ref e.1)) (List.mem_map.mpr ⟨e, he, rfl⟩) (by rw [tkv_keys]; exact ta3.ln)
      have dg : DGet H3 tb (.int (lab : Nat)) (some (.ref e.1)) := by rw [← hv]; exact DGet.k (k := .inl (lab : Int)) h3
      have m3 : ∀ e ∈ t3, e.2.2.length ≤ i := fun e he => by
        rcases hor with rfl | ⟨p, rfl⟩
        · exact m1 e he
        · rcases List.mem_append.mp he with z | z
          · exact m1 e z
          · rw [List.mem_singleton.mp z]; exact Nat.zero_le _
      have l3 : t3.length ≤ i + 1 := by
        rcases hor with rfl | ⟨p, rfl⟩
        · omega
        · rw [List.length_append]; simp; omega
      refine ⟨_, rfl, _, rfl, tb, _, rfl, dg, .inl ⟨rfl, _, SqL.of (ta3.at_ e he)⟩, _, rfl, e.1, _, _, rfl, rfl, ta3.at_ e he, ?_, ?_⟩
      · rw [List.length_map, sl0]
        have := m3 e he
        omega
      have ea : natV e.2.2 ++ [V.int (i : Nat)] = natV (e.2.2 ++ [i]) := by show _ = (e.2.2 ++ [i]).map _; rw [List.map_append]; rfl
      rw [ea]
      refine ⟨addT t3 lab i, _, _, rfl, Same.put s3 (f3 e he), ?_, ?_, to1.add hor hin hnew ta3.ln (by unfold lb; rw [List.getD_eq_getElem?_getD, hlab]; rfl) hi (fun q => Classical.byContradiction fun z => hnew z q), ?_, ?_, ?_⟩
      · rw [addT_keys]
        exact (upd_ne (ne_of_ob h3 (ta3.at_ e he) (by simp))).trans h3
      · rw [← el]; exact ta3.add he
      · intro q hq
        obtain ⟨z, hz, rfl⟩ := List.mem_map.mp hq
        split <;> exact f3 z hz
      · unfold addT; rw [List.length_map]; exact l3
      · intro q hq
        obtain ⟨z, hz, rfl⟩ := List.mem_map.mp hq
        have := m3 z hz
        split
        · show (z.2.2 ++ [i]).length ≤ i + 1
          rw [List.length_append]; simp; omega
        · omega
    rintro σ H1 ⟨t, o2, o3, rfl, s1, h1, t1, to1, f1, l1, m1⟩
    rw [nl] at to1
    refine ⟨_, rfl, tb, _, rfl, Rd.of h1, fun q nq => ?_⟩
    refine k q t _ (s1.trans (Same.new nq)) to1 (t1.kept fun e he => upd_ne (ne_of_none (t1.at_ e he) nq)) f1 (s1.free nq) ?_
    rw [upd_same]
    unfold kvI tkv
    rw [List.map_map, List.map_map]
    rfl
end K02
set_option maxRecDepth 100000
set_option maxHeartbeats 4000000
namespace K02
open PySem PySem.Spec PyProof.Rows L2 He BL SX
local macro_rules | `(tactic| walk_at "ar") => `(tactic| first
  | exact Or.inl ⟨by omega, by omega⟩
  | exact Or.inr ⟨by omega, by omega⟩
  | exact ⟨by omega, by omega⟩
  | exact ⟨by omega, by omega, by omega⟩
  | exact ⟨by decide, by decide, by decide⟩
  | exact Nat.le_of_ble_eq_true rfl
  | exact rfl
  | omega
  | decide
  | fail)
local macro_rules | `(tactic| walk_at "ne") => `(tactic| first
  | assumption
  | (apply Ne.symm; assumption)
  | (refine ne_of_none ?_ (by assumption); walk_at "hp")
  | (apply Ne.symm; refine ne_of_none ?_ (by assumption); walk_at "hp")
  | fail)
local macro_rules | `(tactic| walk_at "hp") => `(tactic| first
  | assumption
  | exact upd_same
  | (refine (upd_ne ?_).trans ?_; · walk_at "ne"; · walk_at "hp")
  | (refine BL.Kp.at (by assumption) ?_ ?_; · walk_at "hp"; · walk_at "ne")
  | (refine BL.Same.at (by assumption) ?_; walk_at "hp")
  | fail)
local macro_rules | `(tactic| walk_at "rd1") => `(tactic| first
  | refine ⟨_, rfl, ?_⟩
  | refine ⟨_, _, rfl, rfl, ?_⟩
  | refine Or.inl ⟨_, rfl, ?_⟩
  | (refine ⟨_, _, _, _, rfl, rfl, SqL.of (by walk_at "hp"), rfl, ?_⟩)
  | (refine ⟨_, _, _, _, rfl, rfl, (by walk_at "hp"), rfl, ?_⟩)
  | (refine And.intro (by walk_at "ar") ?_)
  | fail)
local macro_rules | `(tactic| walk_at "rd") => `(tactic| (walk_at "rd1"; repeat' walk_at "rd1"))

variable {P : Program} {w : World} {K : PySem.W.Frag} {mg : Str → Option Value} {base : Heap}
theorem sc_town_heights : FnScope ["kinds", "known", "height"] ["kinds"] (defScope s_town_heights) := ⟨rfl, rfl, rfl, by decide +kernel, rfl, by decide +kernel, by decide +kernel⟩
abbrev sp_town_heights : Sp := fun vs H Q _ => ∃ (kd : Addr) (cs : List (Str × V)), vs = [.ref kd] ∧ H kd = some (.dK (kvOf cs)) ∧ (∀ c ∈ cs, KindV c.2) ∧ ∀ p H', L2.Same H H' → H' p = some (.lst (natV (heightsL cs))) → Q (.ref p) H'
theorem cal_town_heights (M : Md K mg) : C8.Cal P w K mg base 1 "town_heights" sp_town_heights [] := by
  refine cal_of (F_town_heights M) (g_town_heights M) sc_town_heights (fun _ _ _ _ _ _ us hl => match us, hl with | [_], _ => rfl) (fun vs H Q E h => ?_) (fun cdv A outer s H vs Q E hr h => ?_)
  · obtain ⟨kd, cs, rfl, _⟩ := h
    rfl
  · obtain ⟨kd, cs, rfl, hk, ck, k⟩ := h
    refine ⟨_, (pss_cons (ps_set (i := 1) sc_town_heights.nd rfl (Or.inr rfl) (BL.pe_listValues rfl rfl (b_list M) (pv 0)))
  (pss_one (ps_ret (pe_lc (own := [("height", 2)]) (g := (gName 2)) (tt := (tOr (tTest (tOp rEq (tVar 2) (tC (.int 0)))) (tTest (tOp (rIn K false) (tVar 2) (tVar 1))))) (te := (tVar 2)) rfl sc_town_heights.nd (pi_range1 rfl (b_range M) (pa_cons (pe_op op_add (C8.pe_gc rfl (k_GREATEST_PRICE M)) pe_int) pa_nil)) (blkOk_by (N := ["kinds", "known", "height"]) (by kernel_rfl)) (fun _ _ _ _ _ => (pg_name (i := 2) sc_town_heights.nd rfl (Or.inl rfl))) (fun _ _ _ _ _ => (pts_one (PW.pt (pw_or (pt_cmpR op_eq (pv 2) pe_int (nomark _)) (pw_or1 (pt_cmpR op_in_seq (pv 2) (pv 1) (by rfl))))))) (fun _ _ _ _ _ => (pv 2)))))), ?_⟩
    have sl0 : sizeLine = 16777216 := rfl
    refine ⟨_, rfl, kd, _, rfl, Rd.of hk, fun pk npk => ?_⟩
    have ev : (kvOf cs).map (·.2) = cs.map (·.2) := by unfold kvOf; rw [List.map_map]; rfl
    rw [ev]
    have hpk : (L2.upd H pk (.lst (cs.map (·.2)))) pk = some (.lst (cs.map (·.2))) := upd_same
    have s1 := Same.new (o := .lst (cs.map (·.2))) npk
    generalize (L2.upd H pk (.lst (cs.map (·.2)))) = H1 at hpk s1
    refine ⟨_, _, rfl, rfl, 41, rfl, by decide, by decide, fun D nD => ?_⟩
    refine lc_range (lo := 0) (n := 41) (fun i H2 => H2 = L2.upd H1 D (.lst (natV ((List.range i).filter fun h => h == 0 || inV (.int (h : Nat)) (cs.map (·.2)))))) rfl ?_ ?_
    · rintro i H2 hi rfl
      have put : (i == 0 || inV (.int (i : Nat)) (cs.map (·.2))) = true → ∃ acc, (L2.upd H1 D (.lst (natV ((List.range i).filter fun h => h == 0 || inV (.int (h : Nat)) (cs.map (·.2)))))) D = some (.lst acc) ∧ acc.length < sizeLine ∧ L2.upd (L2.upd H1 D (.lst (natV ((List.range i).filter fun h => h == 0 || inV (.int (h : Nat)) (cs.map (·.2)))))) D (.lst (acc ++ [.int (0 + (i : Nat))])) = L2.upd H1 D (.lst (natV ((List.range (i + 1)).filter fun h => h == 0 || inV (.int (h : Nat)) (cs.map (·.2))))) := by
        intro hp
        refine ⟨_, upd_same, ?_, ?_⟩
        · rw [List.length_map, sl0]
          have := List.length_filter_le (fun h => h == 0 || inV (.int (h : Nat)) (cs.map (·.2))) (List.range i)
          rw [List.length_range] at this
          omega
        · rw [upd_upd, List.range_succ, List.filter_append, Int.zero_add]
          congr 2
          show _ = natV (_ ++ _)
          unfold natV
          rw [List.map_append]
          simp [hp]
      refine ⟨rfl, _, rfl, rfl, _, rfl, iteI (fun e => ?_) (fun e => ?_)⟩
      · have e : i = 0 := by omega
        exact iteB (fun _ => ⟨_, rfl, put (by rw [e]; rfl)⟩) (fun e => by cases e)
      · refine ⟨_, rfl, _, rfl, pk, _, rfl, .inl (SqL.of ((upd_ne (ne_of_none hpk nD)).trans hpk)), rfl, flatV_kinds ck, _, rfl, ?_⟩
        rw [Int.zero_add]
        refine iteB (fun e2 => ?_) (fun e2 => ?_)
        · refine ⟨_, rfl, ?_⟩
          have := put (by rw [show inV (.int (i : Nat)) (cs.map (·.2)) = true from e2]; simp)
          rw [Int.zero_add] at this
          exact this
        · have e2 : inV (.int (i : Nat)) (cs.map (·.2)) = false := e2
          have hp : (i == 0 || inV (.int (i : Nat)) (cs.map (·.2))) = false := by
            rw [e2, Bool.or_false]
            exact beq_eq_false_iff_ne.mpr (by omega)
          rw [List.range_succ, List.filter_append]
          simp [hp]
    rintro H2 rfl
    exact k D _ (s1.trans (Same.new nD)) (by unfold heightsL; exact upd_same)
theorem sc_town_lanes : FnScope ["roads", "lanes", "name", "road"] ["roads"] (defScope s_town_lanes) := ⟨rfl, rfl, rfl, by decide +kernel, rfl, by decide +kernel, by decide +kernel⟩
abbrev sp_town_lanes (K : PySem.W.Frag) : Sp := fun vs H Q _ => ∃ (rdd : Addr) (cs : List (Str × V)) (ros : List (RdO × BL.Rd)), vs = [.ref rdd] ∧ H rdd = some (.dK (kvOf (rkv ros))) ∧ (∀ o ∈ ros, RoadAt K H cs o) ∧ ros.length < 1000 ∧ (ros.map (·.2.name)).Nodup ∧ (∀ o ∈ ros, o.2.name.length < 1000) ∧
  ∀ d (la : List (Addr × Lane)) H', L2.Same H H' → la.map (·.2) = lanesD cs (ros.map (·.2)) → H' d = some (.dK (kvOf (la.map fun x => (x.2.key, .ref x.1)))) → LanesAt H' la → Q (.ref d) H'
theorem cal_town_lanes (M : Md K mg) : C8.Cal P w K mg base 2 "town_lanes" (sp_town_lanes K) [] := by
  refine cal_of (F_town_lanes M) (g_town_lanes M) sc_town_lanes (fun _ _ _ _ _ _ us hl => match us, hl with | [_], _ => rfl) (fun vs H Q E h => ?_) (fun cdv A outer s H vs Q E hr h => ?_)
  · obtain ⟨rdd, cs, ros, rfl, _⟩ := h
    rfl
  · obtain ⟨rdd, cs, ros, rfl, hrd, ho, rl, rnd, rnl, k⟩ := h
    have hu := hu_of hr
    refine ⟨_, (pss_cons (ps_set (i := 1) sc_town_lanes.nd rfl (Or.inl rfl) pe_dnewK)
  (pss_cons (ps_lock (ps_for PassesOwn.never rfl (pi_items (pv 0)) (pg_tup rfl (pgs_cons (pg_name (i := 2) sc_town_lanes.nd rfl (Or.inl rfl)) (pgs_cons (pg_name (i := 3) sc_town_lanes.nd rfl (Or.inl rfl)) pgs_nil))) (pss_cons (ps_dput hu (pv 1) (pe_op op_add_str (pv 2) pe_str) (pe_tup (pa_cons (pe_fld (pv 3) rfl) (pa_cons (pe_fld (pv 3) rfl) (pa_cons (pe_ix ix_list (pe_fld (pv 3) rfl) pe_int (fun _ _ => rfl)) pa_nil)))) rfl)
  (pss_one (ps_if (pt_val (C8.pe_mt0 (met_Road_two_way M) hr (by decide) (pv 3))) (pss_one (ps_dput hu (pv 1) (pe_op op_add_str (pv 2) pe_str) (pe_tup (pa_cons (pe_fld (pv 3) rfl) (pa_cons (pe_fld (pv 3) rfl) (pa_cons (pe_ix ix_list (pe_fld (pv 3) rfl) pe_int (fun _ _ => rfl)) pa_nil)))) rfl)) pss_nil)))))
  (pss_one (ps_ret (pv 1))))), ?_⟩
    have sl0 : sizeLine = 16777216 := rfl
    intro d nd
    have drd : d ≠ rdd := (ne_of_none hrd nd).symm
    have hrd1 : (L2.upd H d (.dK [])) rdd = some (.dK (kvOf (rkv ros))) := (upd_ne drd.symm).trans hrd
    refine ⟨rdd, _, hrd1, True.intro, fun od => ?_⟩
    refine ⟨_, rfl, rdd, od, _, rfl, upd_same, ?_⟩
    refine for_it walk_itemsN (fun i σ H1 => ∃ (la : List (Addr × Lane)) (o2 o3 : Option V), σ = [some (.ref rdd), some (.ref d), o2, o3] ∧ (∀ a o, H a = some o → a ≠ rdd → H1 a = some o) ∧ H1 rdd = some (.frz od (.dK (kvOf (rkv ros)))) ∧ H1 d = some (.dK (kvOf (la.map fun x => (x.2.key, .ref x.1)))) ∧ LanesAt H1 la ∧ la.map (·.2) = lanesD cs ((ros.take i).map (·.2))) ⟨[], none, none, rfl, fun a o h n => (upd_ne n).trans ((upd_ne (ne_of_none h nd)).trans h), upd_same, (upd_ne drd).trans upd_same, nofun, rfl⟩ ?_ ?_ ?_
    · rintro i σ H1 _ ⟨la, o2, o3, rfl, _, h1, _⟩
      exact h1
    · rintro i x σ H1 H2 hi ⟨la, o2, o3, rfl, k1, f1, d1, l1, e1⟩ ⟨T, c, hc, rfl, nT, rfl⟩
      obtain ⟨o, hoi, rfl⟩ := rkv_at hc
      have hom := List.mem_of_getElem? hoi
      have hR := ho o hom
      have n1 : o.1.ra ≠ rdd := ne_of_ob hR.1 hrd (by simp)
      have n2 : o.1.rt ≠ rdd := ne_of_ob hR.2 hrd (by simp)
      have lal : la.length ≤ 2 * i := by
        have := lanesD_len cs ((ros.take i).map (·.2))
        rw [← e1, List.length_map, List.length_map, List.length_take] at this
        omega
      have hil : i < ros.length := (List.getElem?_eq_some_iff.mp hoi).1
      have nmn : o.2.name ∉ ((ros.take i).map (·.2)).map (·.name) := by
        rw [List.map_map]
        exact take_nin (f := fun o : RdO × BL.Rd => o.2.name) rnd hoi
      refine ⟨T, _, rfl, .of upd_same, rfl, _, _, rfl, _, _, rfl, rfl, ?_⟩
      have sT := Same.new (o := .tup [.str o.2.name, .ref o.1.ra]) nT
      have k2 : ∀ a o', H a = some o' → a ≠ rdd → (L2.upd H1 T (.tup [.str o.2.name, .ref o.1.ra])) a = some o' := fun a o' h n => sT _ _ (k1 a o' h n)
      have f2 := sT _ _ f1
      have d2 := sT _ _ d1
      have l2 : LanesAt (L2.upd H1 T (.tup [.str o.2.name, .ref o.1.ra])) la := fun x hx => sT _ _ (l1 x hx)
      generalize (L2.upd H1 T (.tup [.str o.2.name, .ref o.1.ra])) = H2 at k2 f2 d2 l2
      clear k1 f1 d1 l1 sT nT
      have nlen := rnl o hom
      have t0 : (natV (times o.2))[0]? = some (.int (o.2.f : Nat)) := by unfold times; split <;> rfl
      -- the first lane
      refine ⟨_, rfl, o.1.ra, _, _, _, _, rfl, k2 _ _ hR.1 n1, c_Road M, na_Road_start M, rfl, ?_⟩
      refine ⟨_, rfl, o.1.ra, _, _, _, _, rfl, k2 _ _ hR.1 n1, c_Road M, na_Road_goal M, rfl, ?_⟩
      refine ⟨_, rfl, o.1.ra, _, _, _, _, rfl, k2 _ _ hR.1 n1, c_Road M, na_Road_times M, rfl, o.1.rt, _, 0, _, rfl, rfl, SqL.of (k2 _ _ hR.2 n2), at_of (j := 0) rfl t0, ?_⟩
      refine ⟨Nat.le_of_ble_eq_true rfl, fun p np => ?_⟩
      have d3 := (Same.new (o := .tup [.str (nameAt cs o.2.a), .str (nameAt cs o.2.b), .int (o.2.f : Nat)]) np) _ _ d2
      refine ⟨_, rfl, _, rfl, _, _, rfl, rfl, by show o.2.name.length + ("+" : Str).length ≤ 16777216; rw [show ("+" : Str).length = 1 by decide]; omega, d, _, rfl, .k (k := .inr (o.2.name ++ ("+" : Str))) d3 (by rw [kvOf_len, List.length_map, sl0]; omega), ?_⟩
      have hnp : o.2.name ++ ("+" : Str) ∉ (la.map fun x => (x.2.key, V.ref x.1)).map (·.1) := by
        have := new_plus (cs := cs) nmn
        rw [← e1, List.map_map] at this
        rw [List.map_map]
        exact this
      rw [put_new hnp]
      have l4a : ∀ x ∈ la ++ [(p, (⟨o.2.name ++ ("+" : Str), nameAt cs o.2.a, nameAt cs o.2.b, o.2.f⟩ : Lane))], (L2.upd (L2.upd H2 p (.tup [.str (nameAt cs o.2.a), .str (nameAt cs o.2.b), .int (o.2.f : Nat)])) d (.dK (kvOf ((la.map fun x => (x.2.key, V.ref x.1)) ++ [(o.2.name ++ ("+" : Str), .ref p)])))) x.1 = some (.tup [.str x.2.st, .str x.2.go, .int (x.2.mi : Nat)]) := by
        intro x hx
        have : (L2.upd H2 p (.tup [.str (nameAt cs o.2.a), .str (nameAt cs o.2.b), .int (o.2.f : Nat)])) x.1 = some (.tup [.str x.2.st, .str x.2.go, .int (x.2.mi : Nat)]) := by
          rcases List.mem_append.mp hx with z | z
          · exact (Same.new np) _ _ (l2 x z)
          · rw [List.mem_singleton.mp z]; exact upd_same
        exact (upd_ne (ne_of_ob this d3 (by simp))).trans this
      have k4 : ∀ a o', H a = some o' → a ≠ rdd → (L2.upd (L2.upd H2 p (.tup [.str (nameAt cs o.2.a), .str (nameAt cs o.2.b), .int (o.2.f : Nat)])) d (.dK (kvOf ((la.map fun x => (x.2.key, V.ref x.1)) ++ [(o.2.name ++ ("+" : Str), .ref p)])))) a = some o' := fun a o' h n => (upd_ne (ne_of_none h nd)).trans ((Same.new np) _ _ (k2 a o' h n))
      have f4 : (L2.upd (L2.upd H2 p (.tup [.str (nameAt cs o.2.a), .str (nameAt cs o.2.b), .int (o.2.f : Nat)])) d (.dK (kvOf ((la.map fun x => (x.2.key, V.ref x.1)) ++ [(o.2.name ++ ("+" : Str), .ref p)])))) rdd = some (.frz od (.dK (kvOf (rkv ros)))) := (upd_ne drd.symm).trans ((Same.new np) _ _ f2)
      have eapp : (la.map fun x => (x.2.key, V.ref x.1)) ++ [(o.2.name ++ ("+" : Str), V.ref p)] = (la ++ [(p, (⟨o.2.name ++ ("+" : Str), nameAt cs o.2.a, nameAt cs o.2.b, o.2.f⟩ : Lane))]).map fun x => (x.2.key, V.ref x.1) := by rw [List.map_append]; rfl
      rw [eapp] at k4 f4 l4a ⊢
      have d4 : (L2.upd (L2.upd H2 p (.tup [.str (nameAt cs o.2.a), .str (nameAt cs o.2.b), .int (o.2.f : Nat)])) d (.dK (kvOf ((la ++ [(p, (⟨o.2.name ++ ("+" : Str), nameAt cs o.2.a, nameAt cs o.2.b, o.2.f⟩ : Lane))]).map fun x => (x.2.key, V.ref x.1))))) d = some (.dK (kvOf ((la ++ [(p, (⟨o.2.name ++ ("+" : Str), nameAt cs o.2.a, nameAt cs o.2.b, o.2.f⟩ : Lane))]).map fun x => (x.2.key, V.ref x.1)))) := upd_same
      have l4 : LanesAt _ (la ++ [(p, (⟨o.2.name ++ ("+" : Str), nameAt cs o.2.a, nameAt cs o.2.b, o.2.f⟩ : Lane))]) := l4a
      generalize (L2.upd (L2.upd H2 p (.tup [.str (nameAt cs o.2.a), .str (nameAt cs o.2.b), .int (o.2.f : Nat)])) d (.dK (kvOf ((la ++ [(p, (⟨o.2.name ++ ("+" : Str), nameAt cs o.2.a, nameAt cs o.2.b, o.2.f⟩ : Lane))]).map fun x => (x.2.key, V.ref x.1))))) = H4 at k4 f4 d4 l4
      clear k2 f2 d2 l2 d3 np l4a eapp
      refine ⟨_, rfl, o.1.ra, _, _, rfl, k4 _ _ hR.1 n1, rfl, cs, o, rfl, ⟨k4 _ _ hR.1 n1, k4 _ _ hR.2 n2⟩, ⟨_, rfl, ?_⟩⟩
      have e5 : (la ++ [(p, (⟨o.2.name ++ ("+" : Str), nameAt cs o.2.a, nameAt cs o.2.b, o.2.f⟩ : Lane))]).map (·.2) = lanesD cs ((ros.take i).map (·.2)) ++ [⟨o.2.name ++ ("+" : Str), nameAt cs o.2.a, nameAt cs o.2.b, o.2.f⟩] := by rw [List.map_append, e1]; rfl
      cases htw : o.2.two with
      | false =>
        refine iteB (fun e => by cases e) (fun _ => ⟨_, _, _, rfl, k4, f4, d4, l4, ?_⟩)
        rw [e5, take_snoc hoi, List.map_append]
        show _ = lanesD cs ((ros.take i).map (·.2) ++ [o.2])
        rw [lanesD_snoc]
        unfold lanesR
        rw [htw]
        rfl
      | true =>
        refine iteB (fun _ => ?_) (fun e => by cases e)
        have t1 : (natV (times o.2))[1]? = some (.int (o.2.k : Nat)) := by unfold times; rw [htw]; rfl
        refine ⟨_, rfl, o.1.ra, _, _, _, _, rfl, k4 _ _ hR.1 n1, c_Road M, na_Road_goal M, rfl, ?_⟩
        refine ⟨_, rfl, o.1.ra, _, _, _, _, rfl, k4 _ _ hR.1 n1, c_Road M, na_Road_start M, rfl, ?_⟩
        refine ⟨_, rfl, o.1.ra, _, _, _, _, rfl, k4 _ _ hR.1 n1, c_Road M, na_Road_times M, rfl, o.1.rt, _, 1, _, rfl, rfl, SqL.of (k4 _ _ hR.2 n2), at_of (j := 1) rfl t1, ?_⟩
        refine ⟨Nat.le_of_ble_eq_true rfl, fun p2 np2 => ?_⟩
        have d5 := (Same.new (o := .tup [.str (nameAt cs o.2.b), .str (nameAt cs o.2.a), .int (o.2.k : Nat)]) np2) _ _ d4
        refine ⟨_, rfl, _, rfl, _, _, rfl, rfl, by show o.2.name.length + ("-" : Str).length ≤ 16777216; rw [show ("-" : Str).length = 1 by decide]; omega, d, _, rfl, .k (k := .inr (o.2.name ++ ("-" : Str))) d5 (by rw [kvOf_len, List.length_map, List.length_append, sl0]; simp; omega), ?_⟩
        have hnm : o.2.name ++ ("-" : Str) ∉ ((la ++ [(p, (⟨o.2.name ++ ("+" : Str), nameAt cs o.2.a, nameAt cs o.2.b, o.2.f⟩ : Lane))]).map fun x => (x.2.key, V.ref x.1)).map (·.1) := by
          have := new_minus (cs := cs) (l := ⟨o.2.name ++ ("+" : Str), nameAt cs o.2.a, nameAt cs o.2.b, o.2.f⟩) rfl nmn
          rw [← e5, List.map_map] at this
          rw [List.map_map]
          exact this
        rw [put_new hnm]
        have eapp : ((la ++ [(p, (⟨o.2.name ++ ("+" : Str), nameAt cs o.2.a, nameAt cs o.2.b, o.2.f⟩ : Lane))]).map fun x => (x.2.key, V.ref x.1)) ++ [(o.2.name ++ ("-" : Str), V.ref p2)] = ((la ++ [(p, (⟨o.2.name ++ ("+" : Str), nameAt cs o.2.a, nameAt cs o.2.b, o.2.f⟩ : Lane))]) ++ [(p2, (⟨o.2.name ++ ("-" : Str), nameAt cs o.2.b, nameAt cs o.2.a, o.2.k⟩ : Lane))]).map fun x => (x.2.key, V.ref x.1) := by rw [List.map_append (l₂ := [(p2, _)])]; rfl
        rw [eapp]
        refine ⟨_, _, _, rfl, fun a o' h n => (upd_ne (ne_of_none h nd)).trans ((Same.new np2) _ _ (k4 a o' h n)), (upd_ne drd.symm).trans ((Same.new np2) _ _ f4), upd_same, fun x hx => ?_, ?_⟩
        · have : (L2.upd H4 p2 (.tup [.str (nameAt cs o.2.b), .str (nameAt cs o.2.a), .int (o.2.k : Nat)])) x.1 = some (.tup [.str x.2.st, .str x.2.go, .int (x.2.mi : Nat)]) := by
            rcases List.mem_append.mp hx with z | z
            · exact (Same.new np2) _ _ (l4 x z)
            · rw [List.mem_singleton.mp z]; exact upd_same
          exact (upd_ne (ne_of_ob this d5 (by simp))).trans this
        · rw [List.map_append, e5, take_snoc hoi, List.map_append]
          show _ = lanesD cs ((ros.take i).map (·.2) ++ [o.2])
          rw [lanesD_snoc, List.append_assoc]
          unfold lanesR
          rw [htw]
          rfl
    rintro σ H1 ⟨la, o2, o3, rfl, k1, f1, d1, l1, e1⟩
    rw [rkv_len, List.take_length] at e1
    refine ⟨f1, ?_⟩
    refine ⟨_, rfl, ?_⟩
    refine k d la _ (fun a o h => ?_) e1 ((upd_ne drd).trans d1) (fun x hx => (upd_ne (ne_of_ob (l1 x hx) f1 (by simp))).trans (l1 x hx))
    by_cases e : a = rdd
    · subst e
      rw [upd_same, ← h]
      exact hrd.symm
    · exact (upd_ne e).trans (k1 a o h e)
end K02
set_option maxRecDepth 100000
set_option maxHeartbeats 4000000
namespace K02
open PySem PySem.Spec PyProof.Rows L2 He BL SX
local macro_rules | `(tactic| walk_at "ar") => `(tactic| first
  | exact Or.inl ⟨by omega, by omega⟩
  | exact Or.inr ⟨by omega, by omega⟩
  | exact ⟨by omega, by omega⟩
  | exact ⟨by omega, by omega, by omega⟩
  | exact ⟨by decide, by decide, by decide⟩
  | exact Nat.le_of_ble_eq_true rfl
  | exact rfl
  | omega
  | decide
  | fail)
local macro_rules | `(tactic| walk_at "ne") => `(tactic| first
  | assumption
  | (apply Ne.symm; assumption)
  | (refine ne_of_none ?_ (by assumption); walk_at "hp")
  | (apply Ne.symm; refine ne_of_none ?_ (by assumption); walk_at "hp")
  | fail)
local macro_rules | `(tactic| walk_at "hp") => `(tactic| first
  | assumption
  | exact upd_same
  | (refine (upd_ne ?_).trans ?_; · walk_at "ne"; · walk_at "hp")
  | (refine BL.Kp.at (by assumption) ?_ ?_; · walk_at "hp"; · walk_at "ne")
  | (refine BL.Same.at (by assumption) ?_; walk_at "hp")
  | fail)
local macro_rules | `(tactic| walk_at "rd1") => `(tactic| first
  | refine ⟨_, rfl, ?_⟩
  | refine ⟨_, _, rfl, rfl, ?_⟩
  | refine Or.inl ⟨_, rfl, ?_⟩
  | (refine ⟨_, _, _, _, rfl, rfl, SqL.of (by walk_at "hp"), rfl, ?_⟩)
  | (refine ⟨_, _, _, _, rfl, rfl, (by walk_at "hp"), rfl, ?_⟩)
  | (refine And.intro (by walk_at "ar") ?_)
  | fail)
local macro_rules | `(tactic| walk_at "rd") => `(tactic| (walk_at "rd1"; repeat' walk_at "rd1"))

variable {P : Program} {w : World} {K : PySem.W.Frag} {mg : Str → Option Value} {base : Heap}
abbrev lsT (a kd rdd pn pl : Addr) (g : Option V) (o6 o7 o8 o9 o10 o11 o12 : Option V) : L2.St := [some (.ref a), some (.ref kd), some (.ref rdd), some (.ref pn), some (.ref pl), g, o6, o7, o8, o9, o10, o11, o12, none, none]
theorem sc_Layout___init__ : FnScope ["self", "kinds", "roads", "names", "place", "groups", "road", "spot", "group", "crossing", "name", "start", "goal", "at", "members"] ["self", "kinds", "roads"] (defScope s_Layout___init__) := ⟨rfl, rfl, rfl, by decide +kernel, rfl, by decide +kernel, by decide +kernel⟩
abbrev sp_Layout___init__ (K : PySem.W.Frag) : Sp := fun vs H Q _ => ∃ (a dx kd rdd : Addr) (cs : List (Str × V)) (ros : List (RdO × BL.Rd)), vs = [.ref a, .ref kd, .ref rdd] ∧ H a = some (.ins (ga K "Layout") dx []) ∧
  H kd = some (.dK (kvOf cs)) ∧ H rdd = some (.dK (kvOf (rkv ros))) ∧ (∀ o ∈ ros, RoadAt K H cs o) ∧ WorldOk cs (ros.map (·.2)) ∧
  ∀ (l : LayO) H', l.a = a → l.dx = dx → LayAt K H' l cs (ros.map (·.2)) → (∀ b o, H b = some o → b ≠ a → H' b = some o) → Q .non H'
theorem mak_Layout (M : Md K mg) : C8.Mak P w K mg base 3 "Layout" (ga K "Layout") (sp_Layout___init__ K) [] := by
  refine mak_of (mk_Layout M) (kg_Layout M) (F_Layout___init__ M) sc_Layout___init__ (fun _ _ _ _ _ _ us hl => match us, hl with | [_, _, _], _ => rfl) (fun vs H Q E h => ?_) (fun cdv A outer s H vs Q E hr h => ?_)
  · obtain ⟨a, dx, kd, rdd, cs, ros, rfl, _⟩ := h
    rfl
  · obtain ⟨a, dx, kd, rdd, cs, ros, rfl, ha, hk, hrd, ho, ok, k⟩ := h
    have hu := hu_of hr
    refine ⟨_, (pss_cons (ps_set (i := 3) sc_Layout___init__.nd rfl (Or.inr rfl) (pe_callTy (call_listD rfl) (by rfl) (b_list M) (by decide +kernel) (pa_cons (pv 1) pa_nil)))
  (pss_cons (BL.ps_setDc (i := 4) (own := [("at", 13), ("name", 10)]) (g := (gTup K 2 (gCons (gName 13) (gCons (gName 10) gNil)))) (tt := tYes) (tk := (tVar 10)) (tv := (tVar 13)) rfl sc_Layout___init__.nd rfl rfl (BL.sw_trueD rfl rfl rfl (by decide +kernel)) (pi_enum rfl (b_enumerate M) (pa_cons (pv 3) pa_nil)) (blkOk_by (N := ["self", "kinds", "roads", "names", "place", "groups", "road", "spot", "group", "crossing", "name", "start", "goal", "at", "members"]) (by kernel_rfl)) (fun _ _ _ _ _ => (pg_tup rfl (pgs_cons (pg_name (i := 13) sc_Layout___init__.nd rfl (Or.inl rfl)) (pgs_cons (pg_name (i := 10) sc_Layout___init__.nd rfl (Or.inl rfl)) pgs_nil)))) (fun _ _ _ _ _ => pts_nil) (fun _ _ _ _ _ => (pv 10)) (fun _ _ _ _ _ => (pv 13)))
  (C8.pss_cut (ps_set (i := 5) sc_Layout___init__.nd rfl (Or.inl rfl) (C8.pe_mk (mak_Groups M) hr (by decide) rfl (pa_cons (pe_callB call_len_seq (by rfl) (b_len M) PySem.boot_len (pa_cons (pv 3) pa_nil)) pa_nil)))
  (C8.pss_cut (ps_lock (ps_for PassesOwn.never rfl (pi_values (pv 2)) (pg_name (i := 6) sc_Layout___init__.nd rfl (Or.inl rfl)) (pss_one (ps_if (pt_not (pt_val (C8.pe_mt0 (met_Road_two_way M) hr (by decide) (pv 6)))) (pss_one (ps_expr (C8.pe_mt (met_Groups_unite M) hr (by decide) (pv 5) (pa_cons (pe_dget hu (pv 4) (pe_fld (pv 6) rfl) (fun _ _ => rfl)) (pa_cons (pe_dget hu (pv 4) (pe_fld (pv 6) rfl) (fun _ _ => rfl)) pa_nil))))) pss_nil))))
  (C8.pss_cut (ps_fld (pv 0) (pe_lc (own := [("members", 14)]) (g := (gName 14)) (tt := tYes) (te := (tLc (iList K (tVar 14)) (gName 13) tYes (tOp (rIxL K) (tVar 3) (tVar 13)) [13])) rfl sc_Layout___init__.nd (pi_list (C8.pe_mt0 (met_Groups_members M) hr (by decide) (pv 5))) (blkOk_by (N := ["self", "kinds", "roads", "names", "place", "groups", "road", "spot", "group", "crossing", "name", "start", "goal", "at", "members"]) (by kernel_rfl)) (fun _ _ _ _ _ => (pg_name (i := 14) sc_Layout___init__.nd rfl (Or.inl rfl))) (fun _ _ _ _ _ => pts_nil) (fun _ _ _ _ _ => (pe_lc (own := [("at", 13)]) (g := (gName 13)) (tt := tYes) (te := (tOp (rIxL K) (tVar 3) (tVar 13))) rfl sc_Layout___init__.nd (pi_list (pv 14)) (blkOk_by (N := ["self", "kinds", "roads", "names", "place", "groups", "road", "spot", "group", "crossing", "name", "start", "goal", "at", "members"]) (by kernel_rfl)) (fun _ _ _ _ _ => (pg_name (i := 13) sc_Layout___init__.nd rfl (Or.inl rfl))) (fun _ _ _ _ _ => pts_nil) (fun _ _ _ _ _ => (pe_ix ix_list (pv 3) (pv 13) (fun _ _ => rfl)))))) rfl)
  (pss_cons (ps_fld (pv 0) pe_dnewK rfl)
  (C8.pss_cut (ps_for PassesOwn.never rfl (pi_enum rfl (b_enumerate M) (pa_cons (pe_fld (pv 0) rfl) pa_nil)) (pg_tup rfl (pgs_cons (pg_name (i := 7) sc_Layout___init__.nd rfl (Or.inl rfl)) (pgs_cons (pg_name (i := 8) sc_Layout___init__.nd rfl (Or.inl rfl)) pgs_nil))) (pss_one (ps_for PassesOwn.never rfl (pi_list (pv 8)) (pg_name (i := 9) sc_Layout___init__.nd rfl (Or.inl rfl)) (pss_one (ps_dput hu (pe_fld (pv 0) rfl) (pv 9) (pv 7) rfl)))))
  (pss_cons (ps_fld (pv 0) pe_dnewK rfl)
  (C8.pss_cut (ps_fld (pv 0) (pe_lc (own := [("group", 8)]) (g := (gName 8)) (tt := tYes) (te := (tC (.int 0))) rfl sc_Layout___init__.nd (pi_list (pe_fld (pv 0) rfl)) (blkOk_by (N := ["self", "kinds", "roads", "names", "place", "groups", "road", "spot", "group", "crossing", "name", "start", "goal", "at", "members"]) (by kernel_rfl)) (fun _ _ _ _ _ => (pg_name (i := 8) sc_Layout___init__.nd rfl (Or.inl rfl))) (fun _ _ _ _ _ => pts_nil) (fun _ _ _ _ _ => pe_int)) rfl)
  (C8.pss_cut (ps_lock (ps_for PassesOwn.never rfl (pi_items (pv 2)) (pg_tup rfl (pgs_cons (pg_name (i := 10) sc_Layout___init__.nd rfl (Or.inl rfl)) (pgs_cons (pg_name (i := 6) sc_Layout___init__.nd rfl (Or.inl rfl)) pgs_nil))) (pss_one (ps_if (pt_val (C8.pe_mt0 (met_Road_two_way M) hr (by decide) (pv 6))) (pss_cons (ps_par (i := 11) (j := 12) rfl sc_Layout___init__.nd rfl rfl (by decide) rfl rfl (pa_cons (pe_dget hu (pe_fld (pv 0) rfl) (pe_fld (pv 6) rfl) (fun _ _ => rfl)) (pa_cons (pe_dget hu (pe_fld (pv 0) rfl) (pe_fld (pv 6) rfl) (fun _ _ => rfl)) pa_nil)) (by rfl))
  (pss_cons (ps_dput hu (pe_fld (pv 0) rfl) (pv 10) (pe_tup (pa_cons (pv 11) (pa_cons (pv 12) pa_nil))) rfl)
  (pss_cons (ps_augS (pe_fld (pv 0) rfl) (pv 11) BL.pget_list pe_int ip_add set_list)
  (pss_one (ps_augS (pe_fld (pv 0) rfl) (pv 12) BL.pget_list pe_int ip_add set_list))))) pss_nil))))
  (pss_one (ps_fld (pv 0) (pe_lc (own := [("group", 8)]) (g := (gName 8)) (tt := tYes) (te := (tDGet (tVar 1) (tOp (rIxL K) (tVar 8) (tC (.int 0))))) rfl sc_Layout___init__.nd (pi_list (pe_fld (pv 0) rfl)) (blkOk_by (N := ["self", "kinds", "roads", "names", "place", "groups", "road", "spot", "group", "crossing", "name", "start", "goal", "at", "members"]) (by kernel_rfl)) (fun _ _ _ _ _ => (pg_name (i := 8) sc_Layout___init__.nd rfl (Or.inl rfl))) (fun _ _ _ _ _ => pts_nil) (fun _ _ _ _ _ => (pe_dget hu (pv 1) (pe_ix ix_list (pv 8) pe_int (fun _ _ => rfl)) (fun _ _ => rfl)))) rfl)))))))))))), ?_⟩
    have sl0 : sizeLine = 16777216 := rfl
    have n24 := ok.hi
    have n2 := ok.lo
    -- names
    refine ⟨_, rfl, kd, _, rfl, Rd.of hk, fun pn npn => ?_⟩
    rw [names_eq]
    have s1 := Same.new (o := .lst ((List.range cs.length).map fun j => V.str (nameAt cs j))) npn
    have hpn : (L2.upd H pn (.lst ((List.range cs.length).map fun j => V.str (nameAt cs j)))) pn = some (.lst ((List.range cs.length).map fun j => V.str (nameAt cs j))) := upd_same
    generalize (L2.upd H pn (.lst ((List.range cs.length).map fun j => V.str (nameAt cs j)))) = H1 at s1 hpn
    -- place
    have nll : ((List.range cs.length).map fun j => V.str (nameAt cs j)).length = cs.length := by rw [List.length_map, List.length_range]
    refine ⟨_, rfl, pn, _, rfl, SqL.of hpn, fun pl npl => ?_⟩
    have plr : pl ≠ rdd := (ne_of_none (s1 _ _ hrd) npl).symm
    refine dc_it (walk_enum (xs := (List.range cs.length).map fun j => V.str (nameAt cs j))) (fun i H2 => L2.Same H1 H2 ∧ H2 pl = some (.dK (kvOf (plD cs i)))) ⟨Same.new npl, upd_same⟩ ?_ ?_ ?_
    · rintro i H2 _ ⟨s2, _⟩
      exact SqL.of (s2 _ _ hpn)
    · rintro i x H2 H3 hi ⟨s2, h2⟩ ⟨T, y1, y2, rfl, nT, rfl, e1, e2⟩
      rw [nll] at hi
      have e1 := (Option.some.inj e1).symm
      have e2 := Option.some.inj ((name_at hi).symm.trans e2)
      subst e1 e2
      have nTp := ne_of_none h2 nT
      refine ⟨T, _, rfl, .of upd_same, rfl, _, _, rfl, _, _, rfl, rfl, rfl, ?_⟩
      refine ⟨_, rfl, _, rfl, _, .inr (nameAt cs i), rfl, (upd_ne nTp).trans h2, by rw [kvOf_len, plD_len, sl0]; omega, Same.put (s2.trans (Same.new nT)) npl, ?_⟩
      rw [upd_same, put_new (plD_new ok hi), plD_snoc]
    rintro H2 ⟨s2, h2⟩
    rw [nll] at h2
    have s02 := s1.trans s2
    have hpn2 := s2 _ _ hpn
    -- groups
    refine ⟨fun σ H3 => ∃ g gdx pL : Addr, σ = lsT a kd rdd pn pl (some (.ref g)) none none none none none none none ∧ L2.Same H2 H3 ∧ H2 g = none ∧ H3 g = some (.ins (ga K "Groups") gdx [("labels", .ref pL)]) ∧ H3 pL = some (.lst (natV (List.range cs.length))), ?_, ?_⟩
    · refine ⟨_, rfl, ⟨_, _, rfl, .inl (SqL.of hpn2), ?_⟩⟩
      rw [nll]
      intro g gdx ng ngd hne
      refine ⟨g, gdx, cs.length, rfl, upd_same, by omega, fun p np => ⟨rfl, g, gdx, p, rfl, ?_, ng, upd_same, ?_⟩⟩
      · exact Same.put ((Same.put (Same.new ngd) ng).trans (Same.new np)) ng
      · exact (upd_ne (ne_of_none (H := L2.upd (L2.upd H2 gdx (.own g)) g (.ins (ga K "Groups") gdx [])) upd_same np).symm).trans upd_same
    rintro σ H3 ⟨g, gdx, pL, rfl, s3, ng2, hg3, hL3⟩
    have s03 := s02.trans s3
    have hpn3 := s3 _ _ hpn2
    have hpl3 := s3 _ _ h2
    have hrd3 := s03 _ _ hrd
    have ng0 : H g = none := s02.free ng2
    have roR : ∀ {o}, o ∈ ros → RoadAt K H3 cs o := fun h => (ho _ h).kept s03
    have rend : ∀ {o : RdO × BL.Rd}, o ∈ ros → o.2.a < cs.length ∧ o.2.b < cs.length := fun h => ⟨(ok.re _ (List.mem_map.mpr ⟨_, h, rfl⟩)).1, (ok.re _ (List.mem_map.mpr ⟨_, h, rfl⟩)).2.1⟩
    have gr : g ≠ rdd := ne_of_ob hg3 hrd3 (by simp)
    -- the groups are united
    refine ⟨fun σ H4 => ∃ (pL : Addr) (o6 : Option V), σ = lsT a kd rdd pn pl (some (.ref g)) o6 none none none none none none ∧ (∀ b o, H3 b = some o → b ≠ g → H4 b = some o) ∧ H4 g = some (.ins (ga K "Groups") gdx [("labels", .ref pL)]) ∧ H4 pL = some (.lst (natV (labsOf cs.length (ros.map (·.2))))), ?_, ?_⟩
    · refine ⟨rdd, _, hrd3, True.intro, fun od => ?_⟩
      refine ⟨_, rfl, rdd, od, _, rfl, upd_same, ?_⟩
      refine for_it walk_valsN (fun i σ H4 => ∃ (pL : Addr) (o6 : Option V), σ = lsT a kd rdd pn pl (some (.ref g)) o6 none none none none none none ∧ (∀ b o, H3 b = some o → b ≠ g → b ≠ rdd → H4 b = some o) ∧ H4 rdd = some (.frz od (.dK (kvOf (rkv ros)))) ∧ H4 g = some (.ins (ga K "Groups") gdx [("labels", .ref pL)]) ∧ H4 pL = some (.lst (natV (labsOf cs.length ((ros.take i).map (·.2)))))) ⟨pL, none, rfl, fun b o h n1 n2 => (upd_ne n2).trans h, upd_same, (upd_ne gr).trans hg3, (upd_ne (ne_of_ob hL3 hrd3 (by simp))).trans hL3⟩ ?_ ?_ ?_
      · rintro i σ H4 _ ⟨pL, o6, rfl, _, f4, _⟩
        exact f4
      · rintro i x σ H4 H5 hi ⟨pL, o6, rfl, k4, f4, g4, l4⟩ ⟨rfl, c, hc, rfl⟩
        obtain ⟨o, hoi, rfl⟩ := rkv_at hc
        have hom := List.mem_of_getElem? hoi
        have hR := roR hom
        obtain ⟨hra, hrb⟩ := rend hom
        have r1 := k4 _ _ hR.1 (ne_of_ob hR.1 hg3 (ne_ins (by simp))) (ne_of_ob hR.1 hrd3 (by simp))
        have r2 := k4 _ _ hR.2 (ne_of_ob hR.2 hg3 (by simp)) (ne_of_ob hR.2 hrd3 (by simp))
        have p4 := k4 _ _ hpl3 (ne_of_ob hpl3 hg3 (by simp)) plr
        refine ⟨_, rfl, o.1.ra, _, _, rfl, r1, rfl, cs, o, rfl, ⟨r1, r2⟩, ⟨_, rfl, ?_⟩⟩
        have ets : labsOf cs.length ((ros.take (i + 1)).map (·.2)) = uniteR (labsOf cs.length ((ros.take i).map (·.2))) o.2 := by rw [take_snoc hoi, List.map_append]; exact labsOf_snoc _ _ _
        cases htw : o.2.two with
        | true =>
          refine iteB (fun e => by cases e) (fun _ => ⟨pL, _, rfl, k4, f4, g4, ?_⟩)
          rw [ets]
          unfold uniteR
          rw [if_pos htw]
          exact l4
        | false =>
          refine iteB (fun _ => ?_) (fun e => by cases e)
          refine ⟨_, rfl, g, gdx, _, rfl, g4, rfl, ?_⟩
          refine ⟨_, rfl, _, rfl, o.1.ra, _, _, _, _, rfl, r1, c_Road M, na_Road_start M, rfl, pl, _, rfl, dget_place ok hra p4, ?_⟩
          refine ⟨_, rfl, _, rfl, o.1.ra, _, _, _, _, rfl, r1, c_Road M, na_Road_goal M, rfl, pl, _, rfl, dget_place ok hrb p4, ?_⟩
          refine ⟨g, gdx, pL, _, o.2.a, o.2.b, rfl, g4, l4, by rw [labsOf_len]; exact hra, by rw [labsOf_len]; exact hrb, by rw [labsOf_len]; omega, fun v pL' H5 k5 g5 l5 => ?_⟩
          refine ⟨pL', _, rfl, fun b o' h n1 n2 => k5 _ _ (k4 b o' h n1 n2) n1, k5 _ _ f4 gr.symm, g5, ?_⟩
          rw [ets]
          unfold uniteR
          rw [if_neg (by rw [htw]; decide)]
          exact l5
      · rintro σ H4 ⟨pL, o6, rfl, k4, f4, g4, l4⟩
        rw [rkv_len, List.take_length] at l4
        refine ⟨f4, pL, o6, rfl, fun b o h n => ?_, (upd_ne gr).trans g4, (upd_ne (ne_of_ob l4 f4 (by simp))).trans l4⟩
        by_cases e : b = rdd
        · subst e
          rw [upd_same, ← h]
          exact hrd3.symm
        · exact (upd_ne e).trans (k4 b o h n e)
    rintro σ H4 ⟨pL', o6, rfl, k4, g4, l4⟩
    have s04 : L2.Same H H4 := fun b o h => k4 b o (s03 b o h) (ne_of_none h ng0)
    have hpn4 := k4 _ _ hpn3 (ne_of_ob hpn3 hg3 (by simp))
    clear k4 s03 s3 hpn3 hg3 hL3 hpl3 hrd3 roR h2 hpn2 s02 s1 s2 ng2 hpn
    -- self.groups
    refine ⟨fun σ H5 => ∃ (D : Addr) (gl : List (Addr × List Nat)), σ = lsT a kd rdd pn pl (some (.ref g)) o6 none none none none none none ∧ Kp a H H5 ∧ H5 a = some (.ins (ga K "Layout") dx [("groups", .ref D)]) ∧ H5 D = some (.lst (gl.map fun x => .ref x.1)) ∧ GlAt cs H5 gl ∧ GlOk cs.length (gl.map (·.2)) ∧ gl.map (·.2) = gsOf cs.length (ros.map (·.2)), ?_, ?_⟩
    · refine ⟨_, rfl, g, gdx, _, rfl, g4, rfl, g, gdx, pL', _, rfl, g4, l4, by rw [labsOf_len]; omega, fun q t H5 s5 to5 ta5 _ _ hq => ?_⟩
      rw [labsOf_len] at to5
      have go := GlOk.of to5
      have hpn5 := s5 _ _ hpn4
      refine ⟨q, rfl, ⟨_, SqL.of hq⟩, fun D nD => ?_⟩
      have cnt := go.cnt
      rw [List.length_map] at cnt
      refine lc_list (K := K) (a := q) (xs := t.map fun e => V.ref e.1) (fun i H6 => ∃ gl : List (Addr × List Nat), H6 D = some (.lst (gl.map fun x => .ref x.1)) ∧ GlAt cs H6 gl ∧ gl.map (·.2) = (t.take i).map (·.2.2) ∧ gl.length = i ∧ L2.Same H5 H6 ∧ ∀ x ∈ gl, x.1 ≠ D) ⟨[], upd_same, nofun, rfl, rfl, Same.new nD, nofun⟩ ?_ ?_ ?_
      · rintro i H6 _ ⟨gl, _, _, _, _, s6, _⟩
        exact SqL.of (s6 _ _ hq)
      · rintro i x H6 hx ⟨gl, h6, ga6, e6, l6, s6, nd6⟩
        obtain ⟨e, he, rfl⟩ := at_map hx
        have hem := List.mem_of_getElem? he
        have hil := (List.getElem?_eq_some_iff.mp he).1
        have hea := s6 _ _ (ta5.at_ e hem)
        have hpn6 := s6 _ _ hpn5
        refine ⟨rfl, _, rfl, e.1, rfl, ⟨_, SqL.of hea⟩, fun E' nE => ?_⟩
        have elen : e.2.2.length ≤ cs.length := by
          have h1 := go.len
          have h2 : e.2.2.length ≤ (t.map (·.2.2)).flatten.length := (List.sublist_flatten_of_mem (show e.2.2 ∈ t.map (·.2.2) from List.mem_map.mpr ⟨e, hem, rfl⟩)).length_le
          omega
        refine lc_list (K := K) (a := e.1) (xs := natV e.2.2) (fun j H7 => H7 = L2.upd H6 E' (.lst ((e.2.2.take j).map fun x => .str (nameAt cs x)))) rfl ?_ ?_ ?_
        · rintro j H7 _ rfl
          exact SqL.of ((Same.new nE) _ _ hea)
        · rintro j y H7 hy rfl
          obtain ⟨x, hx, rfl⟩ := at_map hy
          have hxl := to5.lt e hem x (List.mem_of_getElem? hx)
          refine ⟨rfl, _, rfl, _, rfl, pn, _, _, _, rfl, rfl, SqL.of ((Same.new nE) _ _ hpn6), at_of (j := x) rfl (name_at hxl), ?_⟩
          refine ⟨_, upd_same, ?_, ?_⟩
          · rw [List.length_map, List.length_take, sl0]; omega
          · rw [upd_upd, take_snoc hx, List.map_append]; rfl
        rintro H7 rfl
        rw [List.length_map, List.take_length]
        have nDE := ne_of_none h6 nE
        have hD7 := (upd_ne (o := .lst (e.2.2.map fun x => .str (nameAt cs x))) nDE).trans h6
        refine ⟨_, hD7, by rw [List.length_map, sl0]; omega, gl ++ [(E', e.2.2)], by rw [upd_same, List.map_append]; rfl, fun x hx => ?_, ?_, by rw [List.length_append, l6]; rfl, Same.put (s6.trans (Same.new nE)) nD, ?_⟩
        rotate_left 2
        · intro x hx
          rcases List.mem_append.mp hx with z | z
          · exact nd6 x z
          · rw [List.mem_singleton.mp z]; exact nDE.symm
        · have : (L2.upd H6 E' (.lst (e.2.2.map fun x => .str (nameAt cs x)))) x.1 = some (.lst (x.2.map fun j => .str (nameAt cs j))) ∧ x.1 ≠ D := by
            rcases List.mem_append.mp hx with z | z
            · exact ⟨(Same.new nE) _ _ (ga6 x z), nd6 x z⟩
            · rw [List.mem_singleton.mp z]; exact ⟨upd_same, nDE.symm⟩
          exact (upd_ne this.2).trans this.1
        · rw [List.map_append, e6, take_snoc he, List.map_append]; rfl
      rintro H6 ⟨gl, h6, ga6, e6, l6, s6, nd6⟩
      rw [List.length_map, List.take_length] at e6
      have ha6 := s6 _ _ (s5 _ _ (s04 _ _ ha))
      refine ⟨_, rfl, a, _, dx, _, rfl, ha6, c_Layout M, na_Layout_groups M, Nat.le_of_ble_eq_true rfl, ?_⟩
      refine ⟨D, gl, rfl, ?_, upd_same, (upd_ne (ne_of_ob h6 ha6 (by simp))).trans h6, fun x hx => (upd_ne (ne_of_ob (ga6 x hx) ha6 (by simp))).trans (ga6 x hx), by rw [e6]; exact go, ?_⟩
      rotate_left 1
      · rw [e6]
        have lok : LabOk (labsOf cs.length (ros.map (·.2))) := lab_of fun r hr => ⟨(ok.re r hr).1, (ok.re r hr).2.1⟩
        have ex := congrArg (List.map (·.2)) (to5.ex lok)
        rw [List.map_map] at ex
        exact ex
      exact (Kp.of ((s04.trans s5).trans s6)).trans Kp.upd
    clear g4 l4 hpn4 s04
    rintro σ H5 ⟨D, gl, rfl, k5, a5, d5, ga5, go, eg⟩
    have kad : a ≠ kd := ne_of_ob ha hk (by simp)
    have kar : a ≠ rdd := ne_of_ob ha hrd (by simp)
    have glc := go.cnt
    rw [List.length_map] at glc
    -- self.spot_at
    intro sd nsd
    have sda : sd ≠ a := (ne_of_none a5 nsd).symm
    refine ⟨_, rfl, a, _, dx, _, rfl, (upd_ne sda.symm).trans a5, c_Layout M, na_Layout_spot_at M, Nat.le_of_ble_eq_true rfl, ?_⟩
    have k6 : Kp a H (L2.upd (L2.upd H5 sd (.dK [])) a (.ins (ga K "Layout") dx [("groups", .ref D), ("spot_at", .ref sd)])) := (k5.trans (Kp.new nsd)).trans Kp.upd
    have a6 : (L2.upd (L2.upd H5 sd (.dK [])) a (.ins (ga K "Layout") dx [("groups", .ref D), ("spot_at", .ref sd)])) a = some (.ins (ga K "Layout") dx [("groups", .ref D), ("spot_at", .ref sd)]) := upd_same
    have sd6 : (L2.upd (L2.upd H5 sd (.dK [])) a (.ins (ga K "Layout") dx [("groups", .ref D), ("spot_at", .ref sd)])) sd = some (.dK (kvOf (spV cs (spD 0 ((gl.map (·.2)).take 0))))) := (upd_ne sda).trans upd_same
    have d6 : (L2.upd (L2.upd H5 sd (.dK [])) a (.ins (ga K "Layout") dx [("groups", .ref D), ("spot_at", .ref sd)])) D = some (.lst (gl.map fun x => .ref x.1)) := (upd_ne (ne_of_ob d5 a5 (by simp))).trans ((upd_ne (ne_of_none d5 nsd)).trans d5)
    have ga6 : GlAt cs (L2.upd (L2.upd H5 sd (.dK [])) a (.ins (ga K "Layout") dx [("groups", .ref D), ("spot_at", .ref sd)])) gl := fun x hx => (upd_ne (ne_of_ob (ga5 x hx) a5 (by simp))).trans ((upd_ne (ne_of_none (ga5 x hx) nsd)).trans (ga5 x hx))
    have nsd0 : H sd = none := k5.free nsd sda
    change Kp a H (L2.upd (L2.upd H5 sd (.dK [])) a (.ins (ga K "Layout") dx (putF "spot_at" (.ref sd) [("groups", .ref D)]))) at k6
    change (L2.upd (L2.upd H5 sd (.dK [])) a (.ins (ga K "Layout") dx (putF "spot_at" (.ref sd) [("groups", .ref D)]))) a = _ at a6
    change (L2.upd (L2.upd H5 sd (.dK [])) a (.ins (ga K "Layout") dx (putF "spot_at" (.ref sd) [("groups", .ref D)]))) sd = _ at sd6
    change (L2.upd (L2.upd H5 sd (.dK [])) a (.ins (ga K "Layout") dx (putF "spot_at" (.ref sd) [("groups", .ref D)]))) D = _ at d6
    change GlAt cs (L2.upd (L2.upd H5 sd (.dK [])) a (.ins (ga K "Layout") dx (putF "spot_at" (.ref sd) [("groups", .ref D)]))) gl at ga6
    generalize (L2.upd (L2.upd H5 sd (.dK [])) a (.ins (ga K "Layout") dx (putF "spot_at" (.ref sd) [("groups", .ref D)]))) = H6 at k6 a6 sd6 d6 ga6
    clear k5 a5 d5 ga5 nsd
    refine ⟨fun σ H7 => ∃ o7 o8 o9 : Option V, σ = lsT a kd rdd pn pl (some (.ref g)) o6 o7 o8 o9 none none none ∧ Kp a H H7 ∧ H7 a = some (.ins (ga K "Layout") dx [("groups", .ref D), ("spot_at", .ref sd)]) ∧ H7 sd = some (.dK (kvOf (spV cs (spD 0 (gl.map (·.2)))))) ∧ H7 D = some (.lst (gl.map fun x => .ref x.1)) ∧ GlAt cs H7 gl, ?_, ?_⟩
    · refine ⟨_, rfl, a, _, dx, _, _, rfl, a6, c_Layout M, na_Layout_groups M, rfl, D, _, rfl, SqL.of d6, ?_⟩
      refine for_it (walk_enum (xs := gl.map fun x => V.ref x.1)) (fun i σ H7 => ∃ o7 o8 o9 : Option V, σ = lsT a kd rdd pn pl (some (.ref g)) o6 o7 o8 o9 none none none ∧ Kp a H H7 ∧ H7 a = some (.ins (ga K "Layout") dx [("groups", .ref D), ("spot_at", .ref sd)]) ∧ H7 sd = some (.dK (kvOf (spV cs (spD 0 ((gl.map (·.2)).take i))))) ∧ H7 D = some (.lst (gl.map fun x => .ref x.1)) ∧ GlAt cs H7 gl) ⟨none, none, none, rfl, k6, a6, sd6, d6, ga6⟩ ?_ ?_ ?_
      · rintro i σ H7 _ ⟨o7, o8, o9, rfl, _, _, _, d7, _⟩
        exact SqL.of d7
      · clear k6 a6 sd6 d6 ga6
        rintro i x σ H7 H8 hi ⟨o7, o8, o9, rfl, k7, a7, sd7, d7, ga7⟩ ⟨T, y1, y2, rfl, nT, rfl, e1, e2⟩
        have e1 := (Option.some.inj e1).symm
        subst e1
        obtain ⟨gg, hgg, rfl⟩ := at_map e2
        have hgm := List.mem_of_getElem? hgg
        refine ⟨T, _, rfl, .of upd_same, rfl, _, _, rfl, _, _, rfl, rfl, ?_⟩
        have sT := Same.new (o := .tup [.int (i : Nat), .ref gg.1]) nT
        have k8 := k7.trans (Kp.of (b := a) sT)
        have a8 := sT _ _ a7
        have sd8 := sT _ _ sd7
        have d8 := sT _ _ d7
        have ga8 : GlAt cs (L2.upd H7 T (.tup [.int (i : Nat), .ref gg.1])) gl := fun x hx => sT _ _ (ga7 x hx)
        generalize (L2.upd H7 T (.tup [.int (i : Nat), .ref gg.1])) = H8 at k8 a8 sd8 d8 ga8
        clear sT nT k7 a7 sd7 d7 ga7
        have hgs : (gl.map (·.2))[i]? = some gg.2 := by rw [List.getElem?_map, hgg]; rfl
        have hgg8 := ga8 gg hgm
        have sl2 : ((gl.map (·.2)).take i).length = i := by
          rw [List.length_take, List.length_map]
          have := (List.getElem?_eq_some_iff.mp hgg).1
          omega
        refine ⟨_, rfl, gg.1, rfl, ⟨_, SqL.of hgg8⟩, ?_⟩
        refine for_list (K := K) (a := gg.1) (xs := gg.2.map fun j => V.str (nameAt cs j)) (fun j σ H9 => ∃ o9 : Option V, σ = lsT a kd rdd pn pl (some (.ref g)) o6 (some (.int (i : Nat))) (some (.ref gg.1)) o9 none none none ∧ Kp a H H9 ∧ H9 a = some (.ins (ga K "Layout") dx [("groups", .ref D), ("spot_at", .ref sd)]) ∧ H9 sd = some (.dK (kvOf (spV cs (spD 0 ((gl.map (·.2)).take i) ++ (gg.2.take j).map fun x => (x, i))))) ∧ H9 D = some (.lst (gl.map fun x => .ref x.1)) ∧ GlAt cs H9 gl) ⟨o9, rfl, k8, a8, by rw [List.take_zero, List.map_nil, List.append_nil]; exact sd8, d8, ga8⟩ ?_ ?_ ?_
        · rintro j σ H9 _ ⟨o9, rfl, _, _, _, _, ga9⟩
          exact SqL.of (ga9 gg hgm)
        · rintro j y σ H9 hy ⟨o9, rfl, k9, a9, sd9, d9, ga9⟩
          obtain ⟨x, hx, rfl⟩ := at_map hy
          obtain ⟨nx, lx⟩ := sp_new go hgs hx
          have hks : (spD 0 ((gl.map (·.2)).take i) ++ (gg.2.take j).map fun x => (x, i)).map (·.1) = ((gl.map (·.2)).take i).flatten ++ gg.2.take j := by
            rw [List.map_append, spD_fst, List.map_map]
            congr 1
            exact List.map_id _
          have hxn : x < cs.length := go.lt gg.2 (List.mem_of_getElem? hgs) x (List.mem_of_getElem? hx)
          have hnew : nameAt cs x ∉ (spV cs (spD 0 ((gl.map (·.2)).take i) ++ (gg.2.take j).map fun x => (x, i))).map (·.1) := by
            rw [spV_keys, hks]
            intro q
            obtain ⟨y, hy, e⟩ := List.mem_map.mp q
            have hyn : y < cs.length := by
              rcases List.mem_append.mp hy with z | z
              · obtain ⟨g', hg', hy⟩ := List.mem_flatten.mp z
                exact go.lt g' (List.mem_of_mem_take hg') y hy
              · exact go.lt gg.2 (List.mem_of_getElem? hgs) y (List.mem_of_mem_take z)
            exact nx (names_ne ok hyn hxn e ▸ hy)
          have hlen : (spV cs (spD 0 ((gl.map (·.2)).take i) ++ (gg.2.take j).map fun x => (x, i))).length < cs.length := by
            have e : (spV cs (spD 0 ((gl.map (·.2)).take i) ++ (gg.2.take j).map fun x => (x, i))).length = ((spD 0 ((gl.map (·.2)).take i) ++ (gg.2.take j).map fun x => (x, i)).map (·.1)).length := by unfold spV; rw [List.length_map, List.length_map]
            rw [e, hks]
            exact lx
          refine ⟨_, rfl, _, rfl, a, _, dx, _, _, rfl, a9, c_Layout M, na_Layout_spot_at M, rfl, _, rfl, sd, _, rfl, .k (k := .inr (nameAt cs x)) sd9 (by rw [kvOf_len, sl0]; omega), ?_⟩
          rw [put_new hnew]
          refine ⟨_, rfl, k9.put nsd0, (upd_ne (ne_of_ob a9 sd9 (by simp))).trans a9, ?_, (upd_ne (ne_of_ob d9 sd9 (by simp))).trans d9, fun x hx => (upd_ne (ne_of_ob (ga9 x hx) sd9 (by simp))).trans (ga9 x hx)⟩
          rw [upd_same, take_snoc hx, List.map_append, ← List.append_assoc]
          congr 3
          unfold spV
          rw [List.map_append (l₁ := spD 0 ((gl.map (·.2)).take i) ++ _)]
          rfl
        · rintro σ H9 ⟨o9, rfl, k9, a9, sd9, d9, ga9⟩
          refine ⟨_, _, o9, rfl, k9, a9, ?_, d9, ga9⟩
          rw [List.length_map, List.take_length] at sd9
          rw [sd9, take_snoc hgs, spD_snoc, sl2, Nat.zero_add]
      · rintro σ H7 ⟨o7, o8, o9, rfl, k7, a7, sd7, d7, ga7⟩
        rw [List.length_map, List.take_of_length_le (by rw [List.length_map]; exact Nat.le_refl _)] at sd7
        exact ⟨o7, o8, o9, rfl, k7, a7, sd7, d7, ga7⟩
    clear k6 a6 sd6 d6 ga6
    rintro σ H7 ⟨o7, o8, o9, rfl, k7, a7, sd7, d7, ga7⟩
    -- joins, degrees
    intro jd njd
    have jda : jd ≠ a := (ne_of_none a7 njd).symm
    refine ⟨_, rfl, a, _, dx, _, rfl, (upd_ne jda.symm).trans a7, c_Layout M, na_Layout_joins M, Nat.le_of_ble_eq_true rfl, ?_⟩
    have nj0 : H jd = none := k7.free njd jda
    have k8 : Kp a H (L2.upd (L2.upd H7 jd (.dK [])) a (.ins (ga K "Layout") dx (putF "joins" (.ref jd) [("groups", .ref D), ("spot_at", .ref sd)]))) := (k7.trans (Kp.new njd)).trans Kp.upd
    have a8 : (L2.upd (L2.upd H7 jd (.dK [])) a (.ins (ga K "Layout") dx (putF "joins" (.ref jd) [("groups", .ref D), ("spot_at", .ref sd)]))) a = some (.ins (ga K "Layout") dx [("groups", .ref D), ("spot_at", .ref sd), ("joins", .ref jd)]) := upd_same
    have j8 : (L2.upd (L2.upd H7 jd (.dK [])) a (.ins (ga K "Layout") dx (putF "joins" (.ref jd) [("groups", .ref D), ("spot_at", .ref sd)]))) jd = some (.dK (kvOf [])) := (upd_ne jda).trans upd_same
    have sd8 : (L2.upd (L2.upd H7 jd (.dK [])) a (.ins (ga K "Layout") dx (putF "joins" (.ref jd) [("groups", .ref D), ("spot_at", .ref sd)]))) sd = some (.dK (kvOf (spV cs (spD 0 (gl.map (·.2)))))) := (upd_ne (ne_of_ob sd7 a7 (by simp))).trans ((upd_ne (ne_of_none sd7 njd)).trans sd7)
    have d8 : (L2.upd (L2.upd H7 jd (.dK [])) a (.ins (ga K "Layout") dx (putF "joins" (.ref jd) [("groups", .ref D), ("spot_at", .ref sd)]))) D = some (.lst (gl.map fun x => .ref x.1)) := (upd_ne (ne_of_ob d7 a7 (by simp))).trans ((upd_ne (ne_of_none d7 njd)).trans d7)
    have ga8 : GlAt cs (L2.upd (L2.upd H7 jd (.dK [])) a (.ins (ga K "Layout") dx (putF "joins" (.ref jd) [("groups", .ref D), ("spot_at", .ref sd)]))) gl := fun x hx => (upd_ne (ne_of_ob (ga7 x hx) a7 (by simp))).trans ((upd_ne (ne_of_none (ga7 x hx) njd)).trans (ga7 x hx))
    have sj : sd ≠ jd := ne_of_none sd7 njd
    generalize (L2.upd (L2.upd H7 jd (.dK [])) a (.ins (ga K "Layout") dx (putF "joins" (.ref jd) [("groups", .ref D), ("spot_at", .ref sd)]))) = H8 at k8 a8 j8 sd8 d8 ga8
    clear k7 a7 sd7 d7 ga7 njd
    refine ⟨fun σ H9 => ∃ dg : Addr, σ = lsT a kd rdd pn pl (some (.ref g)) o6 o7 o8 o9 none none none ∧ Kp a H H9 ∧ H9 a = some (.ins (ga K "Layout") dx [("groups", .ref D), ("spot_at", .ref sd), ("joins", .ref jd), ("degrees", .ref dg)]) ∧ H9 sd = some (.dK (kvOf (spV cs (spD 0 (gl.map (·.2)))))) ∧ H9 D = some (.lst (gl.map fun x => .ref x.1)) ∧ GlAt cs H9 gl ∧ H9 jd = some (.dK (kvOf [])) ∧ H9 dg = some (.lst ((List.replicate gl.length (0 : Int)).map V.int)) ∧ H dg = none ∧ D ≠ dg ∧ (∀ x ∈ gl, x.1 ≠ dg), ?_, ?_⟩
    · refine ⟨_, rfl, a, _, dx, _, _, rfl, a8, c_Layout M, na_Layout_groups M, rfl, D, rfl, ⟨_, SqL.of d8⟩, fun dg ndg => ?_⟩
      refine lc_list (K := K) (a := D) (xs := gl.map fun x => V.ref x.1) (fun i H9 => H9 = L2.upd H8 dg (.lst ((List.replicate i (0 : Int)).map V.int)) ∧ i ≤ gl.length) ⟨rfl, Nat.zero_le _⟩ ?_ ?_ ?_
      · rintro i H9 _ ⟨rfl, _⟩
        exact SqL.of ((Same.new ndg) _ _ d8)
      · rintro i x H9 hx ⟨rfl, hi⟩
        have hil := (List.getElem?_eq_some_iff.mp hx).1
        rw [List.length_map] at hil
        refine ⟨rfl, _, upd_same, ?_, ?_, hil⟩
        · rw [List.length_map, List.length_replicate, sl0]; omega
        · rw [upd_upd, ← rep_snoc, List.map_append]; rfl
      rintro H9 ⟨rfl, _⟩
      have s9 := Same.new (o := .lst ((List.replicate (gl.map fun x => V.ref x.1).length (0 : Int)).map V.int)) ndg
      rw [List.length_map] at s9 ⊢
      have ada : dg ≠ a := (ne_of_none a8 ndg).symm
      refine ⟨_, rfl, a, _, dx, _, rfl, s9 _ _ a8, c_Layout M, na_Layout_degrees M, Nat.le_of_ble_eq_true rfl, ?_⟩
      refine ⟨dg, rfl, (k8.trans (Kp.of s9)).trans Kp.upd, upd_same, (upd_ne (ne_of_ob sd8 a8 (by simp))).trans (s9 _ _ sd8), (upd_ne (ne_of_ob d8 a8 (by simp))).trans (s9 _ _ d8), fun x hx => (upd_ne (ne_of_ob (ga8 x hx) a8 (by simp))).trans (s9 _ _ (ga8 x hx)), (upd_ne jda).trans (s9 _ _ j8), (upd_ne ada).trans upd_same, k8.free ndg ada, ne_of_none d8 ndg, fun x hx => ne_of_none (ga8 x hx) ndg⟩
    clear k8 a8 sd8 d8 ga8 j8
    rintro σ H9 ⟨dg, rfl, k9, a9, sd9, d9, ga9, j9, g9, ndg0, nDd, ngd⟩
    -- joins of two-way streets
    have hrd9 := k9 _ _ hrd kar.symm
    have jr : jd ≠ rdd := (ne_of_none hrd nj0).symm
    have dr : dg ≠ rdd := (ne_of_none hrd ndg0).symm
    have sr : sd ≠ rdd := (ne_of_none hrd nsd0).symm
    have Dr : D ≠ rdd := ne_of_ob d9 hrd9 (by simp)
    refine ⟨fun σ H10 => ∃ (jl : List (Addr × Jn)) (o6 o7 o8 o9 o10 o11 o12 : Option V), σ = lsT a kd rdd pn pl (some (.ref g)) o6 o7 o8 o9 o10 o11 o12 ∧ Kp a H H10 ∧ H10 a = some (.ins (ga K "Layout") dx [("groups", .ref D), ("spot_at", .ref sd), ("joins", .ref jd), ("degrees", .ref dg)]) ∧ H10 D = some (.lst (gl.map fun x => .ref x.1)) ∧ GlAt cs H10 gl ∧ H10 sd = some (.dK (kvOf (spV cs (spD 0 (gl.map (·.2)))))) ∧ H10 jd = some (.dK (kvOf (jl.map fun x => (x.2.1, .ref x.1)))) ∧ JnAt H10 jl ∧ jl.map (·.2) = joinsD (gl.map (·.2)) (ros.map (·.2)) ∧ H10 dg = some (.lst ((degsOf (gl.map (·.2)) (ros.map (·.2))).map V.int)), ?_, ?_⟩
    · refine ⟨rdd, _, hrd9, True.intro, fun od => ?_⟩
      refine ⟨_, rfl, rdd, od, _, rfl, upd_same, ?_⟩
      refine for_it walk_itemsN (fun i σ H10 => ∃ (jl : List (Addr × Jn)) (o6 o10 o11 o12 : Option V), σ = lsT a kd rdd pn pl (some (.ref g)) o6 o7 o8 o9 o10 o11 o12 ∧ (∀ b o, H b = some o → b ≠ a → b ≠ rdd → H10 b = some o) ∧ H10 rdd = some (.frz od (.dK (kvOf (rkv ros)))) ∧ H10 a = some (.ins (ga K "Layout") dx [("groups", .ref D), ("spot_at", .ref sd), ("joins", .ref jd), ("degrees", .ref dg)]) ∧ H10 sd = some (.dK (kvOf (spV cs (spD 0 (gl.map (·.2)))))) ∧ H10 D = some (.lst (gl.map fun x => .ref x.1)) ∧ GlAt cs H10 gl ∧ H10 jd = some (.dK (kvOf (jl.map fun x => (x.2.1, .ref x.1)))) ∧ JnAt H10 jl ∧ jl.map (·.2) = joinsD (gl.map (·.2)) ((ros.take i).map (·.2)) ∧ H10 dg = some (.lst ((degsOf (gl.map (·.2)) ((ros.take i).map (·.2))).map V.int))) ?_ ?_ ?_ ?_
      · refine ⟨[], o6, none, none, none, rfl, fun b o h n1 n2 => (upd_ne n2).trans (k9 b o h n1), upd_same, (upd_ne kar).trans a9, (upd_ne sr).trans sd9, (upd_ne Dr).trans d9, fun x hx => (upd_ne (ne_of_ob (ga9 x hx) hrd9 (by simp))).trans (ga9 x hx), (upd_ne jr).trans j9, nofun, rfl, by unfold degsOf; rw [List.length_map]; exact (upd_ne dr).trans g9⟩
      · rintro i σ H10 _ ⟨jl, o6, o10, o11, o12, rfl, _, f10, _⟩
        exact f10
      · clear k9 a9 sd9 d9 ga9 j9 g9 hrd9
        rintro i x σ H10 H11 hi ⟨jl, o6, o10, o11, o12, rfl, k10, f10, a10, sd10, d10, ga10, j10, jn10, ej, g10⟩ ⟨T, c, hc, rfl, nT, rfl⟩
        obtain ⟨js, hjs⟩ : ∃ js : List (Str × V), js = jl.map fun x => (x.2.1, .ref x.1) := ⟨_, rfl⟩
        obtain ⟨ds, hds⟩ : ∃ ds, ds = degsOf (gl.map (·.2)) ((ros.take i).map (·.2)) := ⟨_, rfl⟩
        rw [← hjs] at j10
        rw [← hds] at g10
        have dl : ds.length = gl.length := by rw [hds, degs_len, List.length_map]
        have jk : js.map (·.1) = ((ros.take i).filter (·.2.two)).map (·.2.name) := by
          have := congrArg (List.map (·.1)) ej
          rw [hjs, List.map_map]
          rw [List.map_map] at this
          refine Eq.trans this ?_
          unfold joinsD
          rw [List.filter_map, List.map_map, List.map_map]
          rfl
        obtain ⟨o, hoi, rfl⟩ := rkv_at hc
        refine ⟨T, _, rfl, .of upd_same, rfl, _, _, rfl, _, _, rfl, rfl, ?_⟩
        have sT := Same.new (o := .tup [.str o.2.name, .ref o.1.ra]) nT
        have hom := List.mem_of_getElem? hoi
        have hil := (List.getElem?_eq_some_iff.mp hoi).1
        have hR := ho o hom
        obtain ⟨hra, hrb⟩ := rend hom
        have n1 : o.1.ra ≠ rdd := ne_of_ob hR.1 hrd (by simp)
        have n2 : o.1.rt ≠ rdd := ne_of_ob hR.2 hrd (by simp)
        have n3 : o.1.ra ≠ a := ne_of_ob hR.1 ha (ne_ins (by simp))
        have n4 : o.1.rt ≠ a := ne_of_ob hR.2 ha (by simp)
        have jsl : js.length ≤ i := by
          have h1 := congrArg List.length jk
          rw [List.length_map, List.length_map] at h1
          have h2 := List.length_filter_le (fun o : RdO × BL.Rd => o.2.two) (ros.take i)
          rw [List.length_take] at h2
          omega
        have rl48 : ros.length ≤ 48 := by
          have h1 := ok.st
          have h2 := ok.ow
          have h3 := len_two (ros.map (·.2))
          rw [List.length_map] at h3
          omega
        have k11 : ∀ b u, H b = some u → b ≠ a → b ≠ rdd → (L2.upd H10 T (.tup [.str o.2.name, .ref o.1.ra])) b = some u := fun b u h m1 m2 => sT _ _ (k10 b u h m1 m2)
        have f11 := sT _ _ f10
        have a11 := sT _ _ a10
        have sd11 := sT _ _ sd10
        have d11 := sT _ _ d10
        have ga11 : GlAt cs (L2.upd H10 T (.tup [.str o.2.name, .ref o.1.ra])) gl := fun x hx => sT _ _ (ga10 x hx)
        have j11 := sT _ _ j10
        have g11 := sT _ _ g10
        have jn11 : JnAt (L2.upd H10 T (.tup [.str o.2.name, .ref o.1.ra])) jl := fun x hx => sT _ _ (jn10 x hx)
        have edg : degsOf (gl.map (·.2)) ((ros.take (i + 1)).map (·.2)) = addDeg (gl.map (·.2)) ds o.2 := by rw [take_snoc hoi, List.map_append, hds]; exact degs_snoc _ _ _
        have ejn : joinsD (gl.map (·.2)) ((ros.take (i + 1)).map (·.2)) = jl.map (·.2) ++ (if o.2.two = true then [(o.2.name, spotOf (gl.map (·.2)) o.2.a, spotOf (gl.map (·.2)) o.2.b)] else []) := by
          rw [take_snoc hoi, List.map_append, ej]
          unfold joinsD
          rw [List.filter_append, List.map_append]
          congr 1
          by_cases q : o.2.two = true
          · rw [if_pos q]; simp [q]
          · rw [if_neg q]; simp [q]
        generalize (L2.upd H10 T (.tup [.str o.2.name, .ref o.1.ra])) = H11 at k11 f11 a11 sd11 d11 ga11 j11 g11 jn11
        clear jn10 k10 f10 a10 sd10 d10 ga10 j10 g10 sT nT
        have r1 := k11 _ _ hR.1 n3 n1
        have r2 := k11 _ _ hR.2 n4 n2
        refine ⟨_, rfl, o.1.ra, _, _, rfl, r1, rfl, cs, o, rfl, ⟨r1, r2⟩, ⟨_, rfl, ?_⟩⟩
        cases htw : o.2.two with
        | false =>
          refine iteB (fun e => by cases e) (fun _ => ⟨jl, _, _, _, _, rfl, k11, f11, a11, sd11, d11, ga11, by rw [← hjs]; exact j11, jn11, ?_, ?_⟩)
          · rw [ejn, htw]; simp
          · rw [edg]
            unfold addDeg
            rw [if_neg (by rw [htw]; decide)]
            exact g11
        | true =>
          refine iteB (fun _ => ?_) (fun e => by cases e)
          obtain ⟨lt1, dg1⟩ := spot_at ok go sd11 hra
          obtain ⟨lt2, dg2⟩ := spot_at ok go sd11 hrb
          obtain ⟨p1, hp1⟩ : ∃ p1, p1 = spotOf (gl.map (·.2)) o.2.a := ⟨_, rfl⟩
          obtain ⟨p2, hp2⟩ : ∃ p2, p2 = spotOf (gl.map (·.2)) o.2.b := ⟨_, rfl⟩
          rw [← hp1] at lt1 dg1
          rw [← hp2] at lt2 dg2
          rw [List.length_map] at lt1 lt2
          refine ⟨_, rfl, a, _, dx, _, _, rfl, a11, c_Layout M, na_Layout_spot_at M, rfl, _, rfl, o.1.ra, _, _, _, _, rfl, r1, c_Road M, na_Road_start M, rfl, sd, _, rfl, dg1, ?_⟩
          refine ⟨_, rfl, a, _, dx, _, _, rfl, a11, c_Layout M, na_Layout_spot_at M, rfl, _, rfl, o.1.ra, _, _, _, _, rfl, r1, c_Road M, na_Road_goal M, rfl, sd, _, rfl, dg2, ?_⟩
          refine ⟨_, _, rfl, ?_⟩
          -- self.joins[name] = (start, goal)
          refine ⟨_, rfl, _, rfl, Nat.le_of_ble_eq_true rfl, fun p np => ?_⟩
          have sp := Same.new (o := .tup [.int (p1 : Nat), .int (p2 : Nat)]) np
          have hnj : o.2.name ∉ js.map (·.1) := by
            rw [jk]
            intro q
            obtain ⟨z, hz, e⟩ := List.mem_map.mp q
            have hz := (List.mem_filter.mp hz).1
            have nd : (ros.map fun o => o.2.name).Nodup := by
              have := ok.rd
              rw [List.map_map] at this
              exact this
            exact take_nin (f := fun o : RdO × BL.Rd => o.2.name) nd hoi (List.mem_map.mpr ⟨z, hz, e⟩)
          refine ⟨_, rfl, a, _, dx, _, _, rfl, sp _ _ a11, c_Layout M, na_Layout_joins M, rfl, _, rfl, jd, _, rfl, .k (k := .inr o.2.name) (sp _ _ j11) (by rw [kvOf_len, sl0]; omega), ?_⟩
          rw [put_new hnj]
          have k12 : ∀ b u, H b = some u → b ≠ a → b ≠ rdd → (L2.upd (L2.upd H11 p (.tup [.int (p1 : Nat), .int (p2 : Nat)])) jd (.dK (kvOf (js ++ [(o.2.name, .ref p)])))) b = some u := fun b u h m1 m2 => (upd_ne (ne_of_none h nj0)).trans (sp _ _ (k11 b u h m1 m2))
          have q12 : ∀ {b u}, H11 b = some u → u ≠ .dK (kvOf js) → (L2.upd (L2.upd H11 p (.tup [.int (p1 : Nat), .int (p2 : Nat)])) jd (.dK (kvOf (js ++ [(o.2.name, .ref p)])))) b = some u := fun h ne => (upd_ne (ne_of_ob (sp _ _ h) (sp _ _ j11) ne)).trans (sp _ _ h)
          have f12 := q12 f11 (by simp)
          have a12 := q12 a11 (by simp)
          have sd12 : (L2.upd (L2.upd H11 p (.tup [.int (p1 : Nat), .int (p2 : Nat)])) jd (.dK (kvOf (js ++ [(o.2.name, .ref p)])))) sd = _ := (upd_ne sj).trans (sp _ _ sd11)
          have d12 := q12 d11 (by simp)
          have ga12 : GlAt cs _ gl := fun x hx => q12 (ga11 x hx) (by simp)
          have g12 := q12 g11 (by simp)
          have jn12 : JnAt (L2.upd (L2.upd H11 p (.tup [.int (p1 : Nat), .int (p2 : Nat)])) jd (.dK (kvOf (js ++ [(o.2.name, .ref p)])))) (jl ++ [(p, (o.2.name, p1, p2))]) := by
            intro x hx
            rcases List.mem_append.mp hx with z | z
            · exact q12 (jn11 x z) (by simp)
            · rw [List.mem_singleton.mp z]
              exact (upd_ne (ne_of_ob (H := L2.upd H11 p (.tup [.int (p1 : Nat), .int (p2 : Nat)])) upd_same (sp _ _ j11) (by simp))).trans upd_same
          have j12 : (L2.upd (L2.upd H11 p (.tup [.int (p1 : Nat), .int (p2 : Nat)])) jd (.dK (kvOf (js ++ [(o.2.name, .ref p)])))) jd = some (.dK (kvOf (js ++ [(o.2.name, .ref p)]))) := upd_same
          generalize (L2.upd (L2.upd H11 p (.tup [.int (p1 : Nat), .int (p2 : Nat)])) jd (.dK (kvOf (js ++ [(o.2.name, .ref p)])))) = H12 at k12 f12 a12 sd12 d12 ga12 g12 j12 jn12
          clear jn11 q12 k11 f11 a11 sd11 d11 ga11 j11 g11 sp np r1 r2
          have at1 : (ds.map V.int)[p1]? = some (.int (ds.getD p1 0)) := by rw [List.getElem?_map, List.getD_eq_getElem?_getD, List.getElem?_eq_getElem (by omega)]; rfl
          have es1 : (ds.map V.int).set p1 (.int (ds.getD p1 0 + 1)) = (ds.set p1 (ds.getD p1 0 + 1)).map V.int := (List.map_set ..).symm
          refine ⟨_, rfl, a, _, dx, _, _, rfl, a12, c_Layout M, na_Layout_degrees M, rfl, _, rfl, dg, _, _, _, rfl, rfl, SqL.of g12, at_of (j := p1) rfl at1, _, _, rfl, rfl, dg, _, _, _, rfl, rfl, g12, ixN_nat (j := p1) (by rw [List.length_map]; omega), ?_⟩
          rw [es1]
          have a13 := (upd_ne (o := .lst ((ds.set p1 (ds.getD p1 0 + 1)).map V.int)) (ne_of_ob a12 g12 (by simp))).trans a12
          have g13 : (L2.upd H12 dg (.lst ((ds.set p1 (ds.getD p1 0 + 1)).map V.int))) dg = some (.lst ((ds.set p1 (ds.getD p1 0 + 1)).map V.int)) := upd_same
          have dl2 : (ds.set p1 (ds.getD p1 0 + 1)).length = gl.length := by rw [List.length_set]; exact dl
          have eds : addD ds p1 p2 = (ds.set p1 (ds.getD p1 0 + 1)).set p2 ((ds.set p1 (ds.getD p1 0 + 1)).getD p2 0 + 1) := rfl
          generalize ds.set p1 (ds.getD p1 0 + 1) = ds2 at a13 g13 dl2 eds
          have at2 : (ds2.map V.int)[p2]? = some (.int (ds2.getD p2 0)) := by rw [List.getElem?_map, List.getD_eq_getElem?_getD, List.getElem?_eq_getElem (by omega)]; rfl
          have es2 : (ds2.map V.int).set p2 (.int (ds2.getD p2 0 + 1)) = (ds2.set p2 (ds2.getD p2 0 + 1)).map V.int := (List.map_set ..).symm
          refine ⟨_, rfl, a, _, dx, _, _, rfl, a13, c_Layout M, na_Layout_degrees M, rfl, _, rfl, dg, _, _, _, rfl, rfl, SqL.of g13, at_of (j := p2) rfl at2, _, _, rfl, rfl, dg, _, _, _, rfl, rfl, g13, ixN_nat (j := p2) (by rw [List.length_map]; omega), ?_⟩
          rw [es2, upd_upd]
          have e3 : (jl ++ [(p, (o.2.name, p1, p2))]).map (fun x => (x.2.1, V.ref x.1)) = js ++ [(o.2.name, V.ref p)] := by rw [List.map_append, hjs]; rfl
          refine ⟨jl ++ [(p, (o.2.name, p1, p2))], _, _, _, _, rfl, fun b u h m1 m2 => (upd_ne (ne_of_none h ndg0)).trans (k12 b u h m1 m2), (upd_ne (ne_of_ob f12 g12 (by simp))).trans f12, (upd_ne (ne_of_ob a12 g12 (by simp))).trans a12, (upd_ne (ne_of_ob sd12 g12 (by simp))).trans sd12, (upd_ne nDd).trans d12, fun x hx => (upd_ne (ngd x hx)).trans (ga12 x hx), by rw [e3]; exact (upd_ne (ne_of_ob j12 g12 (by simp))).trans j12, fun x hx => (upd_ne (ne_of_ob (jn12 x hx) g12 (by simp))).trans (jn12 x hx), ?_, ?_⟩
          · rw [ejn, htw, List.map_append, if_pos rfl, ← hp1, ← hp2]
            rfl
          · rw [upd_same, edg]
            unfold addDeg
            rw [if_pos htw, ← hp1, ← hp2, eds]
      · rintro σ H10 ⟨jl, o6, o10, o11, o12, rfl, k10, f10, a10, sd10, d10, ga10, j10, jn10, ej, g10⟩
        rw [rkv_len, List.take_length] at ej g10
        refine ⟨f10, jl, o6, o7, o8, o9, o10, o11, o12, rfl, fun b u h n => ?_, (upd_ne kar).trans a10, (upd_ne Dr).trans d10, fun x hx => (upd_ne (ne_of_ob (ga10 x hx) f10 (by simp))).trans (ga10 x hx), (upd_ne sr).trans sd10, (upd_ne jr).trans j10, fun x hx => (upd_ne (ne_of_ob (jn10 x hx) f10 (by simp))).trans (jn10 x hx), ej, (upd_ne dr).trans g10⟩
        by_cases e : b = rdd
        · subst e
          rw [upd_same, ← h]
          exact hrd.symm
        · exact (upd_ne e).trans (k10 b u h n e)
    clear k9 a9 sd9 d9 ga9 j9 g9 hrd9
    rintro σ H10 ⟨jl, o6, o7, o8, o9, o10, o11, o12, rfl, k10, a10, d10, ga10, sd10, j10, jn10, ej10, g10⟩
    -- self.kinds
    have hk10 := k10 _ _ hk kad.symm
    refine ⟨_, rfl, a, _, dx, _, _, rfl, a10, c_Layout M, na_Layout_groups M, rfl, D, rfl, ⟨_, SqL.of d10⟩, fun kk nkk => ?_⟩
    refine lc_list (K := K) (a := D) (xs := gl.map fun x => V.ref x.1) (fun i H11 => H11 = L2.upd H10 kk (.lst ((gl.take i).map fun x => kindAt cs (x.2.headD 0)))) rfl ?_ ?_ ?_
    · rintro i H11 _ rfl
      exact SqL.of ((Same.new nkk) _ _ d10)
    · rintro i x H11 hx rfl
      obtain ⟨gg, hgg, rfl⟩ := at_map hx
      have hgm := List.mem_of_getElem? hgg
      have hil := (List.getElem?_eq_some_iff.mp hgg).1
      have gne := go.ne gg.2 (List.mem_map.mpr ⟨gg, hgm, rfl⟩)
      obtain ⟨y, r, er⟩ := List.exists_cons_of_ne_nil gne
      have hy : y < cs.length := go.lt gg.2 (List.mem_map.mpr ⟨gg, hgm, rfl⟩) y (by rw [er]; exact List.mem_cons_self)
      have sk := Same.new (o := .lst ((gl.take i).map fun x => kindAt cs (x.2.headD 0))) nkk
      have hga := sk _ _ (ga10 gg hgm)
      have at0 : (gg.2.map fun j => V.str (nameAt cs j))[0]? = some (.str (nameAt cs y)) := by rw [er]; rfl
      have hkv : kindAt cs (gg.2.headD 0) = (cs[y]'hy).2 := by rw [er]; show kindAt cs y = _; unfold kindAt; rw [List.getElem?_eq_getElem hy]; rfl
      have hv := val_at (cs := cs) (i := y) (v := (cs[y]'hy).2) ok.cd (by rw [List.getElem?_eq_getElem hy]; rfl)
      have dg : DGet (L2.upd H10 kk (.lst ((gl.take i).map fun x => kindAt cs (x.2.headD 0)))) kd (.str (nameAt cs y)) (some ((cs[y]'hy).2)) := by
        rw [← hv]
        exact DGet.k (k := .inr (nameAt cs y)) (sk _ _ hk10)
      refine ⟨rfl, _, rfl, _, rfl, gg.1, _, 0, _, rfl, rfl, SqL.of hga, at_of (j := 0) rfl at0, kd, _, rfl, dg, ?_⟩
      refine ⟨_, upd_same, by rw [List.length_map, List.length_take, sl0]; omega, ?_⟩
      rw [upd_upd, take_snoc hgg, List.map_append, ← hkv]
      rfl
    rintro H11 rfl
    rw [List.length_map, List.take_length]
    have sk := Same.new (o := .lst (gl.map fun x => kindAt cs (x.2.headD 0))) nkk
    have a11 := sk _ _ a10
    refine ⟨_, rfl, a, _, dx, _, rfl, a11, c_Layout M, na_Layout_kinds M, Nat.le_of_ble_eq_true rfl, ?_⟩
    have c12 : ∀ {b u u'}, H10 b = some u → u ≠ .ins (ga K "Layout") dx [("groups", .ref D), ("spot_at", .ref sd), ("joins", .ref jd), ("degrees", .ref dg)] → (L2.upd (L2.upd H10 kk (.lst (gl.map fun x => kindAt cs (x.2.headD 0)))) a u') b = some u := fun h n => (upd_ne (ne_of_ob h a10 n)).trans (sk _ _ h)
    refine k ⟨a, dx, D, sd, jd, dg, kk, gl, jl⟩ _ rfl rfl ?_ fun b u h n => (upd_ne n).trans (sk _ _ (k10 b u h n))
    have nka : kk ≠ a := (ne_of_none a10 nkk).symm
    have ekk : (gl.map fun x => kindAt cs (x.2.headD 0)) = (gsOf cs.length (ros.map (·.2))).map fun g => kindAt cs (g.headD 0) := by rw [← eg, List.map_map]; rfl
    rw [eg] at sd10 ej10 g10
    refine { hl := upd_same, hD := c12 d10 (by simp), hg := fun x hx => c12 (ga10 x hx) (by simp), eg := eg, ok := go, hs := c12 sd10 (by simp), hj := c12 j10 (by simp), ja := fun x hx => c12 (jn10 x hx) (by simp), ej := ej10, hdg := c12 g10 (by simp), hkk := ?_ }
    rw [← ekk]
    exact (upd_ne nka).trans upd_same
end K02
set_option maxRecDepth 100000
set_option maxHeartbeats 4000000
namespace K02
open PySem PySem.Spec PyProof.Rows L2 He BL SX
local macro_rules | `(tactic| walk_at "ar") => `(tactic| first
  | exact Or.inl ⟨by omega, by omega⟩
  | exact Or.inr ⟨by omega, by omega⟩
  | exact ⟨by omega, by omega⟩
  | exact ⟨by omega, by omega, by omega⟩
  | exact ⟨by decide, by decide, by decide⟩
  | exact Nat.le_of_ble_eq_true rfl
  | exact rfl
  | omega
  | decide
  | fail)
local macro_rules | `(tactic| walk_at "ne") => `(tactic| first
  | assumption
  | (apply Ne.symm; assumption)
  | (refine ne_of_none ?_ (by assumption); walk_at "hp")
  | (apply Ne.symm; refine ne_of_none ?_ (by assumption); walk_at "hp")
  | fail)
local macro_rules | `(tactic| walk_at "hp") => `(tactic| first
  | assumption
  | exact upd_same
  | (refine (upd_ne ?_).trans ?_; · walk_at "ne"; · walk_at "hp")
  | (refine BL.Kp.at (by assumption) ?_ ?_; · walk_at "hp"; · walk_at "ne")
  | (refine BL.Same.at (by assumption) ?_; walk_at "hp")
  | fail)
local macro_rules | `(tactic| walk_at "rd1") => `(tactic| first
  | refine ⟨_, rfl, ?_⟩
  | refine ⟨_, _, rfl, rfl, ?_⟩
  | refine Or.inl ⟨_, rfl, ?_⟩
  | (refine ⟨_, _, _, _, rfl, rfl, SqL.of (by walk_at "hp"), rfl, ?_⟩)
  | (refine ⟨_, _, _, _, rfl, rfl, (by walk_at "hp"), rfl, ?_⟩)
  | (refine And.intro (by walk_at "ar") ?_)
  | fail)
local macro_rules | `(tactic| walk_at "rd") => `(tactic| (walk_at "rd1"; repeat' walk_at "rd1"))

variable {P : Program} {w : World} {K : PySem.W.Frag} {mg : Str → Option Value} {base : Heap}
structure TownO where
  a : Addr
  dx : Addr
  kd : Addr
  rdd : Addr
  ld : Addr
  st : Addr
  on : Addr
  hl : Addr
  lay : LayO
/-- the town as it stands -/
structure TownAt (K : PySem.W.Frag) (H : Hp) (t : TownO) (cs : List (Str × V)) (rs : List BL.Rd) (ros : List (RdO × BL.Rd)) (la : List (Addr × Lane)) : Prop where
  ht : H t.a = some (.ins (ga K "Town") t.dx [("_text", .str (textT cs rs)), ("_kinds", .ref t.kd), ("_roads", .ref t.rdd), ("_lanes", .ref t.ld), ("_streets", .ref t.st), ("_oneways", .ref t.on), ("_heights", .ref t.hl), ("layout", .ref t.lay.a)])
  hk : H t.kd = some (.dK (kvOf cs))
  hr : H t.rdd = some (.dK (kvOf (rkv ros)))
  ho : ∀ o ∈ ros, RoadAt K H cs o
  er : ros.map (·.2) = rs
  hd : H t.ld = some (.dK (kvOf (la.map fun x => (x.2.key, .ref x.1))))
  hla : LanesAt H la
  el : la.map (·.2) = lanesD cs rs
  hs : H t.st = some (.lst ((rs.filter (·.two)).map fun r => .str r.name))
  hw : H t.on = some (.lst ((rs.filter (!·.two)).map fun r => .str r.name))
  hh : H t.hl = some (.lst (natV (heightsL cs)))
  lay : LayAt K H t.lay cs rs
theorem sc_Town___init__ : FnScope ["self", "text", "reader", "name"] ["self", "text"] (defScope s_Town___init__) := ⟨rfl, rfl, rfl, by decide +kernel, rfl, by decide +kernel, by decide +kernel⟩
abbrev sp_Town___init__ (K : PySem.W.Frag) : Sp := fun vs H Q E => ∃ (a dx : Addr) (cs : List (Str × V)) (rs : List BL.Rd) (z : Str) (ls : List Str) (m : Nat) (o : Out), vs = [.ref a, .str z] ∧ H a = some (.ins (ga K "Town") dx []) ∧ Rds cs rs z ls m o ∧
  (o = .town → ∀ (t : TownO) (ros : List (RdO × BL.Rd)) (la : List (Addr × Lane)) (H' : Hp), t.a = a → t.dx = dx → TownAt K H' t cs rs ros la → (∀ b o, H b = some o → b ≠ a → H' b = some o) → Q .non H') ∧
  (o ≠ .town → ∀ H' : Hp, (∀ b o, H b = some o → b ≠ a → H' b = some o) → outE K o H' E)
theorem makX_Town (M : Md K mg) : BL.MakX P w K mg base 6 "Town" (ga K "Town") (sp_Town___init__ K) := by
  refine makX_of (mk_Town M) (kg_Town M) (F_Town___init__ M) sc_Town___init__ (fun _ _ _ _ _ _ us hl => match us, hl with | [_, _], _ => rfl) (fun vs H Q E h => ?_) (fun cdv A outer s H vs Q E hr h => ?_)
  · obtain ⟨a, dx, cs, rs, z, ls, m, o, rfl, _⟩ := h
    rfl
  · obtain ⟨a, dx, cs, rs, z, ls, m, o, rfl, ha, rds, k, kb⟩ := h
    have okP := rds.ok
    have hu := hu_of hr
    refine ⟨_, (pss_cons (ps_set (i := 2) sc_Town___init__.nd rfl (Or.inr rfl) (BL.pe_mk0 (mak_TownReader M) hr (by decide) rfl))
  (pss_cons (ps_expr (BL.pe_mX (metX_TownReader_read_text M) hr (by decide) (takes_of rfl rfl rfl rfl) (pv 2) (pa_cons (pv 1) pa_nil)))
  (pss_cons (ps_fld (pv 0) (pv 1) rfl)
  (pss_cons (ps_fld (pv 0) (pe_fld (pv 2) rfl) rfl)
  (pss_cons (ps_fld (pv 0) (pe_fld (pv 2) rfl) rfl)
  (pss_cons (ps_fld (pv 0) (C8.pe_c (cal_town_lanes M) hr (by decide) rfl (pa_cons (pe_fld (pv 2) rfl) pa_nil)) rfl)
  (pss_cons (ps_lock (ps_fld (pv 0) (pe_lc (own := [("name", 3)]) (g := (gName 3)) (tt := (tB (tMeth (He.ga K "Road") "two_way" (sp_Road_two_way K) [] E0 (tDGet (tFld K (tVar 2) "roads") (tVar 3)) tNil))) (te := (tVar 3)) rfl sc_Town___init__.nd (pi_keys (pe_fld (pv 2) rfl)) (blkOk_by (N := ["self", "text", "reader", "name"]) (by kernel_rfl)) (fun _ _ _ _ _ => (pg_name (i := 3) sc_Town___init__.nd rfl (Or.inl rfl))) (fun _ _ _ _ _ => (pts_one (pt_val (C8.pe_mt0 (met_Road_two_way M) hr (by decide) (pe_dget hu (pe_fld (pv 2) rfl) (pv 3) (fun _ _ => rfl)))))) (fun _ _ _ _ _ => (pv 3))) rfl))
  (pss_cons (ps_lock (ps_fld (pv 0) (pe_lc (own := [("name", 3)]) (g := (gName 3)) (tt := (tNot (tB (tMeth (He.ga K "Road") "two_way" (sp_Road_two_way K) [] E0 (tDGet (tFld K (tVar 2) "roads") (tVar 3)) tNil)))) (te := (tVar 3)) rfl sc_Town___init__.nd (pi_keys (pe_fld (pv 2) rfl)) (blkOk_by (N := ["self", "text", "reader", "name"]) (by kernel_rfl)) (fun _ _ _ _ _ => (pg_name (i := 3) sc_Town___init__.nd rfl (Or.inl rfl))) (fun _ _ _ _ _ => (pts_one (pt_not (pt_val (C8.pe_mt0 (met_Road_two_way M) hr (by decide) (pe_dget hu (pe_fld (pv 2) rfl) (pv 3) (fun _ _ => rfl))))))) (fun _ _ _ _ _ => (pv 3))) rfl))
  (pss_cons (ps_fld (pv 0) (C8.pe_c (cal_town_heights M) hr (by decide) rfl (pa_cons (pe_fld (pv 2) rfl) pa_nil)) rfl)
  (pss_one (ps_fld (pv 0) (C8.pe_mk (mak_Layout M) hr (by decide) rfl (pa_cons (pe_fld (pv 2) rfl) (pa_cons (pe_fld (pv 2) rfl) pa_nil))) rfl))))))))))), ?_⟩
    have sl0 : sizeLine = 16777216 := rfl
    have rl49 : rs.length ≤ 49 := by
      have h1 := okP.st
      have h2 := okP.ow
      have h3 := len_two rs
      omega
    -- the reader
    intro rd rdx nrd nrdx hne
    refine ⟨rd, rdx, rfl, upd_same, fun kd rdd H1 nkd nrr R1 kb1 => ⟨rfl, ?_⟩⟩
    have nkd0 : H kd = none := upd_free (upd_free nkd)
    have nrr0 : H rdd = none := upd_free (upd_free nrr)
    have s1 : L2.Same H H1 := fun b o h => kb1 b o ((upd_ne (ne_of_none h nrd)).trans ((upd_ne (ne_of_none h nrdx)).trans h)) (ne_of_none h nrd)
    refine ⟨_, rfl, rd, rdx, _, rfl, R1.hi, rfl, _, rfl, rd, rdx, kd, rdd, cs, rs, z, ls, m, o, rfl, R1, rds, fun eo ros H2 er R2 k2 => ?_, fun eo H2 k2 => kb eo H2 fun b o h _ => k2 b o (s1 b o h) (ne_of_none h nrd) (ne_of_none h nkd0) (ne_of_none h nrr0)⟩
    obtain ⟨ez, h12, eu⟩ := rds.town eo
    subst ez
    have ok := okP.ev h12 eu
    have k := k eo
    clear rds kb eo eu
    have rl48 : rs.length ≤ 48 := by
      have h1 := okP.st
      have h3 := len_two rs
      omega
    have s2 : L2.Same H H2 := fun b o h => k2 b o (s1 b o h) (ne_of_none h nrd) (ne_of_none h nkd0) (ne_of_none h nrr0)
    have a2 := s2 _ _ ha
    have ar : a ≠ rdd := ne_of_none ha nrr0
    have ak : a ≠ kd := ne_of_none ha nkd0
    have ard : a ≠ rd := ne_of_none ha nrd
    have rdr : rd ≠ rdd := ne_of_ob R2.hi R2.hr (by simp)
    have roa : ∀ o ∈ ros, o.1.ra ≠ a ∧ o.1.rt ≠ a := fun o ho => ⟨ne_of_ob (R2.ho o ho).1 a2 (ne_ins (by simp)), ne_of_ob (R2.ho o ho).2 a2 (by simp)⟩
    have Ru : ∀ {H' : Hp} {u : HO}, RdrAt K H' rd rdx kd rdd cs ros true → RdrAt K (L2.upd H' a u) rd rdx kd rdd cs ros true := fun R => ⟨(upd_ne ard.symm).trans R.hi, (upd_ne ak.symm).trans R.hk, (upd_ne ar.symm).trans R.hr, fun o ho => ⟨(upd_ne (roa o ho).1).trans (R.ho o ho).1, (upd_ne (roa o ho).2).trans (R.ho o ho).2⟩, R.ne⟩
    have rol : ros.length = rs.length := by rw [← er, List.length_map]
    have rnd : ((rkv ros).map (·.1)).Nodup := by
      have : (rkv ros).map (·.1) = rs.map (·.name) := by unfold rkv; rw [List.map_map, ← er, List.map_map]; rfl
      rw [this]; exact ok.rd
    have rnd2 : (ros.map (·.2.name)).Nodup := by
      have : ros.map (·.2.name) = rs.map (·.name) := by rw [← er, List.map_map]; rfl
      rw [this]; exact ok.rd
    have kp2 : Kp a H H2 := Kp.of s2
    clear s1 s2 k2 kb1 R1
    -- _text, _kinds, _roads
    refine ⟨_, rfl, _, rfl, a, _, dx, _, rfl, a2, c_Town M, na_Town__text M, Nat.le_of_ble_eq_true rfl, ?_⟩
    have R3 := Ru (u := .ins (ga K "Town") dx (putF "_text" (.str (textT cs rs)) [])) R2
    refine ⟨_, rfl, rd, _, rdx, _, _, rfl, R3.hi, c_TownReader M, na_TownReader_kinds M, rfl, _, rfl, a, _, dx, _, rfl, upd_same, c_Town M, na_Town__kinds M, Nat.le_of_ble_eq_true rfl, ?_⟩
    have R4 := Ru (u := .ins (ga K "Town") dx (putF "_kinds" (.ref kd) (putF "_text" (.str (textT cs rs)) []))) R3
    refine ⟨_, rfl, rd, _, rdx, _, _, rfl, R4.hi, c_TownReader M, na_TownReader_roads M, rfl, _, rfl, a, _, dx, _, rfl, upd_same, c_Town M, na_Town__roads M, Nat.le_of_ble_eq_true rfl, ?_⟩
    have R5 := Ru (u := .ins (ga K "Town") dx (putF "_roads" (.ref rdd) (putF "_kinds" (.ref kd) (putF "_text" (.str (textT cs rs)) [])))) R4
    have a5 : (L2.upd (L2.upd (L2.upd H2 a (.ins (ga K "Town") dx (putF "_text" (.str (textT cs rs)) []))) a (.ins (ga K "Town") dx (putF "_kinds" (.ref kd) (putF "_text" (.str (textT cs rs)) [])))) a (.ins (ga K "Town") dx (putF "_roads" (.ref rdd) (putF "_kinds" (.ref kd) (putF "_text" (.str (textT cs rs)) []))))) a = some (.ins (ga K "Town") dx [("_text", .str (textT cs rs)), ("_kinds", .ref kd), ("_roads", .ref rdd)]) := upd_same
    have kp5 := ((kp2.trans (Kp.upd (o := .ins (ga K "Town") dx (putF "_text" (.str (textT cs rs)) [])))).trans (Kp.upd (o := .ins (ga K "Town") dx (putF "_kinds" (.ref kd) (putF "_text" (.str (textT cs rs)) []))))).trans (Kp.upd (o := .ins (ga K "Town") dx (putF "_roads" (.ref rdd) (putF "_kinds" (.ref kd) (putF "_text" (.str (textT cs rs)) [])))))
    generalize (L2.upd (L2.upd (L2.upd H2 a (.ins (ga K "Town") dx (putF "_text" (.str (textT cs rs)) []))) a (.ins (ga K "Town") dx (putF "_kinds" (.ref kd) (putF "_text" (.str (textT cs rs)) [])))) a (.ins (ga K "Town") dx (putF "_roads" (.ref rdd) (putF "_kinds" (.ref kd) (putF "_text" (.str (textT cs rs)) []))))) = H5 at R5 a5 kp5
    clear R2 R3 R4 a2 kp2
    -- _lanes
    refine ⟨_, rfl, rd, _, rdx, _, _, rfl, R5.hi, c_TownReader M, na_TownReader_roads M, rfl, rdd, cs, ros, rfl, R5.hr, R5.ho, by omega, rnd2, ?_, fun ld la H6 s6 el hd hla => ?_⟩
    · intro o ho
      have := (ok.rn o.2 (by rw [← er]; exact List.mem_map.mpr ⟨o, ho, rfl⟩)).len
      omega
    rw [er] at el
    have R6 := R5.kept s6
    have a6 := s6 _ _ a5
    have kp6 := kp5.trans (Kp.of s6)
    clear R5 a5 kp5 s6
    refine ⟨_, rfl, a, _, dx, _, rfl, a6, c_Town M, na_Town__lanes M, Nat.le_of_ble_eq_true rfl, ?_⟩
    have R7 := Ru (u := .ins (ga K "Town") dx (putF "_lanes" (.ref ld) [("_text", .str (textT cs rs)), ("_kinds", .ref kd), ("_roads", .ref rdd)])) R6
    have hd7 := (upd_ne (o := .ins (ga K "Town") dx (putF "_lanes" (.ref ld) [("_text", .str (textT cs rs)), ("_kinds", .ref kd), ("_roads", .ref rdd)])) (ne_of_ob hd a6 (by simp))).trans hd
    have hla7 : LanesAt (L2.upd H6 a (.ins (ga K "Town") dx (putF "_lanes" (.ref ld) [("_text", .str (textT cs rs)), ("_kinds", .ref kd), ("_roads", .ref rdd)]))) la := fun x hx => (upd_ne (ne_of_ob (hla x hx) a6 (by simp))).trans (hla x hx)
    have a7 : (L2.upd H6 a (.ins (ga K "Town") dx (putF "_lanes" (.ref ld) [("_text", .str (textT cs rs)), ("_kinds", .ref kd), ("_roads", .ref rdd)]))) a = some (.ins (ga K "Town") dx [("_text", .str (textT cs rs)), ("_kinds", .ref kd), ("_roads", .ref rdd), ("_lanes", .ref ld)]) := upd_same
    have kp7 := kp6.trans (Kp.upd (o := .ins (ga K "Town") dx (putF "_lanes" (.ref ld) [("_text", .str (textT cs rs)), ("_kinds", .ref kd), ("_roads", .ref rdd)])))
    generalize (L2.upd H6 a (.ins (ga K "Town") dx (putF "_lanes" (.ref ld) [("_text", .str (textT cs rs)), ("_kinds", .ref kd), ("_roads", .ref rdd)]))) = H7 at R7 hd7 hla7 a7 kp7
    clear R6 a6 kp6 hd hla
    -- self._streets
    refine ⟨rdd, _, R7.hr, True.intro, fun od => ?_⟩
    have Rf : ∀ {b u}, H7 b = some u → b ≠ rdd → (L2.upd H7 rdd (.frz od (.dK (kvOf (rkv ros))))) b = some u := fun h n => (upd_ne n).trans h
    refine ⟨_, rfl, rd, _, rdx, _, _, rfl, Rf R7.hi rdr, c_TownReader M, na_TownReader_roads M, rfl, rdd, od, rfl, .inl ⟨_, upd_same, fun D nD => ?_⟩⟩
    have Dr : D ≠ rdd := (ne_of_none (H := L2.upd H7 rdd (.frz od (.dK (kvOf (rkv ros))))) upd_same nD).symm
    have nD0 : H7 D = none := by rw [upd_ne Dr] at nD; exact nD
    have Da : D ≠ a := (ne_of_none a7 nD0).symm
    refine lc_it walk_keysN (fun i H3 => H3 = L2.upd (L2.upd H7 rdd (.frz od (.dK (kvOf (rkv ros))))) D (.lst (((ros.take i).filter (fun o => o.2.two)).map fun o => V.str o.2.name))) rfl ?_ ?_ ?_
    · rintro i H3 _ rfl
      exact (upd_ne Dr.symm).trans upd_same
    · rintro i x H3 H4 hi rfl ⟨rfl, c, hc, rfl⟩
      obtain ⟨o, ho, rfl⟩ := rkv_at hc
      have hom := List.mem_of_getElem? ho
      have hR := R7.ho o hom
      have g : ∀ {b u w}, H7 b = some u → b ≠ rdd → (L2.upd (L2.upd H7 rdd (.frz od (.dK (kvOf (rkv ros))))) D w) b = some u := fun h n => (upd_ne (ne_of_none (Rf h n) nD)).trans (Rf h n)
      have n1 : o.1.ra ≠ rdd := ne_of_ob hR.1 R7.hr (by simp)
      have n2 : o.1.rt ≠ rdd := ne_of_ob hR.2 R7.hr (by simp)
      have dg : DGet (L2.upd (L2.upd H7 rdd (.frz od (.dK (kvOf (rkv ros))))) D (.lst (((ros.take i).filter (fun o => o.2.two)).map fun o => V.str o.2.name))) rdd (.str o.2.name) (some (.ref o.1.ra)) := by
        have hv : valV (kvOf (rkv ros)) (.inr o.2.name) = some (.ref o.1.ra) := val_some (c := (o.2.name, V.ref o.1.ra)) (List.mem_map.mpr ⟨o, hom, rfl⟩) rnd
        rw [← hv]
        exact dget_frz (o := od) ((upd_ne Dr.symm).trans upd_same)
      refine ⟨rfl, _, rfl, rd, _, rdx, _, _, rfl, g R7.hi rdr, c_TownReader M, na_TownReader_roads M, rfl, _, rfl, rdd, _, rfl, dg, _, _, _, rfl, g hR.1 n1, rfl, _, o, rfl, ⟨g hR.1 n1, g hR.2 n2⟩, ⟨_, rfl, ?_⟩⟩
      cases htw : o.2.two with
      | true =>
        refine iteB (fun _ => ?_) (fun e => by cases e)
        refine ⟨_, rfl, _, upd_same, ?_, ?_⟩
        · rw [List.length_map, sl0]
          have := List.length_filter_le (fun o : RdO × BL.Rd => o.2.two) (ros.take i)
          rw [List.length_take] at this
          omega
        · rw [upd_upd, take_snoc ho, List.filter_append, List.map_append]
          simp [htw]
      | false =>
        refine iteB (fun e => by cases e) (fun _ => ?_)
        rw [take_snoc ho, List.filter_append]
        simp [htw]
    rintro H3 rfl
    rw [rkv_len, List.take_length]
    refine ⟨_, rfl, a, _, dx, _, rfl, (upd_ne Da.symm).trans ((upd_ne ar).trans a7), c_Town M, na_Town__streets M, Nat.le_of_ble_eq_true rfl, ?_⟩
    refine ⟨(upd_ne ar.symm).trans ((upd_ne Dr.symm).trans upd_same), ?_⟩
    rw [unlock2 R7.hr ar Dr]
    have s8 := Same.new (o := .lst ((ros.filter (fun o => o.2.two)).map fun o => V.str o.2.name)) nD0
    have e8 : (ros.filter (fun o => o.2.two)).map (fun o => V.str o.2.name) = (rs.filter (·.two)).map fun r => V.str r.name := by rw [← er, List.filter_map, List.map_map]; rfl
    have R8 := Ru (u := .ins (ga K "Town") dx (putF "_streets" (.ref D) [("_text", .str (textT cs rs)), ("_kinds", .ref kd), ("_roads", .ref rdd), ("_lanes", .ref ld)])) (R7.kept s8)
    have hd8 := (upd_ne (o := .ins (ga K "Town") dx (putF "_streets" (.ref D) [("_text", .str (textT cs rs)), ("_kinds", .ref kd), ("_roads", .ref rdd), ("_lanes", .ref ld)])) (ne_of_ob hd7 a7 (by simp))).trans (s8 _ _ hd7)
    have hla8 : LanesAt (L2.upd (L2.upd H7 D (.lst ((ros.filter (fun o => o.2.two)).map fun o => V.str o.2.name))) a (.ins (ga K "Town") dx (putF "_streets" (.ref D) [("_text", .str (textT cs rs)), ("_kinds", .ref kd), ("_roads", .ref rdd), ("_lanes", .ref ld)]))) la := fun x hx => (upd_ne (ne_of_ob (hla7 x hx) a7 (by simp))).trans (s8 _ _ (hla7 x hx))
    have a8 : (L2.upd (L2.upd H7 D (.lst ((ros.filter (fun o => o.2.two)).map fun o => V.str o.2.name))) a (.ins (ga K "Town") dx (putF "_streets" (.ref D) [("_text", .str (textT cs rs)), ("_kinds", .ref kd), ("_roads", .ref rdd), ("_lanes", .ref ld)]))) a = some (.ins (ga K "Town") dx [("_text", .str (textT cs rs)), ("_kinds", .ref kd), ("_roads", .ref rdd), ("_lanes", .ref ld), ("_streets", .ref D)]) := upd_same
    have kp8 := (kp7.trans (Kp.of s8)).trans (Kp.upd (o := .ins (ga K "Town") dx (putF "_streets" (.ref D) [("_text", .str (textT cs rs)), ("_kinds", .ref kd), ("_roads", .ref rdd), ("_lanes", .ref ld)])))
    have st8 : (L2.upd (L2.upd H7 D (.lst ((ros.filter (fun o => o.2.two)).map fun o => V.str o.2.name))) a (.ins (ga K "Town") dx (putF "_streets" (.ref D) [("_text", .str (textT cs rs)), ("_kinds", .ref kd), ("_roads", .ref rdd), ("_lanes", .ref ld)]))) D = some (.lst ((rs.filter (·.two)).map fun r => V.str r.name)) := by rw [upd_ne Da, upd_same, e8]
    generalize (L2.upd (L2.upd H7 D (.lst ((ros.filter (fun o => o.2.two)).map fun o => V.str o.2.name))) a (.ins (ga K "Town") dx (putF "_streets" (.ref D) [("_text", .str (textT cs rs)), ("_kinds", .ref kd), ("_roads", .ref rdd), ("_lanes", .ref ld)]))) = H8 at R8 hd8 hla8 a8 kp8 st8
    clear R7 hd7 hla7 a7 kp7 s8 e8 nD0 nD Dr Rf
    obtain ⟨sD, hsD⟩ : ∃ sD, sD = D := ⟨D, rfl⟩
    rw [← hsD] at a8 st8 Da
    clear hsD
    have a8 : H8 a = some (.ins (ga K "Town") dx [("_text", .str (textT cs rs)), ("_kinds", .ref kd), ("_roads", .ref rdd), ("_lanes", .ref ld), ("_streets", .ref sD)]) := a8
    -- self._oneways
    refine ⟨rdd, _, R8.hr, True.intro, fun od => ?_⟩
    have Rf : ∀ {b u}, H8 b = some u → b ≠ rdd → (L2.upd H8 rdd (.frz od (.dK (kvOf (rkv ros))))) b = some u := fun h n => (upd_ne n).trans h
    refine ⟨_, rfl, rd, _, rdx, _, _, rfl, Rf R8.hi rdr, c_TownReader M, na_TownReader_roads M, rfl, rdd, od, rfl, .inl ⟨_, upd_same, fun D nD => ?_⟩⟩
    have Dr : D ≠ rdd := (ne_of_none (H := L2.upd H8 rdd (.frz od (.dK (kvOf (rkv ros))))) upd_same nD).symm
    have nD0 : H8 D = none := by rw [upd_ne Dr] at nD; exact nD
    have Da' : D ≠ a := (ne_of_none a8 nD0).symm
    refine lc_it walk_keysN (fun i H3 => H3 = L2.upd (L2.upd H8 rdd (.frz od (.dK (kvOf (rkv ros))))) D (.lst (((ros.take i).filter (fun o => !o.2.two)).map fun o => V.str o.2.name))) rfl ?_ ?_ ?_
    · rintro i H3 _ rfl
      exact (upd_ne Dr.symm).trans upd_same
    · rintro i x H3 H4 hi rfl ⟨rfl, c, hc, rfl⟩
      obtain ⟨o, ho, rfl⟩ := rkv_at hc
      have hom := List.mem_of_getElem? ho
      have hR := R8.ho o hom
      have g : ∀ {b u w}, H8 b = some u → b ≠ rdd → (L2.upd (L2.upd H8 rdd (.frz od (.dK (kvOf (rkv ros))))) D w) b = some u := fun h n => (upd_ne (ne_of_none (Rf h n) nD)).trans (Rf h n)
      have n1 : o.1.ra ≠ rdd := ne_of_ob hR.1 R8.hr (by simp)
      have n2 : o.1.rt ≠ rdd := ne_of_ob hR.2 R8.hr (by simp)
      have dg : DGet (L2.upd (L2.upd H8 rdd (.frz od (.dK (kvOf (rkv ros))))) D (.lst (((ros.take i).filter (fun o => !o.2.two)).map fun o => V.str o.2.name))) rdd (.str o.2.name) (some (.ref o.1.ra)) := by
        have hv : valV (kvOf (rkv ros)) (.inr o.2.name) = some (.ref o.1.ra) := val_some (c := (o.2.name, V.ref o.1.ra)) (List.mem_map.mpr ⟨o, hom, rfl⟩) rnd
        rw [← hv]
        exact dget_frz (o := od) ((upd_ne Dr.symm).trans upd_same)
      refine ⟨rfl, _, rfl, rd, _, rdx, _, _, rfl, g R8.hi rdr, c_TownReader M, na_TownReader_roads M, rfl, _, rfl, rdd, _, rfl, dg, _, _, _, rfl, g hR.1 n1, rfl, _, o, rfl, ⟨g hR.1 n1, g hR.2 n2⟩, ⟨_, rfl, ?_⟩⟩
      cases htw : o.2.two with
      | false =>
        refine iteB (fun _ => ?_) (fun e => by cases e)
        refine ⟨_, rfl, _, upd_same, ?_, ?_⟩
        · rw [List.length_map, sl0]
          have := List.length_filter_le (fun o : RdO × BL.Rd => !o.2.two) (ros.take i)
          rw [List.length_take] at this
          omega
        · rw [upd_upd, take_snoc ho, List.filter_append, List.map_append]
          simp [htw]
      | true =>
        refine iteB (fun e => by cases e) (fun _ => ?_)
        rw [take_snoc ho, List.filter_append]
        simp [htw]
    rintro H3 rfl
    rw [rkv_len, List.take_length]
    refine ⟨_, rfl, a, _, dx, _, rfl, (upd_ne Da'.symm).trans ((upd_ne ar).trans a8), c_Town M, na_Town__oneways M, Nat.le_of_ble_eq_true rfl, ?_⟩
    refine ⟨(upd_ne ar.symm).trans ((upd_ne Dr.symm).trans upd_same), ?_⟩
    rw [unlock2 R8.hr ar Dr]
    have s9 := Same.new (o := .lst ((ros.filter (fun o => !o.2.two)).map fun o => V.str o.2.name)) nD0
    have e9 : (ros.filter (fun o => !o.2.two)).map (fun o => V.str o.2.name) = (rs.filter (!·.two)).map fun r => V.str r.name := by rw [← er, List.filter_map, List.map_map]; rfl
    have R9 := Ru (u := .ins (ga K "Town") dx (putF "_oneways" (.ref D) [("_text", .str (textT cs rs)), ("_kinds", .ref kd), ("_roads", .ref rdd), ("_lanes", .ref ld), ("_streets", .ref sD)])) (R8.kept s9)
    have c9 : ∀ {b u}, H8 b = some u → u ≠ .ins (ga K "Town") dx [("_text", .str (textT cs rs)), ("_kinds", .ref kd), ("_roads", .ref rdd), ("_lanes", .ref ld), ("_streets", .ref sD)] → (L2.upd (L2.upd H8 D (.lst ((ros.filter (fun o => !o.2.two)).map fun o => V.str o.2.name))) a (.ins (ga K "Town") dx (putF "_oneways" (.ref D) [("_text", .str (textT cs rs)), ("_kinds", .ref kd), ("_roads", .ref rdd), ("_lanes", .ref ld), ("_streets", .ref sD)]))) b = some u := fun h n => (upd_ne (ne_of_ob h a8 n)).trans (s9 _ _ h)
    have hd9 := c9 hd8 (by simp)
    have hla9 : LanesAt _ la := fun x hx => c9 (hla8 x hx) (by simp)
    have st9 := c9 st8 (by simp)
    have a9 : (L2.upd (L2.upd H8 D (.lst ((ros.filter (fun o => !o.2.two)).map fun o => V.str o.2.name))) a (.ins (ga K "Town") dx (putF "_oneways" (.ref D) [("_text", .str (textT cs rs)), ("_kinds", .ref kd), ("_roads", .ref rdd), ("_lanes", .ref ld), ("_streets", .ref sD)]))) a = some (.ins (ga K "Town") dx (putF "_oneways" (.ref D) [("_text", .str (textT cs rs)), ("_kinds", .ref kd), ("_roads", .ref rdd), ("_lanes", .ref ld), ("_streets", .ref sD)])) := upd_same
    have kp9 := (kp8.trans (Kp.of s9)).trans (Kp.upd (o := .ins (ga K "Town") dx (putF "_oneways" (.ref D) [("_text", .str (textT cs rs)), ("_kinds", .ref kd), ("_roads", .ref rdd), ("_lanes", .ref ld), ("_streets", .ref sD)])))
    have on9 : (L2.upd (L2.upd H8 D (.lst ((ros.filter (fun o => !o.2.two)).map fun o => V.str o.2.name))) a (.ins (ga K "Town") dx (putF "_oneways" (.ref D) [("_text", .str (textT cs rs)), ("_kinds", .ref kd), ("_roads", .ref rdd), ("_lanes", .ref ld), ("_streets", .ref sD)]))) D = some (.lst ((rs.filter (!·.two)).map fun r => V.str r.name)) := by rw [upd_ne Da', upd_same, e9]
    generalize (L2.upd (L2.upd H8 D (.lst ((ros.filter (fun o => !o.2.two)).map fun o => V.str o.2.name))) a (.ins (ga K "Town") dx (putF "_oneways" (.ref D) [("_text", .str (textT cs rs)), ("_kinds", .ref kd), ("_roads", .ref rdd), ("_lanes", .ref ld), ("_streets", .ref sD)]))) = H9 at R9 hd9 hla9 a9 kp9 st9 on9
    clear R8 hd8 hla8 a8 kp8 st8 s9 e9 nD0 nD Dr Rf c9
    obtain ⟨oD, hoD⟩ : ∃ oD, oD = D := ⟨D, rfl⟩
    rw [← hoD] at a9 on9
    have a9 : H9 a = some (.ins (ga K "Town") dx [("_text", .str (textT cs rs)), ("_kinds", .ref kd), ("_roads", .ref rdd), ("_lanes", .ref ld), ("_streets", .ref sD), ("_oneways", .ref oD)]) := a9
    clear hoD
    -- _heights
    refine ⟨_, rfl, rd, _, rdx, _, _, rfl, R9.hi, c_TownReader M, na_TownReader_kinds M, rfl, kd, cs, rfl, R9.hk, ok.ck, fun hD H10 s10 hh10 => ?_⟩
    have a10 := s10 _ _ a9
    refine ⟨_, rfl, a, _, dx, _, rfl, a10, c_Town M, na_Town__heights M, Nat.le_of_ble_eq_true rfl, ?_⟩
    have R11 := Ru (u := .ins (ga K "Town") dx (putF "_heights" (.ref hD) [("_text", .str (textT cs rs)), ("_kinds", .ref kd), ("_roads", .ref rdd), ("_lanes", .ref ld), ("_streets", .ref sD), ("_oneways", .ref oD)])) (R9.kept s10)
    have c11 : ∀ {b u}, H10 b = some u → u ≠ .ins (ga K "Town") dx [("_text", .str (textT cs rs)), ("_kinds", .ref kd), ("_roads", .ref rdd), ("_lanes", .ref ld), ("_streets", .ref sD), ("_oneways", .ref oD)] → (L2.upd H10 a (.ins (ga K "Town") dx (putF "_heights" (.ref hD) [("_text", .str (textT cs rs)), ("_kinds", .ref kd), ("_roads", .ref rdd), ("_lanes", .ref ld), ("_streets", .ref sD), ("_oneways", .ref oD)]))) b = some u := fun h n => (upd_ne (ne_of_ob h a10 n)).trans h
    have hd11 := c11 (s10 _ _ hd9) (by simp)
    have hla11 : LanesAt _ la := fun x hx => c11 (s10 _ _ (hla9 x hx)) (by simp)
    have st11 := c11 (s10 _ _ st9) (by simp)
    have on11 := c11 (s10 _ _ on9) (by simp)
    have hh11 := c11 hh10 (by simp)
    have a11 : (L2.upd H10 a (.ins (ga K "Town") dx (putF "_heights" (.ref hD) [("_text", .str (textT cs rs)), ("_kinds", .ref kd), ("_roads", .ref rdd), ("_lanes", .ref ld), ("_streets", .ref sD), ("_oneways", .ref oD)]))) a = some (.ins (ga K "Town") dx [("_text", .str (textT cs rs)), ("_kinds", .ref kd), ("_roads", .ref rdd), ("_lanes", .ref ld), ("_streets", .ref sD), ("_oneways", .ref oD), ("_heights", .ref hD)]) := upd_same
    have kp11 := (kp9.trans (Kp.of s10)).trans (Kp.upd (o := .ins (ga K "Town") dx (putF "_heights" (.ref hD) [("_text", .str (textT cs rs)), ("_kinds", .ref kd), ("_roads", .ref rdd), ("_lanes", .ref ld), ("_streets", .ref sD), ("_oneways", .ref oD)])))
    generalize (L2.upd H10 a (.ins (ga K "Town") dx (putF "_heights" (.ref hD) [("_text", .str (textT cs rs)), ("_kinds", .ref kd), ("_roads", .ref rdd), ("_lanes", .ref ld), ("_streets", .ref sD), ("_oneways", .ref oD)]))) = H11 at R11 hd11 hla11 a11 kp11 st11 on11 hh11
    clear R9 hd9 hla9 a9 kp9 st9 on9 hh10 s10 a10 c11
    -- layout
    refine ⟨_, rfl, rd, _, rdx, _, _, rfl, R11.hi, c_TownReader M, na_TownReader_kinds M, rfl, ?_⟩
    refine ⟨_, rfl, rd, _, rdx, _, _, rfl, R11.hi, c_TownReader M, na_TownReader_roads M, rfl, ?_⟩
    intro ly lyx nly nlyx hne2
    have sL := (Same.new (o := .own ly) nlyx)
    have nly2 : (L2.upd H11 lyx (.own ly)) ly = none := (upd_ne hne2.symm).trans nly
    have sL2 := sL.trans (Same.new (o := .ins (ga K "Layout") lyx []) nly2)
    have R12 := R11.kept sL2
    refine ⟨ly, lyx, kd, rdd, cs, ros, rfl, upd_same, R12.hk, R12.hr, R12.ho, by rw [er]; exact ok, fun lay H13 ela eldx lay13 k13 => ⟨rfl, ?_⟩⟩
    rw [er] at lay13
    subst ela
    have s13 : L2.Same H11 H13 := fun b o h => k13 b o (sL2 b o h) (ne_of_none h nly)
    have a13 := s13 _ _ a11
    refine ⟨_, rfl, a, _, dx, _, rfl, a13, c_Town M, na_Town_layout M, Nat.le_of_ble_eq_true rfl, ?_⟩
    have R14 := Ru (u := .ins (ga K "Town") dx (putF "layout" (.ref lay.a) [("_text", .str (textT cs rs)), ("_kinds", .ref kd), ("_roads", .ref rdd), ("_lanes", .ref ld), ("_streets", .ref sD), ("_oneways", .ref oD), ("_heights", .ref hD)])) (R11.kept s13)
    have c14 : ∀ {b u}, H13 b = some u → u ≠ .ins (ga K "Town") dx [("_text", .str (textT cs rs)), ("_kinds", .ref kd), ("_roads", .ref rdd), ("_lanes", .ref ld), ("_streets", .ref sD), ("_oneways", .ref oD), ("_heights", .ref hD)] → (L2.upd H13 a (.ins (ga K "Town") dx (putF "layout" (.ref lay.a) [("_text", .str (textT cs rs)), ("_kinds", .ref kd), ("_roads", .ref rdd), ("_lanes", .ref ld), ("_streets", .ref sD), ("_oneways", .ref oD), ("_heights", .ref hD)]))) b = some u := fun h n => (upd_ne (ne_of_ob h a13 n)).trans h
    exact k ⟨a, dx, kd, rdd, ld, sD, oD, hD, lay⟩ ros la _ rfl rfl
      { ht := upd_same, hk := R14.hk, hr := R14.hr, ho := R14.ho, er := er, hd := c14 (s13 _ _ hd11) (by simp), hla := fun x hx => c14 (s13 _ _ (hla11 x hx)) (by simp), el := el,
        hs := c14 (s13 _ _ st11) (by simp), hw := c14 (s13 _ _ on11) (by simp), hh := c14 (s13 _ _ hh11) (by simp),
        lay := ⟨c14 lay13.hl (ne_ins (by simp)), c14 lay13.hD (by simp), fun x hx => c14 (lay13.hg x hx) (by simp), lay13.eg, lay13.ok, c14 lay13.hs (by simp), c14 lay13.hj (by simp), fun x hx => c14 (lay13.ja x hx) (by simp), lay13.ej, c14 lay13.hdg (by simp), c14 lay13.hkk (by simp)⟩ }
      ((kp11.trans (Kp.of s13)).trans Kp.upd)
theorem TownAt.kept {H H1 : Hp} {t : TownO} {cs : List (Str × V)} {rs : List BL.Rd} {ros : List (RdO × BL.Rd)} {la : List (Addr × Lane)} (h : TownAt K H t cs rs ros la) (k : L2.Same H H1) : TownAt K H1 t cs rs ros la :=
  ⟨k _ _ h.ht, k _ _ h.hk, k _ _ h.hr, fun o ho => (h.ho o ho).kept k, h.er, k _ _ h.hd, fun x hx => k _ _ (h.hla x hx), h.el, k _ _ h.hs, k _ _ h.hw, k _ _ h.hh, h.lay.kept k⟩
end K02
set_option maxRecDepth 100000
set_option maxHeartbeats 1000000
namespace BL
open PySem PySem.Spec PyProof.Rows L2 SX He
theorem count_filter {α : Type} (l : List α) (p : α → Bool) (f : α → Nat) (k : Nat) : ((l.filter p).map f).count k = (l.filter fun x => p x && decide (f x = k)).length := by
  induction l with
  | nil => rfl
  | cons x r ih =>
    by_cases h1 : p x = true
    · by_cases h2 : f x = k
      · simp [h1, h2, List.count_cons]
        simpa using ih
      · simp [h1, h2, List.count_cons]
        simpa using ih
    · have h1 : p x = false := by simpa using h1
      simp [h1]
      simpa using ih
theorem uneven_len {cs : List (Str × V)} {rs : List Rd} (h : WorldP cs rs) {k : Nat} (hk : k < cs.length) :
    sur cs rs (nameAt cs k) = ((rs.filter fun r => (!r.two) && decide (r.a = k)).length : Int) - ((rs.filter fun r => (!r.two) && decide (r.b = k)).length : Int) := by
  have inj : ∀ {l : List Nat} {x : Nat}, (∀ y ∈ l, y < cs.length) → x < cs.length → (l.map (nameAt cs)).count (nameAt cs x) = l.count x := by
    intro l x hl hx
    induction l with
    | nil => rfl
    | cons y r ih =>
      rw [List.map_cons, List.count_cons, List.count_cons, ih fun z hz => hl z (List.mem_cons_of_mem _ hz)]
      by_cases q : y = x
      · subst q; simp
      · have : nameAt cs y ≠ nameAt cs x := fun q2 => q (names_neP h (hl y List.mem_cons_self) hx q2)
        simp [q, this]
  have la : ∀ y ∈ (rs.filter (!·.two)).map (·.a), y < cs.length := fun y hy => by
    obtain ⟨r, hr, rfl⟩ := List.mem_map.mp hy
    exact (h.re r (List.mem_filter.mp hr).1).1
  have lb : ∀ y ∈ (rs.filter (!·.two)).map (·.b), y < cs.length := fun y hy => by
    obtain ⟨r, hr, rfl⟩ := List.mem_map.mp hy
    exact (h.re r (List.mem_filter.mp hr).1).2.1
  have h1 := inj la hk
  have h2 := inj lb hk
  rw [count_filter] at h1 h2
  unfold sur outs ins
  omega
end BL
set_option maxRecDepth 100000
set_option maxHeartbeats 1000000
namespace BL
open PySem PySem.Spec PyProof.Rows L2 SX
theorem split_at {α : Type} : ∀ {l : List α} {k : Nat} {x : α}, l[k]? = some x → ∃ a b, l = a ++ x :: b ∧ a.length = k
  | [], k, x, h => by simp at h
  | y :: r, 0, x, h => ⟨[], r, by simp at h; rw [h]; rfl, rfl⟩
  | y :: r, k + 1, x, h => by
    obtain ⟨a, b, e, n⟩ := split_at (l := r) (k := k) (by simpa using h)
    exact ⟨y :: a, b, by rw [e]; rfl, by rw [List.length_cons, n]⟩
theorem set_split {α : Type} {a b : List α} {x y : α} : (a ++ x :: b).set a.length y = a ++ y :: b := by simp
/-- one road exchanged by one alike -/
theorem WorldOk.road {cs : List (Str × V)} {u v : List Rd} {r r' : Rd} (ok : WorldOk cs (u ++ r :: v)) (hn : r'.name = r.name) (ht : r'.two = r.two)
    (hab : (r'.a = r.a ∧ r'.b = r.b) ∨ (r.two = true ∧ r'.a = r.b ∧ r'.b = r.a)) (hm : 1 ≤ r'.f ∧ r'.f ≤ 60 ∧ 1 ≤ r'.k ∧ r'.k ≤ 60 ∧ r'.l ≤ 9 ∧ 1 ≤ r'.r ∧ r'.r ≤ 3) : WorldOk cs (u ++ r' :: v) := by
  have hr : r ∈ u ++ r :: v := by simp
  have old : ∀ q ∈ u ++ r' :: v, q = r' ∨ q ∈ u ++ r :: v := fun q hq => by
    simp only [List.mem_append, List.mem_cons] at hq ⊢
    rcases hq with q1 | q1 | q1
    · exact .inr (.inl q1)
    · exact .inl q1
    · exact .inr (.inr (.inr q1))
  have f2 : ((u ++ r' :: v).filter (·.two)).length = ((u ++ r :: v).filter (·.two)).length := by
    rw [List.filter_append, List.filter_append, List.filter_cons, List.filter_cons, ht]
    split <;> simp
  have f1 : ((u ++ r' :: v).filter (!·.two)).length = ((u ++ r :: v).filter (!·.two)).length := by
    rw [List.filter_append, List.filter_append, List.filter_cons, List.filter_cons, ht]
    split <;> simp
  refine ⟨ok.lo, ok.hi, ok.cn, ok.cd, ok.ck, ?_, ?_, ?_, ?_, by rw [f2]; exact ok.st, by rw [f1]; exact ok.ow, ?_, ?_, ?_⟩
  · intro q hq
    rcases old q hq with rfl | h
    · rw [hn]; exact ok.rn r hr
    · exact ok.rn q h
  · have : (u ++ r' :: v).map (·.name) = (u ++ r :: v).map (·.name) := by rw [List.map_append, List.map_append, List.map_cons, List.map_cons, hn]
    rw [this]; exact ok.rd
  · intro q hq
    rcases old q hq with rfl | h
    · obtain ⟨h1, h2, h3⟩ := ok.re r hr
      rcases hab with ⟨e1, e2⟩ | ⟨_, e1, e2⟩
      · rw [e1, e2]; exact ⟨h1, h2, h3⟩
      · rw [e1, e2]; exact ⟨h2, h1, fun e => h3 e.symm⟩
    · exact ok.re q h
  · intro q hq
    rcases old q hq with rfl | h
    · exact hm
    · exact ok.rm q h
  · intro q hq h2
    rcases old q hq with rfl | h
    · rcases hab with ⟨e1, e2⟩ | ⟨e0, _⟩
      · rw [e1, e2]; exact ok.pl r hr (by rw [← ht]; exact h2)
      · rw [ht, e0] at h2; cases h2
    · exact ok.pl q h h2
  · intro x hx
    obtain ⟨q, hq, e⟩ := ok.tch x hx
    simp only [List.mem_append, List.mem_cons] at hq
    rcases hq with q1 | rfl | q1
    · exact ⟨q, by simp [q1], e⟩
    · refine ⟨r', by simp, ?_⟩
      rcases hab with ⟨e1, e2⟩ | ⟨_, e1, e2⟩
      · rw [e1, e2]; exact e
      · rw [e1, e2]; exact e.symm
    · exact ⟨q, by simp [q1], e⟩
  · have hb := ok.bal
    rw [List.filter_append, List.filter_cons] at hb ⊢
    rw [ht]
    cases h2 : r.two with
    | true => rw [h2] at hb; simpa using hb
    | false =>
      rw [h2] at hb
      rcases hab with ⟨e1, e2⟩ | ⟨e0, _⟩
      · simpa [e1, e2] using hb
      · rw [e0] at h2; cases h2
/-- the roads in another order -/
theorem WorldOk.perm {cs : List (Str × V)} {rs rs' : List Rd} (ok : WorldOk cs rs) (p : rs.Perm rs') : WorldOk cs rs' := by
  have mem : ∀ q ∈ rs', q ∈ rs := fun q h => p.mem_iff.mpr h
  refine ⟨ok.lo, ok.hi, ok.cn, ok.cd, ok.ck, fun q h => ok.rn q (mem q h), (p.map _).nodup_iff.mp ok.rd, fun q h => ok.re q (mem q h), fun q h => ok.rm q (mem q h),
    by rw [← (p.filter _).length_eq]; exact ok.st, by rw [← (p.filter _).length_eq]; exact ok.ow, fun q h => ok.pl q (mem q h), fun x hx => ?_, ?_⟩
  · obtain ⟨q, h, e⟩ := ok.tch x hx
    exact ⟨q, p.mem_iff.mp h, e⟩
  · exact (((p.filter _).map _).symm.trans ok.bal).trans ((p.filter _).map _)
/-- a crossing's kind changed where no one-way street is -/
theorem WorldOk.kind {cs : List (Str × V)} {rs : List Rd} {i : Nat} {c : Str × V} {v : V} (ok : WorldOk cs rs) (hc : cs[i]? = some c) (hv : KindV v) (h : ∀ r ∈ rs, r.two = false → r.a ≠ i ∧ r.b ≠ i) : WorldOk (cs.set i (c.1, v)) rs := by
  obtain ⟨u, w, rfl, rfl⟩ := split_at hc
  rw [set_split]
  have nm : (u ++ (c.1, v) :: w).map (·.1) = (u ++ c :: w).map (·.1) := by simp
  have ln : (u ++ (c.1, v) :: w).length = (u ++ c :: w).length := by simp
  have old : ∀ q ∈ u ++ (c.1, v) :: w, q = (c.1, v) ∨ q ∈ u ++ c :: w := fun q hq => by
    simp only [List.mem_append, List.mem_cons] at hq ⊢
    rcases hq with q1 | q1 | q1
    · exact .inr (.inl q1)
    · exact .inl q1
    · exact .inr (.inr (.inr q1))
  have atq : ∀ x, x ≠ u.length → (u ++ (c.1, v) :: w)[x]? = (u ++ c :: w)[x]? := fun x hx => by
    rw [List.getElem?_append, List.getElem?_append]
    split
    · rfl
    · rw [List.getElem?_cons, List.getElem?_cons]
      rw [if_neg (by omega), if_neg (by omega)]
  refine ⟨by rw [ln]; exact ok.lo, by rw [ln]; exact ok.hi, fun q hq => ?_, by rw [nm]; exact ok.cd, fun q hq => ?_, ok.rn, ok.rd, fun q hq => by rw [ln]; exact ok.re q hq, ok.rm, ok.st, ok.ow, fun q hq h2 => ?_, fun x hx => ok.tch x (by rwa [ln] at hx), ok.bal⟩
  · rcases old q hq with rfl | h'
    · exact ok.cn c (by simp)
    · exact ok.cn q h'
  · rcases old q hq with rfl | h'
    · exact hv
    · exact ok.ck q h'
  · obtain ⟨n1, n2⟩ := h q hq h2
    rw [atq _ n1, atq _ n2]
    exact ok.pl q hq h2
/-- two crossings exchanged -/
def swN (i j x : Nat) : Nat := if x = i then j else if x = j then i else x
theorem swN_inv (i j x : Nat) : swN i j (swN i j x) = x := by unfold swN; split <;> split <;> (try split) <;> omega
theorem swN_lt {i j x n : Nat} (hi : i < n) (hj : j < n) (h : x < n) : swN i j x < n := by
  unfold swN
  by_cases h1 : x = i
  · rw [if_pos h1]; exact hj
  · rw [if_neg h1]
    by_cases h2 : x = j
    · rw [if_pos h2]; exact hi
    · rw [if_neg h2]; exact h
theorem swN_inj {i j x y : Nat} (h : swN i j x = swN i j y) : x = y := by rw [← swN_inv i j x, h, swN_inv]
def swL {α : Type} (l : List α) (i j : Nat) (x y : α) : List α := (l.set i y).set j x
theorem swL_perm {α : Type} {l : List α} {i j : Nat} {x y : α} (hx : l[i]? = some x) (hy : l[j]? = some y) : (swL l i j x y).Perm l := by
  obtain ⟨h1, e1⟩ := List.getElem?_eq_some_iff.mp hx
  obtain ⟨h2, e2⟩ := List.getElem?_eq_some_iff.mp hy
  subst e1 e2
  exact List.set_set_perm h1 h2
theorem swL_at {α : Type} {l : List α} {i j : Nat} {x y : α} (hx : l[i]? = some x) (hy : l[j]? = some y) (k : Nat) : (swL l i j x y)[swN i j k]? = l[k]? := by
  obtain ⟨h1, e1⟩ := List.getElem?_eq_some_iff.mp hx
  obtain ⟨h2, e2⟩ := List.getElem?_eq_some_iff.mp hy
  unfold swL swN
  by_cases k1 : k = i
  · rw [if_pos k1, List.getElem?_set_self (by rw [List.length_set]; exact h2), k1, hx]
  · rw [if_neg k1]
    by_cases k2 : k = j
    · rw [if_pos k2]
      by_cases ij : j = i
      · omega
      · rw [List.getElem?_set_ne ij, List.getElem?_set_self h1, k2, hy]
    · rw [if_neg k2, List.getElem?_set_ne (fun e => k2 e.symm), List.getElem?_set_ne (fun e => k1 e.symm)]
def Rd.sw (i j : Nat) (r : Rd) : Rd := { r with a := swN i j r.a, b := swN i j r.b }
theorem WorldOk.cross {cs : List (Str × V)} {rs : List Rd} {i j : Nat} {x y : Str × V} (ok : WorldOk cs rs) (hx : cs[i]? = some x) (hy : cs[j]? = some y) : WorldOk (swL cs i j x y) (rs.map (Rd.sw i j)) := by
  have p := swL_perm hx hy
  have hi := (List.getElem?_eq_some_iff.mp hx).1
  have hj := (List.getElem?_eq_some_iff.mp hy).1
  have ln := p.length_eq
  have mem : ∀ q ∈ swL cs i j x y, q ∈ cs := fun q h => p.mem_iff.mp h
  have fl : ∀ (f : Bool → Bool), (rs.map (Rd.sw i j)).filter (fun r => f r.two) = (rs.filter fun r => f r.two).map (Rd.sw i j) := fun f => by
    rw [List.filter_map]; rfl
  refine ⟨by rw [ln]; exact ok.lo, by rw [ln]; exact ok.hi, fun q h => ok.cn q (mem q h), (p.map _).nodup_iff.mpr ok.cd, fun q h => ok.ck q (mem q h), ?_, ?_, ?_, ?_, ?_, ?_, ?_, ?_, ?_⟩
  · intro q hq
    obtain ⟨r, hr, rfl⟩ := List.mem_map.mp hq
    exact ok.rn r hr
  · rw [List.map_map]
    exact ok.rd
  · intro q hq
    obtain ⟨r, hr, rfl⟩ := List.mem_map.mp hq
    obtain ⟨h1, h2, h3⟩ := ok.re r hr
    rw [ln]
    exact ⟨swN_lt hi hj h1, swN_lt hi hj h2, fun e => h3 (swN_inj e)⟩
  · intro q hq
    obtain ⟨r, hr, rfl⟩ := List.mem_map.mp hq
    exact ok.rm r hr
  · rw [show (rs.map (Rd.sw i j)).filter (·.two) = (rs.filter (·.two)).map (Rd.sw i j) from fl (fun b => b), List.length_map]; exact ok.st
  · rw [show (rs.map (Rd.sw i j)).filter (!·.two) = (rs.filter (!·.two)).map (Rd.sw i j) from fl (fun b => !b), List.length_map]; exact ok.ow
  · intro q hq h2
    obtain ⟨r, hr, rfl⟩ := List.mem_map.mp hq
    obtain ⟨p1, p2⟩ := ok.pl r hr h2
    show ((swL cs i j x y)[swN i j r.a]?).map (·.2) = _ ∧ ((swL cs i j x y)[swN i j r.b]?).map (·.2) = _
    rw [swL_at hx hy, swL_at hx hy]
    exact ⟨p1, p2⟩
  · intro z hz
    rw [ln] at hz
    obtain ⟨r, hr, e⟩ := ok.tch (swN i j z) (swN_lt hi hj hz)
    refine ⟨r.sw i j, List.mem_map.mpr ⟨r, hr, rfl⟩, ?_⟩
    show swN i j r.a = z ∨ swN i j r.b = z
    rcases e with e | e
    · left; rw [e, swN_inv]
    · right; rw [e, swN_inv]
  · rw [show (rs.map (Rd.sw i j)).filter (!·.two) = (rs.filter (!·.two)).map (Rd.sw i j) from fl (fun b => !b), List.map_map, List.map_map]
    have := ok.bal.map (swN i j)
    rw [List.map_map, List.map_map] at this
    exact this
end BL
set_option maxRecDepth 100000
set_option maxHeartbeats 2000000
namespace K02
open PySem PySem.Spec PyProof.Rows L2 He BL SX
local macro_rules | `(tactic| walk_at "ar") => `(tactic| first
  | exact Or.inl ⟨by omega, by omega⟩
  | exact Or.inr ⟨by omega, by omega⟩
  | exact ⟨by omega, by omega⟩
  | exact ⟨by omega, by omega, by omega⟩
  | exact ⟨by decide, by decide, by decide⟩
  | exact Nat.le_of_ble_eq_true rfl
  | exact rfl
  | omega
  | decide
  | fail)
local macro_rules | `(tactic| walk_at "ne") => `(tactic| first
  | assumption
  | (apply Ne.symm; assumption)
  | (refine ne_of_none ?_ (by assumption); walk_at "hp")
  | (apply Ne.symm; refine ne_of_none ?_ (by assumption); walk_at "hp")
  | fail)
local macro_rules | `(tactic| walk_at "hp") => `(tactic| first
  | assumption
  | exact upd_same
  | (refine (upd_ne ?_).trans ?_; · walk_at "ne"; · walk_at "hp")
  | (refine BL.Kp.at (by assumption) ?_ ?_; · walk_at "hp"; · walk_at "ne")
  | (refine BL.Same.at (by assumption) ?_; walk_at "hp")
  | fail)
local macro_rules | `(tactic| walk_at "rd1") => `(tactic| first
  | refine ⟨_, rfl, ?_⟩
  | refine ⟨_, _, rfl, rfl, ?_⟩
  | refine Or.inl ⟨_, rfl, ?_⟩
  | (refine ⟨_, _, _, _, rfl, rfl, SqL.of (by walk_at "hp"), rfl, ?_⟩)
  | (refine ⟨_, _, _, _, rfl, rfl, (by walk_at "hp"), rfl, ?_⟩)
  | (refine And.intro (by walk_at "ar") ?_)
  | fail)
local macro_rules | `(tactic| walk_at "rd") => `(tactic| (walk_at "rd1"; repeat' walk_at "rd1"))

variable {P : Program} {w : World} {K : PySem.W.Frag} {mg : Str → Option Value} {base : Heap}
def unevV (o : Option Str) : V := match o with | none => .non | some z => .str z
theorem sc__law_first_uneven : FnScope ["w", "k", "out", "back", "r"] ["w"] (defScope s__law_first_uneven) := ⟨rfl, rfl, rfl, by decide +kernel, rfl, by decide +kernel, by decide +kernel⟩
abbrev sp__law_first_uneven (K : PySem.W.Frag) : Sp := fun vs H Q _ => ∃ (wA pc pr : Addr) (cs : List (Addr × Str × V)) (rs : List (Addr × BL.Rd)), vs = [.ref wA] ∧ WAt H wA pc pr cs rs ∧ WorldP (cs.map fun x : Addr × Str × V => x.2) (rs.map fun x : Addr × BL.Rd => x.2) ∧
  ∀ H', L2.Same H H' → Q (unevV (unev (cs.map fun x : Addr × Str × V => x.2) (rs.map fun x : Addr × BL.Rd => x.2))) H'
theorem cal__law_first_uneven (M : Md K mg) : C8.Cal P w K mg base 1 "_law_first_uneven" (sp__law_first_uneven K) [] := by
  refine cal_of (F__law_first_uneven M) (g__law_first_uneven M) sc__law_first_uneven (fun _ _ _ _ _ _ us hl => match us, hl with | [_], _ => rfl) (fun vs H Q E h => ?_) (fun cdv A outer s H vs Q E hr h => ?_)
  · obtain ⟨wA, pc, pr, cs, rs, rfl, _⟩ := h
    rfl
  · obtain ⟨wA, pc, pr, cs, rs, rfl, W, ok, k⟩ := h
    have hu := hu_of hr
    refine ⟨_, (pss_cons (ps_for PassesOwn.never rfl (pi_range1 rfl (b_range M) (pa_cons (pe_callB call_len_seq (by rfl) (b_len M) PySem.boot_len (pa_cons (pe_ix ix_list (pv 0) pe_int (fun _ _ => rfl)) pa_nil)) pa_nil)) (pg_name (i := 1) sc__law_first_uneven.nd rfl (Or.inr rfl)) (pss_cons (ps_setLc (i := 2) (own := [("r", 4)]) (g := (gName 4)) (tt := (tAnd (tTest (tOp rEq (tOp (rIxT K) (tVar 4) (tC (.int 7))) (tC (.int 0)))) (tTest (tOp rEq (tOp (rIxT K) (tVar 4) (tC (.int 1))) (tVar 1))))) (te := (tVar 4)) rfl sc__law_first_uneven.nd rfl rfl (sw_true rfl rfl rfl (by decide +kernel)) (pi_list (pe_ix ix_list (pv 0) pe_int (fun _ _ => rfl))) (blkOk_by (N := ["w", "k", "out", "back", "r"]) (by kernel_rfl)) (fun _ _ _ _ _ => (pg_name (i := 4) sc__law_first_uneven.nd rfl (Or.inl rfl))) (fun _ _ _ _ _ => (pts_one (PW.pt (pw_and (pt_cmpR op_eq (pe_ix ix_tup (pv 4) pe_int (fun _ _ => rfl)) pe_int (nomark _)) (pw_and1 (pt_cmpR op_eq (pe_ix ix_tup (pv 4) pe_int (fun _ _ => rfl)) (pv 1) (nomark _))))))) (fun _ _ _ _ _ => (pv 4)))
  (pss_cons (ps_setLc (i := 3) (own := [("r", 4)]) (g := (gName 4)) (tt := (tAnd (tTest (tOp rEq (tOp (rIxT K) (tVar 4) (tC (.int 7))) (tC (.int 0)))) (tTest (tOp rEq (tOp (rIxT K) (tVar 4) (tC (.int 2))) (tVar 1))))) (te := (tVar 4)) rfl sc__law_first_uneven.nd rfl rfl (sw_true rfl rfl rfl (by decide +kernel)) (pi_list (pe_ix ix_list (pv 0) pe_int (fun _ _ => rfl))) (blkOk_by (N := ["w", "k", "out", "back", "r"]) (by kernel_rfl)) (fun _ _ _ _ _ => (pg_name (i := 4) sc__law_first_uneven.nd rfl (Or.inl rfl))) (fun _ _ _ _ _ => (pts_one (PW.pt (pw_and (pt_cmpR op_eq (pe_ix ix_tup (pv 4) pe_int (fun _ _ => rfl)) pe_int (nomark _)) (pw_and1 (pt_cmpR op_eq (pe_ix ix_tup (pv 4) pe_int (fun _ _ => rfl)) (pv 1) (nomark _))))))) (fun _ _ _ _ _ => (pv 4)))
  (pss_one (ps_if (pt_cmpR op_ne (pe_callB call_len_seq (by rfl) (b_len M) PySem.boot_len (pa_cons (pv 2) pa_nil)) (pe_callB call_len_seq (by rfl) (b_len M) PySem.boot_len (pa_cons (pv 3) pa_nil)) (nomark _)) (pss_one (ps_ret (pe_ix ix_tup (pe_ix ix_list (pe_ix ix_list (pv 0) pe_int (fun _ _ => rfl)) (pv 1) (fun _ _ => rfl)) pe_int (fun _ _ => rfl)))) pss_nil)))))
  (pss_one (ps_ret pe_non))), ?_⟩
    have sl0 : sizeLine = 16777216 := rfl
    have csl : cs.length ≤ 24 := by have := ok.hi; rwa [List.length_map] at this
    have rsl : rs.length ≤ 49 := by
      have h1 := ok.st
      have h2 := ok.ow
      have h3 := len_two (rs.map fun x : Addr × BL.Rd => x.2)
      rw [List.length_map] at h3
      omega
    have body : ∀ (f : BL.Rd → Nat) (i : Nat), ((rs.filter fun x => (!x.2.two) && decide (f x.2 = i)).length) = (((rs.map fun x : Addr × BL.Rd => x.2).filter fun r => (!r.two) && decide (f r = i)).length) := fun f i => by
      rw [List.filter_map, List.length_map]; rfl
    refine ⟨_, rfl, wA, _, 0, _, rfl, rfl, SqL.of (W.hw), at_of (j := 0) rfl rfl, pc, _, rfl, .inl (SqL.of W.hc), ?_⟩
    rw [List.length_map]
    refine ⟨_, rfl, by omega, by omega, for_range (n := cs.length) (fun i σ H1 => ∃ o1 o2 o3 : Option V, σ = [some (.ref wA), o1, o2, o3, none] ∧ L2.Same H H1 ∧ ∀ c ∈ (cs.map fun x : Addr × Str × V => x.2).take i, sur (cs.map fun x : Addr × Str × V => x.2) (rs.map fun x : Addr × BL.Rd => x.2) c.1 = 0) ⟨_, _, _, rfl, fun _ _ h => h, nofun⟩ ?_ ?_⟩
    · rintro i σ H1 hi ⟨o1, o2, o3, rfl, s1, hz⟩
      refine ⟨_, rfl, wA, _, 1, _, rfl, rfl, SqL.of (s1 _ _ W.hw), at_of (j := 1) rfl rfl, pr, rfl, ⟨_, SqL.of (s1 _ _ W.hr)⟩, fun D nD => lc_selL rs (fun x => .ref x.1) (fun x => (!x.2.two) && decide (x.2.a = i)) (fun x => .ref x.1) rfl (by omega) nD (SqL.of (s1 _ _ W.hr)) (fun x G hx s T' N' hT hN => ?_) fun H2 hD2 s2 => ?_⟩
      · have ht := s _ _ (s1 _ _ (W.ra x hx))
        refine ⟨rfl, _, rfl, x.1, _, 7, .int (if x.2.two = true then 1 else 0), rfl, rfl, .of (ht), at_of (j := 7) rfl rfl, rfl, _, rfl, ?_⟩
        cases h2 : x.2.two with
        | true => exact iteI (fun e => absurd e (by simp)) (fun _ => iteB (fun e => by cases e) (fun _ => hN (by rw [h2]; rfl) _ (Same.refl _)))
        | false =>
          refine iteI (fun _ => ?_) (fun e => absurd (by simp) e)
          refine ⟨_, rfl, x.1, _, 1, .int (x.2.a : Nat), rfl, rfl, .of (ht), at_of (j := 1) rfl rfl, _, rfl, rfl, _, rfl, iteI (fun e => ?_) (fun e => ?_)⟩
          · refine ⟨_, rfl, hT ?_ _ (Same.refl _)⟩
            rw [h2, decide_eq_true (by omega : x.2.a = i)]; rfl
          · refine hN ?_ _ (Same.refl _)
            rw [h2, decide_eq_false (by omega : ¬ x.2.a = i)]; rfl
      refine gnmI ?_
      refine ⟨_, rfl, wA, _, 1, _, rfl, rfl, SqL.of (s2 _ _ (s1 _ _ W.hw)), at_of (j := 1) rfl rfl, pr, rfl, ⟨_, SqL.of (s2 _ _ (s1 _ _ W.hr))⟩, fun D2 nD2 => lc_selL rs (fun x => .ref x.1) (fun x => (!x.2.two) && decide (x.2.b = i)) (fun x => .ref x.1) rfl (by omega) nD2 (SqL.of (s2 _ _ (s1 _ _ W.hr))) (fun x G hx s T' N' hT hN => ?_) fun H3 hD3 s3 => ?_⟩
      · have ht := s _ _ (s2 _ _ (s1 _ _ (W.ra x hx)))
        refine ⟨rfl, _, rfl, x.1, _, 7, .int (if x.2.two = true then 1 else 0), rfl, rfl, .of (ht), at_of (j := 7) rfl rfl, rfl, _, rfl, ?_⟩
        cases h2 : x.2.two with
        | true => exact iteI (fun e => absurd e (by simp)) (fun _ => iteB (fun e => by cases e) (fun _ => hN (by rw [h2]; rfl) _ (Same.refl _)))
        | false =>
          refine iteI (fun _ => ?_) (fun e => absurd (by simp) e)
          refine ⟨_, rfl, x.1, _, 2, .int (x.2.b : Nat), rfl, rfl, .of (ht), at_of (j := 2) rfl rfl, _, rfl, rfl, _, rfl, iteI (fun e => ?_) (fun e => ?_)⟩
          · refine ⟨_, rfl, hT ?_ _ (Same.refl _)⟩
            rw [h2, decide_eq_true (by omega : x.2.b = i)]; rfl
          · refine hN ?_ _ (Same.refl _)
            rw [h2, decide_eq_false (by omega : ¬ x.2.b = i)]; rfl
      refine gnmI ?_
      refine ⟨_, rfl, D, _, rfl, .inl (SqL.of (s3 _ _ hD2)), ?_⟩
      refine ⟨_, rfl, D2, _, rfl, .inl (SqL.of hD3), ?_⟩
      rw [List.length_map, List.length_map]
      have s13 := (s1.trans s2).trans s3
      obtain ⟨c, hci⟩ : ∃ c, cs[i]? = some c := ⟨_, List.getElem?_eq_getElem hi⟩
      have hci2 : (cs.map fun x : Addr × Str × V => x.2)[i]? = some c.2 := by rw [List.getElem?_map, hci]; rfl
      have el := uneven_len ok (k := i) (by rw [List.length_map]; exact hi)
      have en : BL.nameAt (cs.map fun x : Addr × Str × V => x.2) i = c.2.1 := by unfold BL.nameAt; rw [hci2]; rfl
      rw [en, ← body (·.a) i, ← body (·.b) i] at el
      refine ⟨rfl, _, rfl, iteIN (fun e => ?_) (fun e => ?_)⟩
      · have hcr : (cs.map fun x : Addr × Str × V => V.ref x.1)[i]? = some (.ref c.1) := by rw [List.getElem?_map, hci]; rfl
        have un := unev_at (rs := rs.map fun x : Addr × BL.Rd => x.2) hci2 (by rw [el]; omega) hz
        rw [un] at k
        exact ⟨_, rfl, wA, _, 0, _, rfl, rfl, SqL.of (s13 _ _ W.hw), at_of (j := 0) rfl rfl, _, rfl, pc, _, _, .ref c.1, rfl, rfl, SqL.of (s13 _ _ W.hc), at_of (j := i) (by omega) hcr, c.1, _, 0, .str c.2.1, rfl, rfl, .of (s13 _ _ (W.ca c (List.mem_of_getElem? hci))), at_of (j := 0) rfl rfl, k _ s13⟩
      · refine ⟨_, _, _, rfl, s13, fun d hd => ?_⟩
        rw [take_snoc hci2] at hd
        rcases List.mem_append.mp hd with hd | hd
        · exact hz d hd
        · rw [List.mem_singleton.mp hd, el]; omega
    rintro σ H1 ⟨o1, o2, o3, rfl, s1, hz⟩
    rw [List.take_of_length_le (by rw [List.length_map]; exact Nat.le_refl _)] at hz
    have un : unev (cs.map fun x : Addr × Str × V => x.2) (rs.map fun x : Addr × BL.Rd => x.2) = none := by
      unfold unev
      rw [List.find?_eq_none.mpr fun d hd => by rw [hz d hd]; simp]
      rfl
    rw [un] at k
    exact k _ s1
end K02
set_option maxRecDepth 100000
set_option maxHeartbeats 1000000
namespace BL
open PySem PySem.Spec PyProof.Rows L2 SX He
end BL
set_option maxRecDepth 100000
set_option maxHeartbeats 400000
namespace K02
open PySem PySem.Spec PyProof.Rows L2 He BL SX
local macro_rules | `(tactic| walk_at "ar") => `(tactic| first
  | exact Or.inl ⟨by omega, by omega⟩
  | exact Or.inr ⟨by omega, by omega⟩
  | exact ⟨by omega, by omega⟩
  | exact ⟨by omega, by omega, by omega⟩
  | exact ⟨by decide, by decide, by decide⟩
  | exact Nat.le_of_ble_eq_true rfl
  | exact rfl
  | omega
  | decide
  | fail)
local macro_rules | `(tactic| walk_at "ne") => `(tactic| first
  | assumption
  | (apply Ne.symm; assumption)
  | (refine ne_of_none ?_ (by assumption); walk_at "hp")
  | (apply Ne.symm; refine ne_of_none ?_ (by assumption); walk_at "hp")
  | fail)
local macro_rules | `(tactic| walk_at "hp") => `(tactic| first
  | assumption
  | exact upd_same
  | (refine (upd_ne ?_).trans ?_; · walk_at "ne"; · walk_at "hp")
  | (refine BL.Kp.at (by assumption) ?_ ?_; · walk_at "hp"; · walk_at "ne")
  | (refine BL.Same.at (by assumption) ?_; walk_at "hp")
  | fail)
local macro_rules | `(tactic| walk_at "rd1") => `(tactic| first
  | refine ⟨_, rfl, ?_⟩
  | refine ⟨_, _, rfl, rfl, ?_⟩
  | refine Or.inl ⟨_, rfl, ?_⟩
  | (refine ⟨_, _, _, _, rfl, rfl, SqL.of (by walk_at "hp"), rfl, ?_⟩)
  | (refine ⟨_, _, _, _, rfl, rfl, (by walk_at "hp"), rfl, ?_⟩)
  | (refine And.intro (by walk_at "ar") ?_)
  | fail)
local macro_rules | `(tactic| walk_at "rd") => `(tactic| (walk_at "rd1"; repeat' walk_at "rd1"))

variable {P : Program} {w : World} {K : PySem.W.Frag} {mg : Str → Option Value} {base : Heap}
theorem sc_Town_text : FnScope ["self"] ["self"] (defScope s_Town_text) := ⟨rfl, rfl, rfl, by decide +kernel, rfl, by decide +kernel, by decide +kernel⟩
abbrev sp_Town_text (K : PySem.W.Frag) : Sp := fun vs H Q _ => ∃ (t : TownO) (cs : List (Str × V)) (rs : List BL.Rd) (ros : List (RdO × BL.Rd)) (la : List (Addr × Lane)), vs = [.ref t.a] ∧ TownAt K H t cs rs ros la ∧ Q (.str (textT cs rs)) H
theorem prop_Town_text (M : Md K mg) : BL.Prp P w K mg base 1 (ga K "Town") "text" (sp_Town_text K) := by
  refine prp_of (c_Town M) (pp_Town_text M) (F_Town_text M) sc_Town_text (fun _ _ _ _ _ _ us hl => match us, hl with | [_], _ => rfl) (fun vs H Q E h => ?_) (fun cdv A outer s H vs Q E hr h => ?_)
  · obtain ⟨t, cs, rs, ros, la, rfl, _⟩ := h
    rfl
  · obtain ⟨t, cs, rs, ros, la, rfl, T, k⟩ := h
    refine ⟨_, (pss_one (ps_ret (pe_fld (pv 0) rfl))), ?_⟩
    exact ⟨_, rfl, t.a, _, t.dx, _, _, rfl, T.ht, c_Town M, na_Town__text M, rfl, k⟩
end K02
set_option maxRecDepth 100000
set_option maxHeartbeats 2000000
namespace K02
open PySem PySem.Spec PyProof.Rows L2 He BL SX
local macro_rules | `(tactic| walk_at "ar") => `(tactic| first
  | exact Or.inl ⟨by omega, by omega⟩
  | exact Or.inr ⟨by omega, by omega⟩
  | exact ⟨by omega, by omega⟩
  | exact ⟨by omega, by omega, by omega⟩
  | exact ⟨by decide, by decide, by decide⟩
  | exact Nat.le_of_ble_eq_true rfl
  | exact rfl
  | omega
  | decide
  | fail)
local macro_rules | `(tactic| walk_at "ne") => `(tactic| first
  | assumption
  | (apply Ne.symm; assumption)
  | (refine ne_of_none ?_ (by assumption); walk_at "hp")
  | (apply Ne.symm; refine ne_of_none ?_ (by assumption); walk_at "hp")
  | fail)
local macro_rules | `(tactic| walk_at "hp") => `(tactic| first
  | assumption
  | exact upd_same
  | (refine (upd_ne ?_).trans ?_; · walk_at "ne"; · walk_at "hp")
  | (refine BL.Kp.at (by assumption) ?_ ?_; · walk_at "hp"; · walk_at "ne")
  | (refine BL.Same.at (by assumption) ?_; walk_at "hp")
  | fail)
local macro_rules | `(tactic| walk_at "rd1") => `(tactic| first
  | refine ⟨_, rfl, ?_⟩
  | refine ⟨_, _, rfl, rfl, ?_⟩
  | refine Or.inl ⟨_, rfl, ?_⟩
  | (refine ⟨_, _, _, _, rfl, rfl, SqL.of (by walk_at "hp"), rfl, ?_⟩)
  | (refine ⟨_, _, _, _, rfl, rfl, (by walk_at "hp"), rfl, ?_⟩)
  | (refine And.intro (by walk_at "ar") ?_)
  | fail)
local macro_rules | `(tactic| walk_at "rd") => `(tactic| (walk_at "rd1"; repeat' walk_at "rd1"))

variable {P : Program} {w : World} {K : PySem.W.Frag} {mg : Str → Option Value} {base : Heap}
def flagD (bs : List Bool) : PyData := .list (bs.map .bool)
theorem flag_all {K : PySem.W.Frag} {H : Hp} : ∀ bs : List Bool, DpAll K H (bs.map V.bl) (bs.map .bool)
  | [] => .nil
  | b :: r => .cons (.bl b) (flag_all r)
theorem flag_dp {K : PySem.W.Frag} {H : Hp} {D : Addr} {bs : List Bool} (h : H D = some (.lst (bs.map V.bl))) : Dp K H (.ref D) (flagD bs) := .lst (.of h) (flag_all bs)
def outV (o : Out) : List V :=
  match o with
  | .town => [.str "town"]
  | .uneven z => [.str "Uneven", .str z]
  | .bad n => [.str "BadTown", .int (n : Nat)]
  | .many => [.str "TooMany", .str "oneways", .int 13]
theorem sc__law_read : FnScope ["rows", "made", "e", "flags"] ["rows"] (defScope s__law_read) := ⟨rfl, rfl, rfl, by decide +kernel, rfl, by decide +kernel, by decide +kernel⟩
abbrev sp__law_read (K : PySem.W.Frag) : Sp := fun vs H Q _ => ∃ (cs : List (Str × V)) (rs : List BL.Rd) (z : Str) (ls : List Str) (m : Nat) (o : Out), vs = [.str z] ∧ Rds cs rs z ls m o ∧
  ∀ p H', L2.Same H H' → H' p = some (.tup (outV o)) → Q (.ref p) H'
theorem cal__law_read (M : Md K mg) : C8.Cal P w K mg base 8 "_law_read" (sp__law_read K) [] := by
  refine cal_of (F__law_read M) (g__law_read M) sc__law_read (fun _ _ _ _ _ _ us hl => match us, hl with | [_], _ => rfl) (fun vs H Q E h => ?_) (fun cdv A outer s H vs Q E hr h => ?_)
  · obtain ⟨cs, rs, z, ls, m, o, rfl, _⟩ := h
    rfl
  · obtain ⟨cs, rs, z, ls, m, o, rfl, rds, k⟩ := h
    have sl0 : sizeLine = 16777216 := rfl
    have one : (1 : Nat) ≤ sizeLine := by rw [sl0]; decide
    have two : (2 : Nat) ≤ sizeLine := by rw [sl0]; decide
    have three : (3 : Nat) ≤ sizeLine := by rw [sl0]; decide
    have four : (4 : Nat) ≤ sizeLine := by rw [sl0]; decide
    refine ⟨_, (pss_one (ps_try_asT (i := 2) (T := fun cls b => PySem.W.exmAny K cls [.ref (He.ga K "BadTown"), .ref (He.ga K "TooMany"), .ref (He.ga K "Uneven")] = some b) rfl rfl sc__law_read.nd rfl rfl (fun _ _ h => BL.test3 ⟨rfl, by decide, Or.inl (kg_BadTown M)⟩ ⟨rfl, by decide, Or.inl (kg_TooMany M)⟩ ⟨rfl, by decide, Or.inl (kg_Uneven M)⟩ h) takes_none5 (fun W pn xe tk po => (pss_cons (ps_set (i := 1) sc__law_read.nd rfl (Or.inl rfl) (BL.pe_mkX (makX_Town M) hr (by decide) tk rfl (pa_cons (pv 0) pa_nil)))
  (pss_one (ps_ret (pe_ifExp (pt_cmpR op_eq (BL.pe_pr (prop_Town_text M) hr (by decide) (pv 1) rfl) (pv 0) (nomark _)) (pe_tup (pa_cons pe_str pa_nil)) (pe_tup (pa_cons pe_str pa_nil))))))) (fun a oe cls d pn hz hf => (pss_cons (ps_set (i := 3) sc__law_read.nd rfl (Or.inl rfl) (pe_lst (pa_cons (pe_callB (CallR.or (BL.call_isx (XF_BadTown M) (IX_BadTown M) hz hf) (CallR.or (BL.call_isx (XF_TooMany M) (IX_TooMany M) hz hf) (BL.call_isx (XF_Uneven M) (IX_Uneven M) hz hf))) (by rfl) (b_isinstance M) (by decide +kernel) (pa_cons (pv 2) (pa_cons (C8.pe_gc rfl (kc_BadTown M)) pa_nil))) (pa_cons (pe_callB (CallR.or (BL.call_isx (XF_BadTown M) (IX_BadTown M) hz hf) (CallR.or (BL.call_isx (XF_TooMany M) (IX_TooMany M) hz hf) (BL.call_isx (XF_Uneven M) (IX_Uneven M) hz hf))) (by rfl) (b_isinstance M) (by decide +kernel) (pa_cons (pv 2) (pa_cons (C8.pe_gc rfl (kc_TooMany M)) pa_nil))) (pa_cons (pe_callB (CallR.or (BL.call_isx (XF_BadTown M) (IX_BadTown M) hz hf) (CallR.or (BL.call_isx (XF_TooMany M) (IX_TooMany M) hz hf) (BL.call_isx (XF_Uneven M) (IX_Uneven M) hz hf))) (by rfl) (b_isinstance M) (by decide +kernel) (pa_cons (pv 2) (pa_cons (C8.pe_gc rfl (kc_Uneven M)) pa_nil))) (pa_cons (pe_callB (CallR.or (BL.call_isx (XF_BadTown M) (IX_BadTown M) hz hf) (CallR.or (BL.call_isx (XF_TooMany M) (IX_TooMany M) hz hf) (BL.call_isx (XF_Uneven M) (IX_Uneven M) hz hf))) (by rfl) (b_isinstance M) (by decide +kernel) (pa_cons (pv 2) (pa_cons (pe_bltn (v := .ty "ValueError") (by rfl) (b_ValueError M) (by decide +kernel) rfl) pa_nil))) pa_nil))))))
  (pss_cons (ps_if (pt_cmpR (show OpR _ (compareOp .Eq) (rEqD K) from op_eqD hr.units) (pv 3) (pe_lst (pa_cons pe_bl (pa_cons pe_bl (pa_cons pe_bl (pa_cons pe_bl pa_nil))))) (nomark _)) (pss_one (ps_ret (pe_tup (pa_cons pe_str (pa_cons (pe_xf (XF_BadTown M) (NF_BadTown_line M) hz hf (pv 2)) pa_nil))))) pss_nil)
  (pss_cons (ps_if (pt_cmpR (show OpR _ (compareOp .Eq) (rEqD K) from op_eqD hr.units) (pv 3) (pe_lst (pa_cons pe_bl (pa_cons pe_bl (pa_cons pe_bl (pa_cons pe_bl pa_nil))))) (nomark _)) (pss_one (ps_ret (pe_tup (pa_cons pe_str (pa_cons (pe_xf (XF_TooMany M) (NF_TooMany_what M) hz hf (pv 2)) (pa_cons (pe_xf (XF_TooMany M) (NF_TooMany_count M) hz hf (pv 2)) pa_nil)))))) pss_nil)
  (pss_one (ps_ret (pe_ifExp (pt_cmpR (show OpR _ (compareOp .Eq) (rEqD K) from op_eqD hr.units) (pv 3) (pe_lst (pa_cons pe_bl (pa_cons pe_bl (pa_cons pe_bl (pa_cons pe_bl pa_nil))))) (nomark _)) (pe_tup (pa_cons pe_str (pa_cons (pe_xf (XF_Uneven M) (NF_Uneven_crossing M) hz hf (pv 2)) pa_nil))) (pe_tup (pa_cons pe_str pa_nil))))))))))), ?_⟩
    refine ⟨_, rfl, ?_⟩
    intro x dx nx ndx hne
    have ndx2 : (L2.upd H dx (.own x)) x = none := (upd_ne hne.symm).trans nx
    have sx : L2.Same H (L2.upd (L2.upd H dx (.own x)) x (.ins (ga K "Town") dx [])) := (Same.new ndx).trans (Same.new ndx2)
    refine ⟨x, dx, cs, rs, z, ls, m, o, rfl, upd_same, rds, fun eo t ros la H1 ea edx T1 k1 => ⟨rfl, ?_⟩, fun eo H1 k1 => ?_⟩
    · obtain ⟨ez, _, _⟩ := rds.town eo
      subst ez
      subst eo
      have s1 : L2.Same H H1 := fun b' o h => k1 b' o (sx _ _ h) (ne_of_none h nx)
      subst ea
      refine ⟨_, rfl, t.a, t.dx, _, rfl, T1.ht, t, _, _, ros, la, rfl, T1, _, rfl, rfl, _, rfl, ?_⟩
      rw [decide_eq_true rfl]
      exact iteB (fun _ => ⟨one, fun p np => k p _ (s1.trans (Same.new np)) upd_same⟩) fun e => by cases e
    · have s1 : L2.Same H H1 := fun b' o h => k1 b' o (sx _ _ h) (ne_of_none h nx)
      cases o with
      | town => exact absurd rfl eo
      | bad n =>
        intro d why nd
        refine ⟨true, EX_BadTown M, fun _ a na => ?_, fun e => by cases e⟩
        refine ⟨_, rfl, .inl ⟨⟨d, _, rfl, upd_same⟩, .ref (ga K "BadTown"), _, _, rfl, rfl, fun u h => h, KI_BadTown_BadTown M, ?_⟩⟩
        refine ⟨_, rfl, .inl ⟨⟨d, _, rfl, upd_same⟩, .ref (ga K "TooMany"), _, _, rfl, rfl, fun u h => h, KI_BadTown_TooMany M, ?_⟩⟩
        refine ⟨_, rfl, .inl ⟨⟨d, _, rfl, upd_same⟩, .ref (ga K "Uneven"), _, _, rfl, rfl, fun u h => h, KI_BadTown_Uneven M, ?_⟩⟩
        refine ⟨_, rfl, .inl ⟨⟨d, _, rfl, upd_same⟩, .ty "ValueError", _, _, rfl, rfl, fun u h => h, KI_BadTown_ValueError M, ?_⟩⟩
        refine ⟨four, fun p np => ?_⟩
        have hp := upd_same (H := L2.upd H1 d (.xd [(("why" : Str), .str why), (("line" : Str), .int ((n : Nat) : Int))])) (a := p) (o := .lst [.bl true, .bl false, .bl false, .bl true])
        have hd := (Same.new (o := .lst [.bl true, .bl false, .bl false, .bl true]) np) _ _ (upd_same (H := H1) (a := d) (o := .xd [(("why" : Str), .str why), (("line" : Str), .int ((n : Nat) : Int))]))
        have s2 := (s1.trans (Same.new (o := .xd [(("why" : Str), .str why), (("line" : Str), .int ((n : Nat) : Int))]) nd)).trans (Same.new (o := .lst [.bl true, .bl false, .bl false, .bl true]) np)
        generalize L2.upd (L2.upd H1 d (.xd [(("why" : Str), .str why), (("line" : Str), .int ((n : Nat) : Int))])) p (.lst [.bl true, .bl false, .bl false, .bl true]) = H2 at hp hd s2
        refine ⟨_, rfl, four, fun q nq => ⟨flagD [true, false, false, true], flagD [true, false, false, true], flag_dp ((Same.new nq) _ _ hp), flag_dp upd_same, by decide, by decide, _, rfl, iteB (fun _ => ?_) fun e => by cases e⟩⟩
        have s2 := s2.trans (Same.new (o := .lst ([true, false, false, true].map V.bl)) nq)
        have hp := (Same.new (o := .lst ([true, false, false, true].map V.bl)) nq) _ _ hp
        have hd := (Same.new (o := .lst ([true, false, false, true].map V.bl)) nq) _ _ hd
        exact ⟨_, rfl, rfl, rfl, d, _, _, rfl, hd, rfl, two, fun p np => k p _ (s2.trans (Same.new np)) upd_same⟩
      | many =>
        intro d nd
        refine ⟨true, EX_TooMany M, fun _ a na => ?_, fun e => by cases e⟩
        refine ⟨_, rfl, .inr (.inl ⟨⟨d, _, rfl, upd_same⟩, .ref (ga K "BadTown"), _, _, rfl, rfl, fun u h => h, KI_TooMany_BadTown M, ?_⟩)⟩
        refine ⟨_, rfl, .inr (.inl ⟨⟨d, _, rfl, upd_same⟩, .ref (ga K "TooMany"), _, _, rfl, rfl, fun u h => h, KI_TooMany_TooMany M, ?_⟩)⟩
        refine ⟨_, rfl, .inr (.inl ⟨⟨d, _, rfl, upd_same⟩, .ref (ga K "Uneven"), _, _, rfl, rfl, fun u h => h, KI_TooMany_Uneven M, ?_⟩)⟩
        refine ⟨_, rfl, .inr (.inl ⟨⟨d, _, rfl, upd_same⟩, .ty "ValueError", _, _, rfl, rfl, fun u h => h, KI_TooMany_ValueError M, ?_⟩)⟩
        refine ⟨four, fun p np => ?_⟩
        have hp := upd_same (H := L2.upd H1 d (.xd [(("count" : Str), .int 13), (("what" : Str), .str ("oneways" : Str))])) (a := p) (o := .lst [.bl false, .bl true, .bl false, .bl true])
        have hd := (Same.new (o := .lst [.bl false, .bl true, .bl false, .bl true]) np) _ _ (upd_same (H := H1) (a := d) (o := .xd [(("count" : Str), .int 13), (("what" : Str), .str ("oneways" : Str))]))
        have s2 := (s1.trans (Same.new (o := .xd [(("count" : Str), .int 13), (("what" : Str), .str ("oneways" : Str))]) nd)).trans (Same.new (o := .lst [.bl false, .bl true, .bl false, .bl true]) np)
        generalize L2.upd (L2.upd H1 d (.xd [(("count" : Str), .int 13), (("what" : Str), .str ("oneways" : Str))])) p (.lst [.bl false, .bl true, .bl false, .bl true]) = H2 at hp hd s2
        refine ⟨_, rfl, four, fun q nq => ⟨flagD [false, true, false, true], flagD [true, false, false, true], flag_dp ((Same.new nq) _ _ hp), flag_dp upd_same, by decide, by decide, _, rfl, iteB (fun e => by cases e) fun _ => ?_⟩⟩
        have s2 := s2.trans (Same.new (o := .lst ([true, false, false, true].map V.bl)) nq)
        have hp := (Same.new (o := .lst ([true, false, false, true].map V.bl)) nq) _ _ hp
        have hd := (Same.new (o := .lst ([true, false, false, true].map V.bl)) nq) _ _ hd
        refine ⟨_, rfl, four, fun q nq => ⟨flagD [false, true, false, true], flagD [false, true, false, true], flag_dp ((Same.new nq) _ _ hp), flag_dp upd_same, by decide, by decide, _, rfl, iteB (fun _ => ?_) fun e => by cases e⟩⟩
        have s2 := s2.trans (Same.new (o := .lst ([false, true, false, true].map V.bl)) nq)
        have hp := (Same.new (o := .lst ([false, true, false, true].map V.bl)) nq) _ _ hp
        have hd := (Same.new (o := .lst ([false, true, false, true].map V.bl)) nq) _ _ hd
        exact ⟨_, rfl, rfl, rfl, d, _, _, rfl, hd, rfl, _, rfl, rfl, rfl, d, _, _, rfl, hd, rfl, three, fun p np => k p _ (s2.trans (Same.new np)) upd_same⟩
      | uneven c =>
        intro d nd
        refine ⟨true, EX_Uneven M, fun _ a na => ?_, fun e => by cases e⟩
        refine ⟨_, rfl, .inr (.inr ⟨⟨d, _, rfl, upd_same⟩, .ref (ga K "BadTown"), _, _, rfl, rfl, fun u h => h, KI_Uneven_BadTown M, ?_⟩)⟩
        refine ⟨_, rfl, .inr (.inr ⟨⟨d, _, rfl, upd_same⟩, .ref (ga K "TooMany"), _, _, rfl, rfl, fun u h => h, KI_Uneven_TooMany M, ?_⟩)⟩
        refine ⟨_, rfl, .inr (.inr ⟨⟨d, _, rfl, upd_same⟩, .ref (ga K "Uneven"), _, _, rfl, rfl, fun u h => h, KI_Uneven_Uneven M, ?_⟩)⟩
        refine ⟨_, rfl, .inr (.inr ⟨⟨d, _, rfl, upd_same⟩, .ty "ValueError", _, _, rfl, rfl, fun u h => h, KI_Uneven_ValueError M, ?_⟩)⟩
        refine ⟨four, fun p np => ?_⟩
        have hp := upd_same (H := L2.upd H1 d (.xd [(("crossing" : Str), .str c)])) (a := p) (o := .lst [.bl false, .bl false, .bl true, .bl true])
        have hd := (Same.new (o := .lst [.bl false, .bl false, .bl true, .bl true]) np) _ _ (upd_same (H := H1) (a := d) (o := .xd [(("crossing" : Str), .str c)]))
        have s2 := (s1.trans (Same.new (o := .xd [(("crossing" : Str), .str c)]) nd)).trans (Same.new (o := .lst [.bl false, .bl false, .bl true, .bl true]) np)
        generalize L2.upd (L2.upd H1 d (.xd [(("crossing" : Str), .str c)])) p (.lst [.bl false, .bl false, .bl true, .bl true]) = H2 at hp hd s2
        refine ⟨_, rfl, four, fun q nq => ⟨flagD [false, false, true, true], flagD [true, false, false, true], flag_dp ((Same.new nq) _ _ hp), flag_dp upd_same, by decide, by decide, _, rfl, iteB (fun e => by cases e) fun _ => ?_⟩⟩
        have s2 := s2.trans (Same.new (o := .lst ([true, false, false, true].map V.bl)) nq)
        have hp := (Same.new (o := .lst ([true, false, false, true].map V.bl)) nq) _ _ hp
        have hd := (Same.new (o := .lst ([true, false, false, true].map V.bl)) nq) _ _ hd
        refine ⟨_, rfl, four, fun q nq => ⟨flagD [false, false, true, true], flagD [false, true, false, true], flag_dp ((Same.new nq) _ _ hp), flag_dp upd_same, by decide, by decide, _, rfl, iteB (fun e => by cases e) fun _ => ?_⟩⟩
        have s2 := s2.trans (Same.new (o := .lst ([false, true, false, true].map V.bl)) nq)
        have hp := (Same.new (o := .lst ([false, true, false, true].map V.bl)) nq) _ _ hp
        have hd := (Same.new (o := .lst ([false, true, false, true].map V.bl)) nq) _ _ hd
        refine ⟨_, rfl, four, fun q nq => ⟨flagD [false, false, true, true], flagD [false, false, true, true], flag_dp ((Same.new nq) _ _ hp), flag_dp upd_same, by decide, by decide, _, rfl, iteB (fun _ => ?_) fun e => by cases e⟩⟩
        have s2 := s2.trans (Same.new (o := .lst ([false, false, true, true].map V.bl)) nq)
        have hp := (Same.new (o := .lst ([false, false, true, true].map V.bl)) nq) _ _ hp
        have hd := (Same.new (o := .lst ([false, false, true, true].map V.bl)) nq) _ _ hd
        exact ⟨_, rfl, rfl, rfl, d, _, _, rfl, hd, rfl, two, fun p np => k p _ (s2.trans (Same.new np)) upd_same⟩
end K02
set_option maxRecDepth 100000
set_option maxHeartbeats 1000000
namespace BL
open PySem PySem.Spec PyProof.Rows L2 SX He
theorem cut_fromV {xs : List V} {t : Nat} : cutV xs (some (t : Int)) none = xs.drop t := by
  have e0 : HT.sIx xs.length 0 (some (t : Int)) = min t xs.length := HT.sIx_nat _ _ _
  have e1 : HT.sIx xs.length xs.length none = xs.length := rfl
  unfold cutV
  rw [e0, e1]
  by_cases h : xs.length ≤ t
  · rw [Nat.min_eq_right h, List.drop_of_length_le (Nat.le_refl _), List.drop_of_length_le h, List.take_nil]
  · rw [Nat.min_eq_left (by omega), List.take_of_length_le (by rw [List.length_drop]; exact Nat.le_refl _)]
structure Bent (cs : List (Str × V)) (rs0 rs : List Rd) : Prop where
  ok : WorldP cs rs
  tw : rs.filter (·.two) = rs0.filter (·.two)
  ow : (rs.filter (!·.two)).length ≤ 12
theorem Bent.start {cs : List (Str × V)} {rs : List Rd} (ok : WorldOk cs rs) : Bent cs rs rs := ⟨ok.p, rfl, ok.ow⟩
theorem mem_mid {A B : List Rd} {r q : Rd} (h : q ∈ A ++ r :: B) : q = r ∨ q ∈ A ++ B := by
  rcases List.mem_append.mp h with h | h
  · exact .inr (List.mem_append_left _ h)
  · rcases List.mem_cons.mp h with h | h
    · exact .inl h
    · exact .inr (List.mem_append_right _ h)
theorem mid_mem {A B : List Rd} {r q : Rd} (h : q ∈ A ++ B) : q ∈ A ++ r :: B := by
  rcases List.mem_append.mp h with h | h
  · exact List.mem_append_left _ h
  · exact List.mem_append_right _ (List.mem_cons_of_mem _ h)
def turn1 (r : Rd) : Rd := { r with a := r.b, b := r.a }
theorem Bent.turn {cs : List (Str × V)} {rs0 A B : List Rd} {r : Rd} (h : Bent cs rs0 (A ++ r :: B)) (h2 : r.two = false) : Bent cs rs0 (A ++ turn1 r :: B) := by
  have hr : r ∈ A ++ r :: B := List.mem_append_right _ List.mem_cons_self
  have t2 : (turn1 r).two = false := h2
  have all : ∀ {p : Rd → Prop}, (∀ q ∈ A ++ r :: B, p q) → p (turn1 r) → ∀ q ∈ A ++ turn1 r :: B, p q := fun hp ht q hq => by
    rcases mem_mid hq with rfl | hq
    · exact ht
    · exact hp q (mid_mem hq)
  have e1 : (A ++ turn1 r :: B).filter (·.two) = (A ++ r :: B).filter (·.two) := by simp [h2, t2]
  have e2 : ((A ++ turn1 r :: B).filter (!·.two)).length = ((A ++ r :: B).filter (!·.two)).length := by simp [h2, t2]
  have en : (A ++ turn1 r :: B).map (·.name) = (A ++ r :: B).map (·.name) := by simp [turn1]
  have o := h.ok
  refine ⟨⟨o.lo, o.hi, o.cn, o.cd, o.ck, all o.rn (o.rn r hr), by rw [en]; exact o.rd, all o.re ?_, all o.rm (o.rm r hr), by rw [e1]; exact o.st, by rw [e2]; exact o.ow, all o.pl ?_, fun x hx => ?_⟩, by rw [e1]; exact h.tw, by rw [e2]; exact h.ow⟩
  · obtain ⟨a, b, c⟩ := o.re r hr
    exact ⟨b, a, fun e => c e.symm⟩
  · intro _
    obtain ⟨a, b⟩ := o.pl r hr h2
    exact ⟨b, a⟩
  · obtain ⟨q, hq, hx⟩ := o.tch x hx
    rcases mem_mid hq with rfl | hq
    · exact ⟨turn1 q, List.mem_append_right _ List.mem_cons_self, hx.symm⟩
    · exact ⟨q, mid_mem hq, hx⟩
theorem Bent.drop {cs : List (Str × V)} {rs0 A B : List Rd} {r : Rd} (h : Bent cs rs0 (A ++ r :: B)) (h2 : r.two = false) (ta : ∃ x ∈ A ++ B, x.a = r.a ∨ x.b = r.a) (tb : ∃ x ∈ A ++ B, x.a = r.b ∨ x.b = r.b) : Bent cs rs0 (A ++ B) := by
  have e1 : (A ++ B).filter (·.two) = (A ++ r :: B).filter (·.two) := by simp [h2]
  have sb : (A ++ B).Sublist (A ++ r :: B) := List.Sublist.append (List.Sublist.refl _) (List.sublist_cons_self _ _)
  have e2 : ((A ++ B).filter (!·.two)).length ≤ ((A ++ r :: B).filter (!·.two)).length := (sb.filter _).length_le
  have o := h.ok
  refine ⟨⟨o.lo, o.hi, o.cn, o.cd, o.ck, fun q hq => o.rn q (mid_mem hq), o.rd.sublist (sb.map _), fun q hq => o.re q (mid_mem hq), fun q hq => o.rm q (mid_mem hq), by rw [e1]; exact o.st, Nat.le_trans e2 o.ow, fun q hq => o.pl q (mid_mem hq), fun x hx => ?_⟩, by rw [e1]; exact h.tw, Nat.le_trans e2 h.ow⟩
  obtain ⟨q, hq, hx⟩ := o.tch x hx
  rcases mem_mid hq with rfl | hq
  · rcases hx with rfl | rfl
    · exact ta
    · exact tb
  · exact ⟨q, hq, hx⟩
theorem Bent.back {cs : List (Str × V)} {rs0 rs : List Rd} (h : Bent cs rs0 rs) (ok : WorldOk cs rs0) : WorldOk cs (rs.filter (·.two) ++ rs0.filter (!·.two)) := by
  rw [h.tw]
  exact ok.perm (List.filter_append_perm _ _).symm
/-- so many one-way streets more -/
def moreR (a b : Nat) (zs : List Str) : List Rd := zs.map fun z => ⟨z, a, b, 1, 1, 0, 1, false⟩
theorem Bent.more {cs : List (Str × V)} {rs0 rs : List Rd} (h : Bent cs rs0 rs) {a b : Nat} {zs : List Str} (ha : (cs[a]?).map (·.2) = some (.str "place")) (hb : (cs[b]?).map (·.2) = some (.str "place")) (hab : a ≠ b)
    (zo : ∀ z ∈ zs, NameOk z) (znd : zs.Nodup) (zf : ∀ z ∈ zs, z ∉ rs.map (·.name)) (zl : zs.length + (rs.filter (!·.two)).length = 13) : WorldP cs (rs ++ moreR a b zs) ∧ 12 < ((rs ++ moreR a b zs).filter (!·.two)).length := by
  have o := h.ok
  have la : a < cs.length := by
    cases e : cs[a]? with
    | none => rw [e] at ha; cases ha
    | some c => exact (List.getElem?_eq_some_iff.mp e).1
  have lb : b < cs.length := by
    cases e : cs[b]? with
    | none => rw [e] at hb; cases hb
    | some c => exact (List.getElem?_eq_some_iff.mp e).1
  have mm : ∀ {q : Rd}, q ∈ moreR a b zs → ∃ z ∈ zs, q = ⟨z, a, b, 1, 1, 0, 1, false⟩ := fun hq => by
    obtain ⟨z, hz, rfl⟩ := List.mem_map.mp hq
    exact ⟨z, hz, rfl⟩
  have all : ∀ {p : Rd → Prop}, (∀ q ∈ rs, p q) → (∀ z ∈ zs, p ⟨z, a, b, 1, 1, 0, 1, false⟩) → ∀ q ∈ rs ++ moreR a b zs, p q := fun h1 h2 q hq => by
    rcases List.mem_append.mp hq with hq | hq
    · exact h1 q hq
    · obtain ⟨z, hz, rfl⟩ := mm hq
      exact h2 z hz
  have e1 : (moreR a b zs).filter (·.two) = [] := List.filter_eq_nil_iff.mpr fun q hq => by obtain ⟨z, _, rfl⟩ := mm hq; simp
  have e2 : (moreR a b zs).filter (!·.two) = moreR a b zs := List.filter_eq_self.mpr fun q hq => by obtain ⟨z, _, rfl⟩ := mm hq; simp
  have e3 : (moreR a b zs).length = zs.length := by unfold moreR; rw [List.length_map]
  have en : (moreR a b zs).map (·.name) = zs := by unfold moreR; rw [List.map_map]; exact List.map_id _
  refine ⟨⟨o.lo, o.hi, o.cn, o.cd, o.ck, all o.rn zo, ?_, all o.re fun z _ => ⟨la, lb, hab⟩, all o.rm fun z _ => ⟨Nat.le_refl 1, (by decide : 1 ≤ 60), Nat.le_refl 1, (by decide : 1 ≤ 60), Nat.zero_le _, Nat.le_refl 1, (by decide : 1 ≤ 3)⟩, ?_, ?_, all o.pl fun z _ _ => ⟨ha, hb⟩, fun x hx => ?_⟩, ?_⟩
  · rw [List.map_append, en]
    exact List.nodup_append.mpr ⟨o.rd, znd, fun x hx y hy e => zf y hy (e ▸ hx)⟩
  · rw [List.filter_append, e1, List.append_nil]; exact o.st
  · rw [List.filter_append, e2, List.length_append, e3]; omega
  · obtain ⟨q, hq, hx⟩ := o.tch x hx
    exact ⟨q, List.mem_append_left _ hq, hx⟩
  · rw [List.filter_append, e2, List.length_append, e3]; omega
theorem more_line {cs : List (Str × V)} {a b : Nat} {z : Str} : ((((("oneway " : Str) ++ z) ++ (" " : Str)) ++ nameAt cs a) ++ (" " : Str)) ++ nameAt cs b ++ (" 1 0 1" : Str) = lineT cs ⟨z, a, b, 1, 1, 0, 1, false⟩ := by
  have e1 : ("oneway " : Str) = S [111, 110, 101, 119, 97, 121, 32] := by decide +kernel
  have e2 : (" " : Str) = S [32] := by decide +kernel
  have e3 : ("oneway" : Str) = S [111, 110, 101, 119, 97, 121] := by decide +kernel
  have e4 : (" 1 0 1" : Str) = S [32, 49, 32, 48, 32, 49] := by decide +kernel
  have n0 : num 0 = S [48] := by decide +kernel
  have n1 : num 1 = S [49] := by decide +kernel
  have e5 : lineW cs ⟨z, a, b, 1, 1, 0, 1, false⟩ = ([[111, 110, 101, 119, 97, 121], z.cps.toList, (nameAt cs a).cps.toList, (nameAt cs b).cps.toList, [49], [48], [49]] : List (List Nat)).map S := by
    show [("oneway" : Str), z, nameAt cs a, nameAt cs b, num 1, num 0, num 1] = [S _, S z.cps.toList, S (nameAt cs a).cps.toList, S (nameAt cs b).cps.toList, S _, S _, S _]
    rw [S_tl, S_tl, S_tl, e3, n0, n1]
  unfold lineT
  rw [e5, e2, join_S, e1, e4, ← S_tl z, ← S_tl (nameAt cs a), ← S_tl (nameAt cs b)]
  simp only [S_cat]
  refine congrArg S ?_
  show _ = [111, 110, 101, 119, 97, 121] ++ ([32] ++ (_ ++ ([32] ++ (_ ++ ([32] ++ (_ ++ ([32] ++ ([49] ++ ([32] ++ ([48] ++ ([32] ++ [49])))))))))))
  simp
end BL
set_option maxRecDepth 100000
set_option maxHeartbeats 2000000
namespace K02
open PySem PySem.Spec PyProof.Rows L2 He BL SX
local macro_rules | `(tactic| walk_at "ar") => `(tactic| first
  | exact Or.inl ⟨by omega, by omega⟩
  | exact Or.inr ⟨by omega, by omega⟩
  | exact ⟨by omega, by omega⟩
  | exact ⟨by omega, by omega, by omega⟩
  | exact ⟨by decide, by decide, by decide⟩
  | exact Nat.le_of_ble_eq_true rfl
  | exact rfl
  | omega
  | decide
  | fail)
local macro_rules | `(tactic| walk_at "ne") => `(tactic| first
  | assumption
  | (apply Ne.symm; assumption)
  | (refine ne_of_none ?_ (by assumption); walk_at "hp")
  | (apply Ne.symm; refine ne_of_none ?_ (by assumption); walk_at "hp")
  | fail)
local macro_rules | `(tactic| walk_at "hp") => `(tactic| first
  | assumption
  | exact upd_same
  | (refine (upd_ne ?_).trans ?_; · walk_at "ne"; · walk_at "hp")
  | (refine BL.Kp.at (by assumption) ?_ ?_; · walk_at "hp"; · walk_at "ne")
  | (refine BL.Same.at (by assumption) ?_; walk_at "hp")
  | fail)
local macro_rules | `(tactic| walk_at "rd1") => `(tactic| first
  | refine ⟨_, rfl, ?_⟩
  | refine ⟨_, _, rfl, rfl, ?_⟩
  | refine Or.inl ⟨_, rfl, ?_⟩
  | (refine ⟨_, _, _, _, rfl, rfl, SqL.of (by walk_at "hp"), rfl, ?_⟩)
  | (refine ⟨_, _, _, _, rfl, rfl, (by walk_at "hp"), rfl, ?_⟩)
  | (refine And.intro (by walk_at "ar") ?_)
  | fail)
local macro_rules | `(tactic| walk_at "rd") => `(tactic| (walk_at "rd1"; repeat' walk_at "rd1"))

variable {P : Program} {w : World} {K : PySem.W.Frag} {mg : Str → Option Value} {base : Heap}
theorem sc__law_bent : FnScope ["bag", "w", "roads", "step", "k", "r", "ends", "rest", "q", "x"] ["bag", "w"] (defScope s__law_bent) := ⟨rfl, rfl, rfl, by decide +kernel, rfl, by decide +kernel, by decide +kernel⟩
abbrev sp__law_bent (K : PySem.W.Frag) : Sp := fun vs H Q _ => ∃ (b c wA pc pr : Addr) (cs : List (Addr × Str × V)) (rs : List (Addr × BL.Rd)), vs = [.ref b, .ref wA] ∧ BagAt H b c ∧ WAt H wA pc pr cs rs ∧ WorldOk (cs.map fun x : Addr × Str × V => x.2) (rs.map fun x : Addr × BL.Rd => x.2) ∧
  ∀ (w2 pr2 : Addr) (rs2 : List (Addr × BL.Rd)) (H' : Hp), Bent (cs.map fun x : Addr × Str × V => x.2) (rs.map fun x : Addr × BL.Rd => x.2) (rs2.map fun x : Addr × BL.Rd => x.2) → Kp b H H' → BagAt H' b c → WAt H' w2 pc pr2 cs rs2 → Q (.ref w2) H'
theorem cal__law_bent (M : Md K mg) : C8.Cal P w K mg base 3 "_law_bent" (sp__law_bent K) [] := by
  refine cal_of (F__law_bent M) (g__law_bent M) sc__law_bent (fun _ _ _ _ _ _ us hl => match us, hl with | [_, _], _ => rfl) (fun vs H Q E h => ?_) (fun cdv A outer s H vs Q E hr h => ?_)
  · obtain ⟨b, c, wA, pc, pr, cs, rs, rfl, _⟩ := h
    rfl
  · obtain ⟨b, c, wA, pc, pr, cs, rs, rfl, hb, W, ok, k⟩ := h
    have hu := hu_of hr
    have sl0 : sizeLine = 16777216 := rfl
    refine ⟨_, (pss_cons (ps_set (i := 2) sc__law_bent.nd rfl (Or.inl rfl) (pe_callTy call_list_of (by rfl) (b_list M) (by decide +kernel) (pa_cons (pe_ix ix_list (pv 1) pe_int (fun _ _ => rfl)) pa_nil)))
  (pss_cons (ps_for PassesOwn.never rfl (pi_range1 rfl (b_range M) (pa_cons (pe_op op_add pe_int (C8.pe_c (cal__law_draw M) hr (by decide) rfl (pa_cons (pv 0) (pa_cons pe_int pa_nil)))) pa_nil)) (pg_name (i := 3) sc__law_bent.nd rfl (Or.inl rfl)) (pss_cons (ps_set (i := 4) sc__law_bent.nd rfl (Or.inl rfl) (C8.pe_c (cal__law_draw M) hr (by decide) rfl (pa_cons (pv 0) (pa_cons (pe_callB call_len_seq (by rfl) (b_len M) PySem.boot_len (pa_cons (pv 2) pa_nil)) pa_nil))))
  (pss_cons (ps_set (i := 5) sc__law_bent.nd rfl (Or.inl rfl) (pe_ix ix_list (pv 2) (pv 4) (fun _ _ => rfl)))
  (pss_cons (ps_set (i := 6) sc__law_bent.nd rfl (Or.inl rfl) (pe_lst (pa_cons (pe_ix ix_tup (pv 5) pe_int (fun _ _ => rfl)) (pa_cons (pe_ix ix_tup (pv 5) pe_int (fun _ _ => rfl)) pa_nil))))
  (pss_cons (ps_set (i := 7) sc__law_bent.nd rfl (Or.inr rfl) (pe_op op_cat (pe_slice sl_list (pv 2) po_none (po_some (pv 4))) (pe_slice sl_list (pv 2) (po_some (pe_op op_add (pv 4) pe_int)) po_none)))
  (pss_one (ps_if (PW.pt (pw_and (pt_cmpR op_eq (pe_ix ix_tup (pv 5) pe_int (fun _ _ => rfl)) pe_int (nomark _)) (pw_and1 (pt_cmpR op_eq (C8.pe_c (cal__law_draw M) hr (by decide) rfl (pa_cons (pv 0) (pa_cons pe_int pa_nil))) pe_int (nomark _))))) (pss_one (ps_asg (pe_tup (pa_cons (pe_ix ix_tup (pv 5) pe_int (fun _ _ => rfl)) (pa_cons (pe_ix ix_tup (pv 5) pe_int (fun _ _ => rfl)) (pa_cons (pe_ix ix_tup (pv 5) pe_int (fun _ _ => rfl)) (pa_cons (pe_ix ix_tup (pv 5) pe_int (fun _ _ => rfl)) (pa_cons pe_int (pa_cons (pe_ix ix_tup (pv 5) pe_int (fun _ _ => rfl)) (pa_cons (pe_ix ix_tup (pv 5) pe_int (fun _ _ => rfl)) (pa_cons pe_int pa_nil))))))))) (pg_sub (pv 2) (pv 4) set_list))) (pss_one (ps_if (PW.pt (pw_and (pt_cmpR op_eq (pe_ix ix_tup (pv 5) pe_int (fun _ _ => rfl)) pe_int (nomark _)) (pw_and1 (pt_cmpR op_eq (pe_callB call_len_seq (by rfl) (b_len M) PySem.boot_len (pa_cons (pe_lc (own := [("q", 8)]) (g := (gName 8)) (tt := (tTest (tOp (rI0 fun i j => .bl (decide (j < i))) (tCB (fun xs H Q => ∃ p ys, xs = [.ref p] ∧ (SqL K H p ys ∨ SqT K H p ys) ∧ Q (.int ys.length) H) (tCons (tLc (iList K (tVar 7)) (gName 9) (tTest (tOp (rIn K false) (tVar 8) (tSl (rSlT K) (tVar 9) (tPart (tC (.int 1))) (tPart (tC (.int 3)))))) (tVar 9) [9]) tNil)) (tC (.int 0))))) (te := (tVar 8)) rfl sc__law_bent.nd (pi_list (pv 6)) (blkOk_by (N := ["bag", "w", "roads", "step", "k", "r", "ends", "rest", "q", "x"]) (by kernel_rfl)) (fun _ _ _ _ _ => (pg_name (i := 8) sc__law_bent.nd rfl (Or.inr rfl))) (fun _ _ _ _ _ => (pts_one (pt_cmpR op_gt (pe_callB call_len_seq (by rfl) (b_len M) PySem.boot_len (pa_cons (pe_lc (own := [("x", 9)]) (g := (gName 9)) (tt := (tTest (tOp (rIn K false) (tVar 8) (tSl (rSlT K) (tVar 9) (tPart (tC (.int 1))) (tPart (tC (.int 3))))))) (te := (tVar 9)) rfl sc__law_bent.nd (pi_list (pv 7)) (blkOk_by (N := ["bag", "w", "roads", "step", "k", "r", "ends", "rest", "q", "x"]) (by kernel_rfl)) (fun _ _ _ _ _ => (pg_name (i := 9) sc__law_bent.nd rfl (Or.inl rfl))) (fun _ _ _ _ _ => (pts_one (pt_cmpR op_in_seq (pv 8) (pe_slice sl_tup (pv 9) (po_some pe_int) (po_some pe_int)) (by rfl)))) (fun _ _ _ _ _ => (pv 9))) pa_nil)) pe_int (nomark _)))) (fun _ _ _ _ _ => (pv 8))) pa_nil)) pe_int (nomark _))))) (pss_one (ps_set (i := 2) sc__law_bent.nd rfl (Or.inl rfl) (pv 7))) pss_nil)))))))))
  (pss_one (ps_ret (pe_lst (pa_cons (pe_ix ix_list (pv 1) pe_int (fun _ _ => rfl)) (pa_cons (pv 2) pa_nil))))))), ?_⟩
    have two : (2 : Nat) ≤ sizeLine := by rw [sl0]; decide
    have eight : (8 : Nat) ≤ sizeLine := by rw [sl0]; decide
    refine ⟨_, rfl, wA, _, 1, _, rfl, rfl, SqL.of W.hw, at_of (j := 1) rfl rfl, pr, _, rfl, .inl (SqL.of W.hr), fun p np => ?_⟩
    have s1 := Same.new (o := .lst (rs.map fun x => V.ref x.1)) np
    have hp1 := upd_same (H := H) (a := p) (o := .lst (rs.map fun x => V.ref x.1))
    have W1 := W.kept s1
    have b1 := hb.kept s1
    generalize (L2.upd H p (.lst (rs.map fun x => V.ref x.1))) = H1 at s1 hp1 W1 b1
    refine ⟨_, rfl, b, c, 3, rfl, b1, by decide, by decide, fun n H2 n0 n1 k2 b2 => ?_⟩
    have pb := hb.nb np
    refine ⟨_, _, rfl, rfl, _, rfl, by omega, by omega, for_range (n := (1 + n).toNat) (fun i σ H3 => ∃ (p : Addr) (rs1 : List (Addr × BL.Rd)) (o3 o4 o5 o6 o7 : Option V), σ = [some (.ref b), some (.ref wA), some (.ref p), o3, o4, o5, o6, o7, none, none] ∧ Bent (cs.map fun x : Addr × Str × V => x.2) (rs.map fun x : Addr × BL.Rd => x.2) (rs1.map fun x : Addr × BL.Rd => x.2) ∧ Kp b H H3 ∧ BagAt H3 b c ∧ H p = none ∧ H3 p = some (.lst (rs1.map fun x => .ref x.1)) ∧ RoadsAt H3 rs1) ⟨p, rs, _, _, _, _, _, rfl, Bent.start ok, (Kp.of s1).trans k2, b2, np, k2 _ _ hp1 pb, W1.ra.kept (.kp k2 b1)⟩ ?_ ?_⟩
    · clear hp1 np pb k2 b2 s1 W1 b1
      clear p
      rintro i σ H3 hi ⟨p, rs1, o3, o4, o5, o6, o7, rfl, B1, k3, b3, np, hp, ra⟩
      have pb := hb.nb np
      have pc' := hb.nc np
      have rl : rs1.length ≤ 49 ∧ 0 < rs1.length := by
        have h1 := B1.ok.st
        have h2 := B1.ok.ow
        have h3 := len_two (rs1.map fun x : Addr × BL.Rd => x.2)
        obtain ⟨r, hr, _⟩ := B1.ok.tch 0 (by have := B1.ok.lo; omega)
        have := List.length_pos_of_mem hr
        rw [List.length_map] at h3 this
        exact ⟨by omega, this⟩
      refine ⟨_, rfl, _, rfl, p, _, rfl, .inl (SqL.of hp), ?_⟩
      rw [List.length_map]
      refine ⟨b, c, _, rfl, b3, by omega, by omega, fun q H4 q0 q1 k4 b4 => ?_⟩
      obtain ⟨kk, rfl⟩ : ∃ kk : Nat, q = (kk : Int) := ⟨q.toNat, by omega⟩
      have K4 := k3.trans k4
      have hp4 := k4 _ _ hp pb
      have ra4 := ra.kept (.kp k4 b3)
      obtain ⟨x, hx⟩ : ∃ x, rs1[kk]? = some x := ⟨_, List.getElem?_eq_getElem (by omega)⟩
      have hxr : (rs1.map fun x => V.ref x.1)[kk]? = some (.ref x.1) := by rw [List.getElem?_map, hx]; rfl
      have hxm := List.mem_of_getElem? hx
      have hR := ra4 x hxm
      clear ra hp k3 k4 b3
      refine ⟨_, rfl, _, rfl, p, _, _, _, rfl, rfl, SqL.of hp4, at_of (j := kk) (by omega) hxr, ?_⟩
      refine ⟨_, rfl, x.1, _, 1, .int (x.2.a : Nat), rfl, rfl, .of hR, at_of (j := 1) rfl rfl, _, rfl, x.1, _, 2, .int (x.2.b : Nat), rfl, rfl, .of hR, at_of (j := 2) rfl rfl, two, fun e ne => ?_⟩
      have se := Same.new (o := .lst [.int (x.2.a : Nat), .int (x.2.b : Nat)]) ne
      have he := upd_same (H := H4) (a := e) (o := .lst [.int (x.2.a : Nat), .int (x.2.b : Nat)])
      have hp5 := se _ _ hp4
      have ra5 := ra4.kept (.same se)
      have K5 := K4.trans (Kp.of se)
      have b5 := b4.kept se
      generalize (L2.upd H4 e (.lst [.int (x.2.a : Nat), .int (x.2.b : Nat)])) = H5 at se he hp5 ra5 K5 b5
      clear se hp4 ra4 K4 b4 hR ne
      -- rest
      obtain ⟨A, B, eAB, lA⟩ := split_at hx
      subst eAB
      subst lA
      refine ⟨_, rfl, _, rfl, _, rfl, p, _, rfl, SqL.of hp5, fun p1 np1 => ?_⟩
      have et : cutV ((A ++ x :: B).map fun x => V.ref x.1) none (some ((A.length : Nat) : Int)) = A.map fun x => V.ref x.1 := by
        rw [cut_to, ← List.map_take, List.take_left' rfl]
      rw [et]
      refine ⟨_, rfl, _, rfl, _, _, rfl, rfl, _, rfl, p, _, rfl, SqL.of ((Same.new np1) _ _ hp5), fun p2 np2 => ?_⟩
      have ed : cutV ((A ++ x :: B).map fun x => V.ref x.1) (some (((A.length : Nat) : Int) + 1)) none = B.map fun x => V.ref x.1 := by
        rw [show ((A.length : Nat) : Int) + 1 = ((A.length + 1 : Nat) : Int) by omega, cut_fromV, ← List.map_drop, List.drop_append]
        simp
      rw [ed]
      have e12 : p1 ≠ p2 := ne_of_none upd_same np2
      refine ⟨p1, p2, _, _, rfl, rfl, (upd_ne e12).trans upd_same, upd_same, by rw [List.length_map, List.length_map, sl0]; rw [List.length_append, List.length_cons] at rl; omega, fun p3 np3 => ?_⟩
      rw [← List.map_append]
      have s6 : L2.Same H5 (L2.upd (L2.upd (L2.upd H5 p1 (.lst (A.map fun x => V.ref x.1))) p2 (.lst (B.map fun x => V.ref x.1))) p3 (.lst ((A ++ B).map fun x => V.ref x.1))) := ((Same.new np1).trans (Same.new np2)).trans (Same.new np3)
      have h3 := upd_same (H := L2.upd (L2.upd H5 p1 (.lst (A.map fun x => V.ref x.1))) p2 (.lst (B.map fun x => V.ref x.1))) (a := p3) (o := .lst ((A ++ B).map fun x => V.ref x.1))
      have n30 : H p3 = none := by
        have q5 : H5 p3 = none := none_back ((Same.new np1).trans (Same.new np2)) np3
        exact K5.free q5 (b5.nb q5)
      have he6 := s6 _ _ he
      have hp6 := s6 _ _ hp5
      have ra6 := ra5.kept (.same s6)
      have K6 := K5.trans (Kp.of s6)
      have b6 := b5.kept s6
      have hR6 := ra6 x hxm
      generalize (L2.upd (L2.upd (L2.upd H5 p1 (.lst (A.map fun x => V.ref x.1))) p2 (.lst (B.map fun x => V.ref x.1))) p3 (.lst ((A ++ B).map fun x => V.ref x.1))) = H6 at s6 h3 he6 hp6 ra6 K6 b6 hR6
      clear et ed e12 np1 np2 np3 he hp5 ra5 K5 b5 s6 hx hxr
      have ra7 : RoadsAt H6 (A ++ B) := fun y hy => ra6 y (by
        rcases List.mem_append.mp hy with q | q
        · exact List.mem_append_left _ q
        · exact List.mem_append_right _ (List.mem_cons_of_mem _ q))
      have emap : (A ++ x :: B).map (fun x : Addr × BL.Rd => x.2) = A.map (fun x : Addr × BL.Rd => x.2) ++ x.2 :: B.map (fun x : Addr × BL.Rd => x.2) := by rw [List.map_append]; rfl
      refine gnmI ?_
      refine ⟨_, rfl, x.1, _, 7, .int (if x.2.two = true then 1 else 0), rfl, rfl, .of hR6, at_of (j := 7) rfl rfl, rfl, _, rfl, ?_⟩
      rw [emap] at B1
      have stay : ∀ {H7 : Hp}, Kp b H6 H7 → BagAt H7 b c → Bent (cs.map fun x : Addr × Str × V => x.2) (rs.map fun x : Addr × BL.Rd => x.2) ((A ++ x :: B).map fun x : Addr × BL.Rd => x.2) ∧ Kp b H H7 ∧ BagAt H7 b c ∧ H p = none ∧ H7 p = some (.lst ((A ++ x :: B).map fun x => .ref x.1)) ∧ RoadsAt H7 (A ++ x :: B) := fun k7 b7 =>
        ⟨by rw [emap]; exact B1, K6.trans k7, b7, np, k7 _ _ hp6 pb, ra6.kept (.kp k7 b6)⟩
      have tch : ∀ {y : Nat}, 0 < ((A ++ B).filter fun z : Addr × BL.Rd => decide (z.2.a = y ∨ z.2.b = y)).length → ∃ q ∈ A.map (fun x : Addr × BL.Rd => x.2) ++ B.map (fun x : Addr × BL.Rd => x.2), q.a = y ∨ q.b = y := fun h => by
        obtain ⟨z, hz⟩ := List.exists_mem_of_length_pos h
        obtain ⟨h1, h2⟩ := List.mem_filter.mp hz
        exact ⟨z.2, by rw [← List.map_append]; exact List.mem_map.mpr ⟨z, h1, rfl⟩, of_decide_eq_true h2⟩
      have abl : (A ++ B).length < sizeLine := by rw [List.length_append, sl0]; rw [List.length_append, List.length_cons] at rl; omega
      cases htw : x.2.two with
      | true =>
        refine iteI (fun e => absurd e (by simp)) (fun _ => iteB (fun e => by cases e) (fun _ => ?_))
        refine ⟨_, rfl, x.1, _, 7, .int (if x.2.two = true then 1 else 0), rfl, rfl, .of hR6, at_of (j := 7) rfl rfl, rfl, _, rfl, ?_⟩
        rw [htw]
        exact iteI (fun e => absurd e (by simp)) (fun _ => iteB (fun e => by cases e) (fun _ => ⟨p, _, _, _, _, _, _, rfl, stay (Kp.of (Same.refl _)) b6⟩))
      | false =>
        have els : ∀ {H7 : Hp}, Kp b H6 H7 → BagAt H7 b c → True := fun _ _ => trivial
        refine iteI (fun _ => ?_) (fun e => absurd (by simp) e)
        refine ⟨_, rfl, b, c, 2, rfl, b6, by decide, by decide, fun d H7 d0 d1 k7 b7 => ⟨rfl, _, rfl, iteI (fun _ => ?_) (fun _ => ?_)⟩⟩
        · have ra8 := ra6.kept (.kp k7 b6)
          have hR8 := ra8 x hxm
          have hp8 := k7 _ _ hp6 pb
          refine ⟨_, rfl, x.1, _, 0, .str x.2.name, rfl, rfl, .of hR8, at_of (j := 0) rfl rfl, _, rfl, x.1, _, 2, .int (x.2.b : Nat), rfl, rfl, .of hR8, at_of (j := 2) rfl rfl, _, rfl, x.1, _, 1, .int (x.2.a : Nat), rfl, rfl, .of hR8, at_of (j := 1) rfl rfl, _, rfl, x.1, _, 3, .int (x.2.f : Nat), rfl, rfl, .of hR8, at_of (j := 3) rfl rfl, _, rfl, x.1, _, 5, .int (x.2.l : Nat), rfl, rfl, .of hR8, at_of (j := 5) rfl rfl, _, rfl, x.1, _, 6, .int (x.2.r : Nat), rfl, rfl, .of hR8, at_of (j := 6) rfl rfl, ?_⟩
          refine ⟨eight, fun t nt => ?_⟩
          have etup : ([.str x.2.name, .int (x.2.b : Nat), .int (x.2.a : Nat), .int (x.2.f : Nat), .int 0, .int (x.2.l : Nat), .int (x.2.r : Nat), .int 0] : List V) = (turn1 x.2).tup := by
            unfold BL.Rd.tup turn1
            show _ = [_, _, _, _, V.int (if x.2.two = true then _ else 0), _, _, V.int (if x.2.two = true then 1 else 0)]
            rw [htw]
            rfl
          rw [etup]
          have pt : p ≠ t := ne_of_none hp8 nt
          have hp9 := (upd_ne (o := .tup (turn1 x.2).tup) pt).trans hp8
          refine ⟨_, rfl, _, rfl, p, _, _, A.length, rfl, rfl, hp9, ixN_nat (by rw [List.length_map, List.length_append, List.length_cons]; omega), ?_⟩
          have k9 : Kp b H (L2.upd H7 t (.tup (turn1 x.2).tup)) := (K6.trans k7).trans (Kp.new nt)
          have b9 : BagAt (L2.upd H7 t (.tup (turn1 x.2).tup)) b c := b7.new nt
          have ra9 : RoadsAt (L2.upd H7 t (.tup (turn1 x.2).tup)) (A ++ x :: B) := ra8.kept (.new nt)
          have ht9 := upd_same (H := H7) (a := t) (o := .tup (turn1 x.2).tup)
          generalize (L2.upd H7 t (.tup (turn1 x.2).tup)) = H9 at hp9 k9 b9 ra9 ht9
          refine ⟨p, A ++ (t, turn1 x.2) :: B, _, _, _, _, _, rfl, ?_, k9.put np, b9.put pb pc', np, ?_, fun y hy => ?_⟩
          · have := B1.turn htw
            rw [List.map_append]
            exact this
          · rw [upd_same]
            congr 1
            rw [List.map_append, List.map_append]
            show HO.lst ((A.map (fun x => V.ref x.1) ++ V.ref x.1 :: B.map fun x => V.ref x.1).set A.length (.ref t)) = _
            congr 1
            have := set_split (a := A.map fun x => V.ref x.1) (b := B.map fun x => V.ref x.1) (x := V.ref x.1) (y := V.ref t)
            rw [List.length_map] at this
            exact this
          · refine (upd_ne ?_).trans ?_
            · rcases List.mem_append.mp hy with q | q
              · exact ne_of_ob (ra9 y (List.mem_append_left _ q)) hp9 (by simp)
              · rcases List.mem_cons.mp q with rfl | q
                · exact pt.symm
                · exact ne_of_ob (ra9 y (List.mem_append_right _ (List.mem_cons_of_mem _ q))) hp9 (by simp)
            · rcases List.mem_append.mp hy with q | q
              · exact ra9 y (List.mem_append_left _ q)
              · rcases List.mem_cons.mp q with rfl | q
                · exact ht9
                · exact ra9 y (List.mem_append_right _ (List.mem_cons_of_mem _ q))
        · have hR8 := (ra6.kept (.kp k7 b6)) x hxm
          refine ⟨_, rfl, x.1, _, 7, .int (if x.2.two = true then 1 else 0), rfl, rfl, .of hR8, at_of (j := 7) rfl rfl, rfl, _, rfl, ?_⟩
          rw [htw]
          refine iteI (fun _ => ?_) (fun e => absurd (by simp) e)
          have he8 := k7 _ _ he6 (b6.ints (l := [((x.2.a : Nat) : Int), ((x.2.b : Nat) : Int)]) he6)
          refine ⟨_, rfl, e, rfl, ⟨_, SqL.of he8⟩, fun D nD => lc_selL [x.2.a, x.2.b] (fun y : Nat => V.int (y : Nat)) (fun y => decide (0 < ((A ++ B).filter fun z : Addr × BL.Rd => decide (z.2.a = y ∨ z.2.b = y)).length)) (fun y : Nat => V.int (y : Nat)) rfl (by simp) nD (SqL.of he8) (fun y G hy s T N hT hN => ?_) fun H8 hD s8 => ?_⟩
          · have h3y := s _ _ (k7 _ _ h3 (hb.nb n30))
            refine ⟨rfl, _, rfl, p3, rfl, ⟨_, SqL.of h3y⟩, fun D2 nD2 => lc_selL (A ++ B) (fun x => V.ref x.1) (fun z : Addr × BL.Rd => decide (z.2.a = y ∨ z.2.b = y)) (fun x => V.ref x.1) rfl (by rw [List.length_append]; rw [List.length_append, List.length_cons] at rl; omega) nD2 (SqL.of h3y) (fun z G2 hz s2 T2 N2 hT2 hN2 => ?_) fun G3 hD2 s3 => ?_⟩
            · have hzt := s2 _ _ (s _ _ ((ra7.kept (.kp k7 b6)) z hz))
              refine ⟨rfl, _, rfl, _, rfl, 1, rfl, 3, rfl, z.1, _, rfl, .of hzt, fun q => absurd (show (1 : Nat) = 0 from q.1) (by decide), fun pt npt => ?_⟩
              have ec : cutV z.2.tup (some 1) (some 3) = [.int (z.2.a : Nat), .int (z.2.b : Nat)] := rfl
              rw [ec]
              refine ⟨pt, _, rfl, .inr (.of upd_same), rfl, rfl, _, rfl, ?_⟩
              have ei : inV (.int (y : Nat)) [.int (z.2.a : Nat), .int (z.2.b : Nat)] = decide (z.2.a = y ∨ z.2.b = y) := by
                show ((((z.2.a : Nat) : Int) == ((y : Nat) : Int)) || ((((z.2.b : Nat) : Int) == ((y : Nat) : Int)) || false)) = _
                rw [Bool.or_false]
                by_cases h1 : z.2.a = y
                · simp [h1]
                · by_cases h2 : z.2.b = y
                  · simp [h2]
                  · have n1 : ¬ ((z.2.a : Nat) : Int) = ((y : Nat) : Int) := by omega
                    have n2 : ¬ ((z.2.b : Nat) : Int) = ((y : Nat) : Int) := by omega
                    simp [h1, h2, n1, n2]
              show (if (inV (.int (y : Nat)) [.int (z.2.a : Nat), .int (z.2.b : Nat)]) = true then _ else _)
              rw [ei]
              cases hd : decide (z.2.a = y ∨ z.2.b = y) with
              | true => exact iteB (fun _ => ⟨_, rfl, hT2 hd _ (Same.new npt)⟩) (fun e => by cases e)
              | false => exact iteB (fun e => by cases e) (fun _ => hN2 hd _ (Same.new npt))
            · refine ⟨D2, _, rfl, .inl (SqL.of hD2), ?_⟩
              rw [List.length_map]
              refine ⟨_, _, rfl, rfl, _, rfl, iteD (fun e => ⟨_, rfl, hT (decide_eq_true ?_) _ s3⟩) (fun e => hN (decide_eq_false ?_) _ s3)⟩
              · have e : (0 : Int) < _ := e
                omega
              · have e : ¬ (0 : Int) < _ := e
                omega
          · refine ⟨D, _, rfl, .inl (SqL.of hD), ?_⟩
            rw [List.length_map]
            have k8 := k7.trans (Kp.of s8)
            have b8 := b7.kept s8
            refine ⟨rfl, _, rfl, iteI (fun eq => ?_) (fun _ => ⟨p, _, _, _, _, _, _, rfl, stay k8 b8⟩)⟩
            have hb2 : ∀ y ∈ [x.2.a, x.2.b], 0 < ((A ++ B).filter fun z : Addr × BL.Rd => decide (z.2.a = y ∨ z.2.b = y)).length := by
              have hl : ([x.2.a, x.2.b].filter fun y => decide (0 < ((A ++ B).filter fun z : Addr × BL.Rd => decide (z.2.a = y ∨ z.2.b = y)).length)).length = [x.2.a, x.2.b].length := by
                show _ = 2
                omega
              have hs := List.filter_sublist (l := [x.2.a, x.2.b]) (p := fun y => decide (0 < ((A ++ B).filter fun z : Addr × BL.Rd => decide (z.2.a = y ∨ z.2.b = y)).length))
              intro y hy
              have := List.filter_eq_self.mp (hs.eq_of_length hl) y hy
              exact of_decide_eq_true this
            refine ⟨_, rfl, p3, A ++ B, _, _, _, _, _, rfl, ?_, K6.trans k8, b8, n30, k8 _ _ h3 (hb.nb n30), ra7.kept (.kp k8 b6)⟩
            rw [List.map_append]
            exact B1.drop htw (tch (hb2 _ (by simp))) (tch (hb2 _ (by simp)))
    rintro σ H3 ⟨p, rs1, o3, o4, o5, o6, o7, rfl, B1, k3, b3, np, hp, ra⟩
    have W3 := W.keptC (k3.c hb)
    refine ⟨_, rfl, wA, _, 0, _, rfl, rfl, SqL.of W3.hw, at_of (j := 0) rfl rfl, _, rfl, two, fun w2 nw => ?_⟩
    have sw := Same.new (o := .lst [.ref pc, .ref p]) nw
    exact k w2 p rs1 _ B1 (k3.trans (Kp.of sw)) (b3.kept sw) ⟨upd_same, sw _ _ W3.hc, sw _ _ hp, W3.ca.kept (.same sw), ra.kept (.same sw)⟩
end K02
set_option maxRecDepth 100000
set_option maxHeartbeats 4000000
namespace K02
open PySem PySem.Spec PyProof.Rows L2 He BL SX
local macro_rules | `(tactic| walk_at "ar") => `(tactic| first
  | exact Or.inl ⟨by omega, by omega⟩
  | exact Or.inr ⟨by omega, by omega⟩
  | exact ⟨by omega, by omega⟩
  | exact ⟨by omega, by omega, by omega⟩
  | exact ⟨by decide, by decide, by decide⟩
  | exact Nat.le_of_ble_eq_true rfl
  | exact rfl
  | omega
  | decide
  | fail)
local macro_rules | `(tactic| walk_at "ne") => `(tactic| first
  | assumption
  | (apply Ne.symm; assumption)
  | (refine ne_of_none ?_ (by assumption); walk_at "hp")
  | (apply Ne.symm; refine ne_of_none ?_ (by assumption); walk_at "hp")
  | fail)
local macro_rules | `(tactic| walk_at "hp") => `(tactic| first
  | assumption
  | exact upd_same
  | (refine (upd_ne ?_).trans ?_; · walk_at "ne"; · walk_at "hp")
  | (refine BL.Kp.at (by assumption) ?_ ?_; · walk_at "hp"; · walk_at "ne")
  | (refine BL.Same.at (by assumption) ?_; walk_at "hp")
  | fail)
local macro_rules | `(tactic| walk_at "rd1") => `(tactic| first
  | refine ⟨_, rfl, ?_⟩
  | refine ⟨_, _, rfl, rfl, ?_⟩
  | refine Or.inl ⟨_, rfl, ?_⟩
  | (refine ⟨_, _, _, _, rfl, rfl, SqL.of (by walk_at "hp"), rfl, ?_⟩)
  | (refine ⟨_, _, _, _, rfl, rfl, (by walk_at "hp"), rfl, ?_⟩)
  | (refine And.intro (by walk_at "ar") ?_)
  | fail)
local macro_rules | `(tactic| walk_at "rd") => `(tactic| (walk_at "rd1"; repeat' walk_at "rd1"))

variable {P : Program} {w : World} {K : PySem.W.Frag} {mg : Str → Option Value} {base : Heap}
theorem sc__law_rounds : FnScope ["bag", "w", "cross", "roads", "k", "ring", "many", "names", "j", "item", "r"] ["bag", "w"] (defScope s__law_rounds) := ⟨rfl, rfl, rfl, by decide +kernel, rfl, by decide +kernel, by decide +kernel⟩
abbrev sp__law_rounds : Sp := fun vs H Q _ => ∃ (b c wA pc pr : Addr) (cs : List (Addr × Str × V)) (rs : List (Addr × BL.Rd)), vs = [.ref b, .ref wA] ∧ BagAt H b c ∧ WAt H wA pc pr cs rs ∧ wA ≠ b ∧ pc ≠ b ∧ pr ≠ b ∧ WorldOk (cs.map (·.2)) (rs.map (·.2)) ∧
  ∀ (w' pc' pr' : Addr) (cs' : List (Addr × Str × V)) (rs' : List (Addr × BL.Rd)) (H' : Hp), WorldOk (cs'.map (·.2)) (rs'.map (·.2)) → Kp b H H' → BagAt H' b c → WAt H' w' pc' pr' cs' rs' → w' ≠ b → pc' ≠ b → pr' ≠ b → Q (.ref w') H'
theorem cal__law_rounds (M : Md K mg) : C8.Cal P w K mg base 5 "_law_rounds" sp__law_rounds [] := by
  refine cal_of (F__law_rounds M) (g__law_rounds M) sc__law_rounds (fun _ _ _ _ _ _ us hl => match us, hl with | [_, _], _ => rfl) (fun vs H Q E h => ?_) (fun cdv A outer s H vs Q E hr h => ?_)
  · obtain ⟨b, c, wA, pc, pr, cs, rs, rfl, _⟩ := h
    rfl
  · obtain ⟨b, c, wA, pc, pr, cs, rs, rfl, hb, W, wb, cb, rb, ok, k⟩ := h
    refine ⟨_, (pss_cons (ps_par (i := 2) (j := 3) rfl sc__law_rounds.nd rfl rfl (by decide) rfl rfl (pa_cons (pe_callTy call_list_of (by rfl) (b_list M) (by decide +kernel) (pa_cons (pe_ix ix_list (pv 1) pe_int (fun _ _ => rfl)) pa_nil)) (pa_cons (pe_callTy call_list_of (by rfl) (b_list M) (by decide +kernel) (pa_cons (pe_ix ix_list (pv 1) pe_int (fun _ _ => rfl)) pa_nil)) pa_nil)) (by rfl))
  (pss_cons (ps_for PassesOwn.never rfl (pi_range1 rfl (b_range M) (pa_cons (pe_op op_add pe_int (C8.pe_c (cal__law_draw M) hr (by decide) rfl (pa_cons (pv 0) (pa_cons pe_int pa_nil)))) pa_nil)) (pg_name (i := 4) sc__law_rounds.nd rfl (Or.inl rfl)) (pss_cons (ps_set (i := 5) sc__law_rounds.nd rfl (Or.inl rfl) (pe_slice sl_list (C8.pe_c (cal__law_mixed M) hr (by decide) rfl (pa_cons (pv 0) (pa_cons (pe_listRg rfl rfl (b_list M) (prg_1 rfl (b_range M) (pe_callB call_len_seq (by rfl) (b_len M) PySem.boot_len (pa_cons (pv 2) pa_nil)))) pa_nil))) po_none (po_some (pe_op op_add pe_int (C8.pe_c (cal__law_draw M) hr (by decide) rfl (pa_cons (pv 0) (pa_cons pe_int pa_nil)))))))
  (pss_cons (ps_set (i := 6) sc__law_rounds.nd rfl (Or.inl rfl) (pe_callB call_len_seq (by rfl) (b_len M) PySem.boot_len (pa_cons (pe_lc (own := [("r", 10)]) (g := (gName 10)) (tt := (tTest (tOp rEq (tOp (rIxT K) (tVar 10) (tC (.int 7))) (tC (.int 0))))) (te := (tVar 10)) rfl sc__law_rounds.nd (pi_list (pv 3)) (blkOk_by (N := ["bag", "w", "cross", "roads", "k", "ring", "many", "names", "j", "item", "r"]) (by kernel_rfl)) (fun _ _ _ _ _ => (pg_name (i := 10) sc__law_rounds.nd rfl (Or.inl rfl))) (fun _ _ _ _ _ => (pts_one (pt_cmpR op_eq (pe_ix ix_tup (pv 10) pe_int (fun _ _ => rfl)) pe_int (nomark _)))) (fun _ _ _ _ _ => (pv 10))) pa_nil)))
  (pss_one (ps_if (pt_cmpR op_le (pe_op op_add (pv 6) (pe_callB call_len_seq (by rfl) (b_len M) PySem.boot_len (pa_cons (pv 5) pa_nil))) pe_int (nomark _)) (pss_cons (ps_set (i := 7) sc__law_rounds.nd rfl (Or.inl rfl) (C8.pe_c (cal__law_fresh M) hr (by decide) rfl (pa_cons (pv 0) (pa_cons (pe_callB call_len_seq (by rfl) (b_len M) PySem.boot_len (pa_cons (pv 5) pa_nil)) (pa_cons (pe_lc (own := [("r", 10)]) (g := (gName 10)) (tt := tYes) (te := (tOp (rIxT K) (tVar 10) (tC (.int 0)))) rfl sc__law_rounds.nd (pi_list (pv 3)) (blkOk_by (N := ["bag", "w", "cross", "roads", "k", "ring", "many", "names", "j", "item", "r"]) (by kernel_rfl)) (fun _ _ _ _ _ => (pg_name (i := 10) sc__law_rounds.nd rfl (Or.inl rfl))) (fun _ _ _ _ _ => pts_nil) (fun _ _ _ _ _ => (pe_ix ix_tup (pv 10) pe_int (fun _ _ => rfl)))) pa_nil)))))
  (pss_one (ps_for PassesOwn.never rfl (pi_range1 rfl (b_range M) (pa_cons (pe_callB call_len_seq (by rfl) (b_len M) PySem.boot_len (pa_cons (pv 5) pa_nil)) pa_nil)) (pg_name (i := 8) sc__law_rounds.nd rfl (Or.inl rfl)) (pss_cons (ps_set (i := 9) sc__law_rounds.nd rfl (Or.inl rfl) (pe_tup (pa_cons (pe_ix ix_list (pv 7) (pv 8) (fun _ _ => rfl)) (pa_cons (pe_ix ix_list (pv 5) (pe_op op_sub (pv 8) pe_int) (fun _ _ => rfl)) (pa_cons (pe_ix ix_list (pv 5) (pv 8) (fun _ _ => rfl)) (pa_cons (pe_op op_add pe_int (C8.pe_c (cal__law_draw M) hr (by decide) rfl (pa_cons (pv 0) (pa_cons pe_int pa_nil)))) (pa_cons pe_int (pa_cons pe_int (pa_cons pe_int (pa_cons pe_int pa_nil))))))))))
  (pss_cons (ps_expr (pe_bm PySem.F.plainAttrs_list PySem.F.slot_list_insert PySem.F.type_list_insert mt_insert (pv 3) (pa_cons (C8.pe_c (cal__law_draw M) hr (by decide) rfl (pa_cons (pv 0) (pa_cons (pe_op op_add (pe_callB call_len_seq (by rfl) (b_len M) PySem.boot_len (pa_cons (pv 3) pa_nil)) pe_int) pa_nil))) (pa_cons (pv 9) pa_nil))))
  (pss_one (ps_asg (pe_tup (pa_cons (pe_ix ix_tup (pe_ix ix_list (pv 2) (pe_ix ix_list (pv 5) (pv 8) (fun _ _ => rfl)) (fun _ _ => rfl)) pe_int (fun _ _ => rfl)) (pa_cons pe_str pa_nil))) (pg_sub (pv 2) (pe_ix ix_list (pv 5) (pv 8) (fun _ _ => rfl)) set_list)))))))) pss_nil)))))
  (pss_one (ps_ret (pe_lst (pa_cons (pv 2) (pa_cons (pv 3) pa_nil))))))), ?_⟩
    have sl0 : sizeLine = 16777216 := rfl
    refine ⟨_, rfl, wA, _, 0, _, rfl, rfl, SqL.of W.hw, at_of (j := 0) rfl rfl, pc, _, rfl, .inl (SqL.of W.hc), fun p1 n1 => ?_⟩
    have W1 := W.kept (Same.new (o := .lst (cs.map fun x => V.ref x.1)) n1)
    refine ⟨_, rfl, wA, _, 1, _, rfl, rfl, SqL.of W1.hw, at_of (j := 1) rfl rfl, pr, _, rfl, .inl (SqL.of W1.hr), fun p2 n2 => ?_⟩
    have s2 := (Same.new (o := .lst (cs.map fun x => V.ref x.1)) n1).trans (Same.new (o := .lst (rs.map fun x => V.ref x.1)) n2)
    have h1 : (L2.upd (L2.upd H p1 (.lst (cs.map fun x => V.ref x.1))) p2 (.lst (rs.map fun x => V.ref x.1))) p1 = some (.lst (cs.map fun x => V.ref x.1)) := (Same.new n2) _ _ upd_same
    have h2 : (L2.upd (L2.upd H p1 (.lst (cs.map fun x => V.ref x.1))) p2 (.lst (rs.map fun x => V.ref x.1))) p2 = some (.lst (rs.map fun x => V.ref x.1)) := upd_same
    have n20 : H p2 = none := upd_free n2
    have n12 : p1 ≠ p2 := ne_of_none upd_same n2
    refine ⟨_, _, rfl, ?_⟩
    generalize (L2.upd (L2.upd H p1 (.lst (cs.map fun x => V.ref x.1))) p2 (.lst (rs.map fun x => V.ref x.1))) = H1 at s2 h1 h2
    have b1 := hb.kept s2
    refine ⟨_, rfl, b, c, 3, rfl, b1, by decide, by decide, fun r3 H2 r30 r31 k2 b2 => ?_⟩
    have S0 : RdSt H H2 b c p1 p2 cs rs := ⟨(Kp.of s2).trans k2, b2, n1, n20, n12, hb.nb n1, hb.nb n20, hb.nc n1, hb.nc n20, k2 _ _ h1 (hb.nb n1), k2 _ _ h2 (hb.nb n20), (W.ca.kept (.same s2)).kept (.kp k2 b1), (W.ra.kept (.same s2)).kept (.kp k2 b1)⟩
    clear s2 h1 h2 b1 k2 b2 n1 n2 n20 n12
    refine ⟨_, _, rfl, rfl, _, rfl, by omega, by omega, ?_⟩
    refine for_range (n := (1 + r3).toNat) (fun i σ H1 => ∃ (cs1 : List (Addr × Str × V)) (rs1 : List (Addr × BL.Rd)) (o4 o5 o6 o7 o8 o9 : Option V), σ = [some (.ref b), some (.ref wA), some (.ref p1), some (.ref p2), o4, o5, o6, o7, o8, o9, none] ∧ RdSt H H1 b c p1 p2 cs1 rs1 ∧ WorldOk (cs1.map (·.2)) (rs1.map (·.2))) ⟨cs, rs, none, none, none, none, none, none, rfl, S0, ok⟩ ?_ ?_
    · clear W S0 ok W1 k H2
      clear cs rs
      rintro i σ H1 hi ⟨cs, rs, o4, o5, o6, o7, o8, o9, rfl, S1, ok⟩
      have csl : cs.length ≤ 24 := by have := ok.hi; rwa [List.length_map] at this
      have csl2 : 2 ≤ cs.length := by have := ok.lo; rwa [List.length_map] at this
      have rl48 : rs.length ≤ 48 := by
        have h1 := ok.st
        have h2 := ok.ow
        have h3 := len_two (rs.map (·.2))
        rw [List.length_map] at h3
        omega
      -- ring
      refine ⟨_, rfl, _, rfl, p1, _, rfl, .inl (SqL.of S1.h1), ?_⟩
      rw [List.length_map]
      refine ⟨_, rfl, RgOk.of_le (by decide) (by omega) (by decide) (by omega), fun q nq => ?_⟩
      rw [rgV_nat]
      have S2 := S1.new (o := .lst ((List.range cs.length).map fun x => V.int (x : Nat))) nq
      refine ⟨b, c, q, _, rfl, S2.bag, upd_same, S1.bag.nb nq, by rw [List.length_map, List.length_range]; omega, fun p ys H3 hp k3 b3 n3 h3 => ?_⟩
      have S3 := S2.step k3 b3
      obtain ⟨l, lp, rfl⟩ := perm_ints hp
      have lnd : l.Nodup := lp.nodup_iff.mpr List.nodup_range
      have llen : l.length = cs.length := by rw [lp.length_eq, List.length_range]
      have lmem : ∀ x, x ∈ l ↔ x < cs.length := fun x => lp.mem_iff.trans List.mem_range
      have npb : p ≠ b := S2.bag.nb n3
      refine ⟨_, rfl, b, c, 3, rfl, b3, by decide, by decide, fun r H4 r0 r1 k4 b4 => ?_⟩
      obtain ⟨t, rfl⟩ : ∃ t : Nat, r = (t : Int) := ⟨r.toNat, by omega⟩
      have S4 := S3.step k4 b4
      refine ⟨_, _, rfl, rfl, _, rfl, p, _, rfl, SqL.of (k4 _ _ h3 npb), fun p5 n5 => ?_⟩
      rw [show (2 + (t : Int)) = ((2 + t : Nat) : Int) by omega, cut_to, ← List.map_take]
      have S5 := S4.new (o := .lst ((l.take (2 + t)).map fun x => V.int (x : Nat))) n5
      have h5 : (L2.upd H4 p5 (.lst ((l.take (2 + t)).map fun x => V.int (x : Nat)))) p5 = some (.lst ((l.take (2 + t)).map fun x => V.int (x : Nat))) := upd_same
      have p5b := S4.bag.nb n5
      have l2 : 2 ≤ (l.take (2 + t)).length := by rw [List.length_take]; omega
      have l4 : (l.take (2 + t)).length ≤ 4 := by rw [List.length_take]; omega
      have lnd' : (l.take (2 + t)).Nodup := lnd.sublist (List.take_sublist _ _)
      have lm : ∀ x ∈ l.take (2 + t), x < cs.length := fun x hx => (lmem x).mp (List.mem_of_mem_take hx)
      have n5H : H p5 = none := S4.kp.free n5 p5b
      have p5c := S4.bag.nc n5
      have e51 : p1 ≠ p5 := ne_of_none S4.h1 n5
      have e52 : p2 ≠ p5 := ne_of_none S4.h2 n5
      generalize (L2.upd H4 p5 (.lst ((l.take (2 + t)).map fun x => V.int (x : Nat)))) = H5 at S5 h5
      generalize l.take (2 + t) = l' at h5 l2 l4 lnd' lm
      clear S1 S2 S3 S4 lp lnd llen lmem n3 h3 hp k3 k4 b3 b4 nq n5
      -- many
      refine ⟨_, rfl, p2, rfl, ⟨_, SqL.of S5.h2⟩, fun D nD => ?_⟩
      refine lc_list (K := K) (a := p2) (xs := rs.map fun x => V.ref x.1) (fun i H6 => H6 = L2.upd H5 D (.lst (((rs.take i).filter (fun r => !r.2.two)).map fun x => V.ref x.1))) rfl ?_ ?_ ?_
      · rintro i H6 _ rfl
        exact SqL.of ((S5.new nD).h2)
      · rintro j x H6 hx rfl
        obtain ⟨r, hri, rfl⟩ := at_map hx
        have hR := (S5.new (o := .lst (((rs.take j).filter (fun r => !r.2.two)).map fun x => V.ref x.1)) nD).ra r (List.mem_of_getElem? hri)
        refine ⟨rfl, _, rfl, r.1, _, 7, .int (if r.2.two = true then 1 else 0), rfl, rfl, .of hR, at_of (j := 7) rfl rfl, rfl, _, rfl, ?_⟩
        cases htw : r.2.two with
        | true =>
          refine iteB (fun e => by cases e) (fun _ => ?_)
          rw [take_snoc hri, List.filter_append]
          simp [htw]
        | false =>
          refine iteB (fun _ => ?_) (fun e => by cases e)
          refine ⟨_, rfl, _, upd_same, ?_, ?_⟩
          · rw [List.length_map, sl0]
            have := List.length_filter_le (fun r : Addr × BL.Rd => !r.2.two) (rs.take j)
            rw [List.length_take] at this
            omega
          · rw [upd_upd, take_snoc hri, List.filter_append, List.map_append]
            simp [htw]
      rintro H6 rfl
      rw [List.length_map, List.take_length]
      have S6 := S5.new (o := .lst ((rs.filter (fun r => !r.2.two)).map fun x => V.ref x.1)) nD
      have h6 := (Same.new (o := .lst ((rs.filter (fun r => !r.2.two)).map fun x => V.ref x.1)) nD) _ _ h5
      refine ⟨D, _, rfl, .inl (SqL.of upd_same), ?_⟩
      rw [List.length_map]
      have em : (rs.filter (fun r => !r.2.two)).length = ((rs.map (·.2)).filter (!·.two)).length := by rw [List.filter_map, List.length_map]; rfl
      rw [em]
      generalize (L2.upd H5 D (.lst ((rs.filter (fun r => !r.2.two)).map fun x => V.ref x.1))) = H6 at S6 h6
      clear S5 h5 nD em
      generalize hmany : ((rs.map (·.2)).filter (!·.two)).length = many
      refine ⟨_, rfl, _, rfl, p5, _, rfl, .inl (SqL.of h6), ?_⟩
      rw [List.length_map]
      refine ⟨_, _, rfl, rfl, _, _, rfl, rfl, _, rfl, iteD (fun e12 => ?_) (fun _ => ⟨cs, rs, _, _, _, _, _, _, rfl, S6, ok⟩)⟩
      -- names
      refine ⟨_, rfl, _, rfl, p5, _, rfl, .inl (SqL.of h6), ?_⟩
      rw [List.length_map]
      refine ⟨_, rfl, p2, rfl, ⟨_, SqL.of S6.h2⟩, fun D nD => ?_⟩
      refine lc_list (K := K) (a := p2) (xs := rs.map fun x => V.ref x.1) (fun i H7 => H7 = L2.upd H6 D (.lst (((rs.take i).map fun x => x.2.name).map V.str))) rfl ?_ ?_ ?_
      · rintro i H7 _ rfl
        exact SqL.of ((S6.new nD).h2)
      · rintro j x H7 hx rfl
        obtain ⟨r, hri, rfl⟩ := at_map hx
        have hR := (S6.new (o := .lst (((rs.take j).map fun x => x.2.name).map V.str)) nD).ra r (List.mem_of_getElem? hri)
        refine ⟨rfl, _, rfl, r.1, _, 0, .str r.2.name, rfl, rfl, .of hR, at_of (j := 0) rfl rfl, _, upd_same, ?_, ?_⟩
        · rw [List.length_map, List.length_map, List.length_take, sl0]; omega
        · rw [upd_upd, take_snoc hri, List.map_append, List.map_append]; rfl
      rintro H7 rfl
      rw [List.length_map, List.take_length]
      have S7 := S6.new (o := .lst ((rs.map fun x => x.2.name).map V.str)) nD
      have h7 := (Same.new (o := .lst ((rs.map fun x => x.2.name).map V.str)) nD) _ _ h6
      refine ⟨b, c, D, l'.length, rs.map fun x => x.2.name, rfl, S7.bag, upd_same, by omega, by rw [List.length_map]; omega, fun pm ns H8 nl nok nnd nf k8 b8 n8 h8 => ?_⟩
      have S8 := S7.step k8 b8
      have pmb := S7.bag.nb n8
      have nl : ns.length = l'.length := nl
      have pmc := S7.bag.nc n8
      have n8H : H pm = none := S7.kp.free n8 pmb
      have em1 : p1 ≠ pm := ne_of_none S7.h1 n8
      have em2 : p2 ≠ pm := ne_of_none S7.h2 n8
      have h5 := k8 _ _ h7 p5b
      clear k8 b8 n8 S7 h7 S6 h6 nD
      refine ⟨_, rfl, p5, _, rfl, .inl (SqL.of h5), ?_⟩
      rw [List.length_map]
      refine ⟨_, rfl, by omega, by omega, ?_⟩
      refine for_range (n := l'.length) (fun j σ H9 => ∃ (cs1 : List (Addr × Str × V)) (rs1 : List (Addr × BL.Rd)) (news : List BL.Rd) (o8 o9 : Option V), σ = [some (.ref b), some (.ref wA), some (.ref p1), some (.ref p2), some (.int (0 + (i : Nat))), some (.ref p5), some (.int (many : Nat)), some (.ref pm), o8, o9, none] ∧ RdSt H H9 b c p1 p2 cs1 rs1 ∧ InSt cs cs1 rs rs1 l' ns j news ∧ H9 p5 = some (.lst (l'.map fun x => V.int (x : Nat))) ∧ H9 pm = some (.lst (ns.map .str))) ⟨cs, rs, [], _, _, rfl, S8, .zero fun x hx => ok.ck _ (List.mem_map.mpr ⟨x, hx, rfl⟩), h5, h8⟩ ?_ ?_
      · clear S8 h5 h8
        rintro j σ H9 hj ⟨cs1, rs1, news, o8, o9, rfl, S9, I9, h5, h8⟩
        have hns : ns[j]? = some (ns[j]'(by omega)) := List.getElem?_eq_getElem (by omega)
        generalize hz : ns[j]'(by omega) = z at hns
        have zok : NameOk z := nok z (List.mem_of_getElem? hns)
        have hlj : l'.getD j 0 < cs.length := lm _ (by rw [List.getD_eq_getElem?_getD, List.getElem?_eq_getElem hj]; exact List.getElem_mem hj)
        have cl1 : cs1.length = cs.length := by have := congrArg List.length I9.cn; rwa [List.length_map, List.length_map] at this
        have rl1 : rs1.length < 1000 := by
          have h1 := I9.p.length_eq
          have h2 := congrArg List.length I9.nn
          rw [List.length_map, List.length_append, List.length_map] at h1
          rw [List.length_map, List.length_take] at h2
          omega
        refine ⟨_, rfl, _, rfl, pm, _, _, _, rfl, rfl, SqL.of h8, at_of (j := j) (by omega) (show (ns.map V.str)[j]? = some (.str z) by rw [List.getElem?_map, hns]; rfl), ?_⟩
        refine ⟨_, rfl, _, rfl, _, _, rfl, rfl, p5, _, _, _, rfl, rfl, SqL.of h5, ring_prev hj, ?_⟩
        refine ⟨_, rfl, _, rfl, p5, _, _, _, rfl, rfl, SqL.of h5, at_of (j := j) (by omega) (nat_at hj), ?_⟩
        refine ⟨_, rfl, b, c, 6, rfl, S9.bag, by decide, by decide, fun r1 H10 r10 r11 k10 b10 => ?_⟩
        refine ⟨_, _, rfl, rfl, Nat.le_of_ble_eq_true rfl, fun pt npt => ?_⟩
        have S10 := S9.step k10 b10
        obtain ⟨it, hit⟩ : ∃ it : BL.Rd, it = BL.Rd.mk z (l'.getD ((j + l'.length - 1) % l'.length) 0) (l'.getD j 0) (1 + r1).toNat 1 1 2 false := ⟨_, rfl⟩
        have etup : ([.str z, .int (l'.getD ((j + l'.length - 1) % l'.length) 0 : Nat), .int (l'.getD j 0 : Nat), .int (1 + r1), .int 0, .int 1, .int 2, .int 0] : List V) = it.tup := by
          rw [hit]
          unfold BL.Rd.tup
          show _ = [V.str z, V.int _, V.int _, V.int ((1 + r1).toNat : Nat), V.int 0, V.int 1, V.int 2, V.int 0]
          rw [show (((1 + r1).toNat : Nat) : Int) = 1 + r1 by omega]
        have nr : NewR it := by rw [hit]; exact ⟨zok, by simp only; omega, by simp only; omega, by simp only; omega, by simp only; omega, by simp only; omega, by simp only; omega, by simp only; omega⟩
        rw [etup]
        have S11 := S10.new (o := .tup it.tup) npt
        have t11 : (L2.upd H10 pt (.tup it.tup)) pt = some (.tup it.tup) := upd_same
        have h5' := (Same.new (o := .tup it.tup) npt) _ _ (k10 _ _ h5 p5b)
        have h8' := (Same.new (o := .tup it.tup) npt) _ _ (k10 _ _ h8 pmb)
        generalize (L2.upd H10 pt (.tup it.tup)) = H11 at S11 t11 h5' h8'
        clear S9 S10 h5 h8 k10 b10 npt
        refine ⟨_, rfl, .inl ⟨rfl, _, SqL.of S11.h2⟩, _, rfl, _, rfl, p2, _, rfl, .inl (SqL.of S11.h2), ?_⟩
        rw [List.length_map]
        refine ⟨_, _, rfl, rfl, b, c, _, rfl, S11.bag, by omega, by omega, fun t H12 t0 t1 k12 b12 => ?_⟩
        have S12 := S11.step k12 b12
        have t12 := k12 _ _ t11 (S11.bag.tup t11)
        have h5 := k12 _ _ h5' p5b
        have h8 := k12 _ _ h8' pmb
        clear S11 t11 h5' h8' k12 b12
        refine ⟨_, rfl, p2, _, t, _, rfl, rfl, S12.h2, by rw [List.length_map, sl0]; omega, t0, by omega, ?_⟩
        have S13 := S12.road (t := t.toNat) t12
        have h5' := (upd_ne (o := .lst ((rs1.map fun x => V.ref x.1).take t.toNat ++ [.ref pt] ++ (rs1.map fun x => V.ref x.1).drop t.toNat)) e52.symm).trans h5
        have h8' := (upd_ne (o := .lst ((rs1.map fun x => V.ref x.1).take t.toNat ++ [.ref pt] ++ (rs1.map fun x => V.ref x.1).drop t.toNat)) em2.symm).trans h8
        generalize (L2.upd H12 p2 (.lst ((rs1.map fun x => V.ref x.1).take t.toNat ++ [.ref pt] ++ (rs1.map fun x => V.ref x.1).drop t.toNat))) = H13 at S13 h5' h8'
        clear S12 t12 h5 h8
        obtain ⟨cx, hcx⟩ : ∃ cx, cs1[l'.getD j 0]? = some cx := ⟨_, List.getElem?_eq_getElem (by omega)⟩
        have hrc : (cs1.map fun x => V.ref x.1)[l'.getD j 0]? = some (.ref cx.1) := by rw [List.getElem?_map, hcx]; rfl
        refine ⟨_, rfl, _, rfl, _, rfl, p5, _, _, _, rfl, rfl, SqL.of h5', at_of (j := j) (by omega) (nat_at hj), p1, _, _, _, rfl, rfl, SqL.of S13.h1, at_of (j := l'.getD j 0) rfl hrc, cx.1, _, 0, _, rfl, rfl, .of (S13.ca cx (List.mem_of_getElem? hcx)), at_of (j := 0) rfl rfl, ?_⟩
        refine ⟨Nat.le_of_ble_eq_true rfl, fun q nq => ?_⟩
        have S14 := S13.new (o := .tup [.str cx.2.1, .str "place"]) nq
        have t14 : (L2.upd H13 q (.tup [.str cx.2.1, .str "place"])) q = some (.tup [.str cx.2.1, .str "place"]) := upd_same
        have h5 := (Same.new (o := .tup [.str cx.2.1, .str "place"]) nq) _ _ h5'
        have h8 := (Same.new (o := .tup [.str cx.2.1, .str "place"]) nq) _ _ h8'
        generalize (L2.upd H13 q (.tup [.str cx.2.1, .str "place"])) = H14 at S14 t14 h5 h8
        refine ⟨_, rfl, _, rfl, _, rfl, p5, _, _, _, rfl, rfl, SqL.of h5, at_of (j := j) (by omega) (nat_at hj), p1, _, _, l'.getD j 0, rfl, rfl, S14.h1, ixN_nat (by rw [List.length_map]; omega), ?_⟩
        refine ⟨_, _, _, _, _, rfl, S14.cross t14, I9.succ hj hns (by rw [hit]) (by rw [hit]) nr hcx, (upd_ne e51.symm).trans h5, (upd_ne em1.symm).trans h8⟩
      · rintro σ H9 ⟨cs1, rs1, news, o8, o9, rfl, S9, I9, _, _⟩
        refine ⟨cs1, rs1, _, _, _, _, _, _, rfl, S9, I9.fin ok l2 l4 lnd' lm nl nnd (fun z hz => ?_) (by omega)⟩
        rw [List.map_map]
        exact nf z hz
    · rintro σ H9 ⟨cs1, rs1, o4, o5, o6, o7, o8, o9, rfl, S9, ok9⟩
      refine ⟨_, rfl, _, rfl, Nat.le_of_ble_eq_true rfl, fun w2 nw => ?_⟩
      have S10 := S9.new (o := .lst [.ref p1, .ref p2]) nw
      exact k w2 p1 p2 cs1 rs1 _ ok9 S10.kp S10.bag ⟨upd_same, S10.h1, S10.h2, S10.ca, S10.ra⟩ (S9.bag.nb nw) S10.b1 S10.b2
end K02
set_option maxRecDepth 100000
set_option maxHeartbeats 2000000
namespace BL
open PySem PySem.Spec PyProof.Rows L2
theorem law_callG {P : Program} {w : World} {K : PySem.W.Frag} {mg mb : Str → Option Value} {k : Nat} {fa a : Addr} {fd : FuncData} {x : Str} {sp : Sp} {s₁ : Shared} {vs : List Value} {ns : List Int}
    (KX : K.In s₁.heap) (hns : s₁.heap.Ns mainGlobals mg) (hb : s₁.heap.Ns builtinsNs mb) (hbb : ∀ x : Str, x ≠ "__name__" → mb x = bootBuiltins x) (hlim : s₁.heap.NoLimit) (hg : s₁.gens = #[])
    (ha : s₁.heap.get? a = some { cls := .type "list", data := .seq vs.toArray }) (hi : IntsAre vs ns) (hl : ns.length ≤ sizeLine) (hr : Room k callerA)
    (F : ∀ base : Heap, K.In base → base.Ns mainGlobals mg → FnG P w K mg base k fa fd [x] sp) (hbind : ∀ (s : Shared) (u : Value), BindsTo s fd ⟨[u], []⟩ [(x, u)])
    (hsp : ∀ H : Hp, Only H → SqL K H a (ns.map V.int) → sp [.ref a] H (fun v _ => v = .bl true) fun _ _ _ => False) :
    codeAny (model P w) callerA (.call (.ref fa) ⟨[.ref a], []⟩) (fun r s' => r = .ok (.ret (.bool true)) ∧ OldK s₁.heap s'.heap ∧ s'.os = s₁.os ∧ AllBare s'.gens) s₁ := by
  have rv := vals_ints hi
  have lenV := hi.length
  -- from an abstract heap in which nothing but the script may be tracked
  have core : ∀ H : Hp, Only H → SqL K H a (ns.map V.int) → HOk P w H s₁.heap → (∀ b, H b ≠ none → b = a) → (H a ≠ none → K.lookup a = none) →
      codeAny (model P w) callerA (.call (.ref fa) ⟨[.ref a], []⟩) (fun r s' => r = .ok (.ret (.bool true)) ∧ OldK s₁.heap s'.heap ∧ s'.os = s₁.os ∧ AllBare s'.gens) s₁ := by
    intro H hO hS hok hA hK
    have base_of : ∀ {b : Addr} {o : Obj}, s₁.heap.get? b = some o → H b = none → (hidT s₁.heap H).get? b = some o := fun e n => hidT_get e n
    have noA : ∀ {b : Addr} {o : Obj} {es : Array DictEntry} {ep : Nat}, s₁.heap.get? b = some o → o.data = .dict es ep → H b = none := fun {b o es ep} e d => by
      cases q : H b with
      | none => rfl
      | some u =>
        have e' : b = a := hA b (by rw [q]; simp)
        subst e'
        rw [ha] at e; cases e
        have d' : Data.seq vs.toArray _ = Data.dict es ep := d
        cases d'
    have nsK : ∀ {b : Addr} {m : Str → Option Value}, s₁.heap.Ns b m → (hidT s₁.heap H).Ns b m := fun {b m} ⟨o, es, ep, e, d, r⟩ => ⟨o, es, ep, base_of e (noA e d), d, r⟩
    have hKb : K.In (hidT s₁.heap H) := fun b o e => base_of (KX b o e) (by
      cases q : H b with
      | none => rfl
      | some u =>
        have e' : b = a := hA b (by rw [q]; simp)
        subst e'
        rw [hK (by rw [q]; simp)] at e; cases e)
    have hM : Mod K mg (hidT s₁.heap H) := ⟨hKb, nsK hns, ⟨mb, nsK hb, hbb⟩, let ⟨mc, h1, h2⟩ := hlim; ⟨mc, nsK h1, h2⟩⟩
    have e0 : Env0 P w K mg (hidT s₁.heap H) callerA [] s₁ H := ⟨rfl, hM, fun b o e => of_hidT e, Nat.le_of_eq (hidT_size _ _), trivial, fun b hb => absurd (show b ∈ ([] : List Addr) from hb) (by simp), hok, .of_eq hg⟩
    refine codeAny_mono ((F _ hKb (nsK hns)).run callerA [] s₁ H ⟨[.ref a], []⟩ [.ref a] [.ref a] _ _ hr rfl e0 (hbind s₁ (.ref a)) (.cons rfl .nil) (hsp H hO hS)) fun r s' h => ?_
    cases r with
    | error e => exact False.elim h
    | ok fl =>
      cases fl with
      | next => exact False.elim h
      | brk => exact False.elim h
      | cont => exact False.elim h
      | ret u =>
        obtain ⟨v, H', os, bare, un, hok', r', q⟩ := h
        have q' : v = .bl true := q
        subst q'
        obtain rfl : u = Value.bool true := r'
        refine ⟨rfl, OldK.of_keep fun b o e => ?_, os, bare⟩
        cases q : H b with
        | none => exact un.keep b o e q (by intro z; exact absurd (show b ∈ ([] : List Addr) from z) (by simp)) (by simp)
        | some u =>
          rcases hO b with z | ⟨ob, xs, z⟩
          · rw [q] at z; cases z
          · have z2 := un.frzs b ob _ z
            obtain ⟨e1, _⟩ := hok b _ z
            obtain ⟨e2, _⟩ := hok' b _ z2
            rw [e] at e1; cases e1
            exact e2
  cases hk : K.lookup a with
  | some o =>
    -- the script is one of the module's own objects
    have e := KX a o hk
    rw [ha] at e
    cases e
    refine core (fun _ => none) (fun _ => .inl rfl) (.inr ⟨_, vs.toArray, _, hk, rfl, rfl, rfl, by rw [List.size_toArray, lenV]; exact hl, by simpa using rv⟩) (fun b u z => by have z' : (none : Option HO) = some u := z; cases z') (fun b z => absurd rfl z) fun z => absurd rfl z
  | none =>
    refine core (fun b => if b = a then some (.frz { cls := .type "list", data := .seq vs.toArray } (.lst (ns.map V.int))) else none) (fun b => ?_) (.inl (.inr ⟨{ cls := .type "list", data := .seq vs.toArray }, if_pos rfl⟩)) (fun b u z => ?_) (fun b z => ?_) fun _ => hk
    · by_cases hb : b = a
      · exact .inr ⟨_, _, if_pos hb⟩
      · exact .inl (if_neg hb)
    · by_cases hb : b = a
      · have z' := (if_pos hb).symm.trans z
        cases z'
        subst hb
        exact ⟨ha, by rw [List.length_map]; exact hl, vs, _, rv, ha⟩
      · have z' := (if_neg hb).symm.trans z
        cases z'
    · by_cases hb : b = a
      · exact hb
      · exact absurd (if_neg hb) z

theorem walk_ofG {l : PySem.W.OpenLaw} {n k : Nat} {q : Program} {loose : List Str} {XP : (Str → Option Value) → Heap → Prop} {YP : World → Heap → Prop} {d : DefRec} {x : Str}
    (hn : l.most = some n) (hn2 : n ≤ sizeLine) (hdf : d.params.defaults = []) (hr : Room k callerA)
    (F : ∀ (w : World) (mg : Str → Option Value) (fa : Addr) (h : Heap), YP w h → h.Ns mainGlobals mg → mg d.name = some (.ref fa) →
      ∃ (K : PySem.W.Frag) (fd : FuncData) (sp : Sp), K.In h ∧ (∀ (s : Shared) (u : Value), BindsTo s fd ⟨[u], []⟩ [(x, u)]) ∧
        (∀ (H : Hp) (a : Addr) (ns : List Int), ns.length ≤ n → Only H → SqL K H a (ns.map V.int) → sp [.ref a] H (fun v _ => v = .bl true) fun _ _ _ => False) ∧
        ∀ base : Heap, K.In base → base.Ns mainGlobals mg → FnG l.prog w K mg base k fa fd [x] sp) :
    PySem.W.WalkO q loose XP YP l.row.toRowW d [] (fun f vs => PySem.call f vs) := by
  refine Att.attach_call hn hdf fun w s₀ s₁ mg mb fa o pm cd doc a vs ns G Y ho hd hcd hmg hobj hints hlen hg => ?_
  obtain ⟨K, fd, sp, KX, hb, hsp, hF⟩ := F w mg fa _ Y G.T.g hmg
  exact law_callG KX G.T.g G.T.b G.T.builtins G.T.nolimit hg hobj hints (Nat.le_trans hlen hn2) hr hF hb fun H hO hS => hsp H a ns hlen hO hS
end BL
set_option maxRecDepth 100000
set_option maxHeartbeats 8000000
namespace K02
open PySem PySem.Spec PyProof.Rows L2 He BL SX
local macro_rules | `(tactic| walk_at "ar") => `(tactic| first
  | exact Or.inl ⟨by omega, by omega⟩
  | exact Or.inr ⟨by omega, by omega⟩
  | exact ⟨by omega, by omega⟩
  | exact ⟨by omega, by omega, by omega⟩
  | exact ⟨by decide, by decide, by decide⟩
  | exact Nat.le_of_ble_eq_true rfl
  | exact rfl
  | omega
  | decide
  | fail)
local macro_rules | `(tactic| walk_at "ne") => `(tactic| first
  | assumption
  | (apply Ne.symm; assumption)
  | (refine ne_of_none ?_ (by assumption); walk_at "hp")
  | (apply Ne.symm; refine ne_of_none ?_ (by assumption); walk_at "hp")
  | fail)
local macro_rules | `(tactic| walk_at "hp") => `(tactic| first
  | assumption
  | exact upd_same
  | (refine (upd_ne ?_).trans ?_; · walk_at "ne"; · walk_at "hp")
  | (refine BL.Kp.at (by assumption) ?_ ?_; · walk_at "hp"; · walk_at "ne")
  | (refine BL.Same.at (by assumption) ?_; walk_at "hp")
  | fail)
local macro_rules | `(tactic| walk_at "rd1") => `(tactic| first
  | refine ⟨_, rfl, ?_⟩
  | refine ⟨_, _, rfl, rfl, ?_⟩
  | refine Or.inl ⟨_, rfl, ?_⟩
  | (refine ⟨_, _, _, _, rfl, rfl, SqL.of (by walk_at "hp"), rfl, ?_⟩)
  | (refine ⟨_, _, _, _, rfl, rfl, (by walk_at "hp"), rfl, ?_⟩)
  | (refine And.intro (by walk_at "ar") ?_)
  | fail)
local macro_rules | `(tactic| walk_at "rd") => `(tactic| (walk_at "rd1"; repeat' walk_at "rd1"))

variable {P : Program} {w : World} {K : PySem.W.Frag} {mg : Str → Option Value} {base : Heap}
theorem reS {σ σ' : L2.St} {H : Hp} {B : TS} {D : Ends} (e : σ = σ') (h : B D σ' H) : B D σ H := e ▸ h
theorem nxB {σ : L2.St} {H : Hp} {A B : TS} {D : Ends} {rt : VK} {bk ct : L2.St → Hp → Prop} (h : tSeq A B D σ H) : Ends.nx ⟨tSeq A B D, rt, bk, ct⟩ σ H := h
theorem evenO_ok {cs : List (Str × V)} {rs : List BL.Rd} (ok : WorldOk cs rs) : evenO cs rs = .town := by unfold evenO; rw [ok.ev]
theorem outV_flat (o : Out) : (outV o).all flatB = true := by cases o <;> rfl
structure BJ (H : Hp) (wA pc pr w2 pr2 l : Addr) (cs : List (Addr × Str × V)) (rs rs2 : List (Addr × BL.Rd)) : Prop where
  w : WAt H wA pc pr cs rs
  a : WAt H w2 pc pr2 cs rs2
  l : H l = some (.lst ((linesT (cs.map fun x : Addr × Str × V => x.2) (rs2.map fun x : Addr × BL.Rd => x.2)).map .str))
theorem BJ.kept {H H1 : Hp} {wA pc pr w2 pr2 l : Addr} {cs : List (Addr × Str × V)} {rs rs2 : List (Addr × BL.Rd)} (h : BJ H wA pc pr w2 pr2 l cs rs rs2) (s : L2.Same H H1) : BJ H1 wA pc pr w2 pr2 l cs rs rs2 := ⟨h.w.kept s, h.a.kept s, s _ _ h.l⟩
theorem BJ.keptC {H H1 : Hp} {wA pc pr w2 pr2 l : Addr} {cs : List (Addr × Str × V)} {rs rs2 : List (Addr × BL.Rd)} (h : BJ H wA pc pr w2 pr2 l cs rs rs2) (s : KpC H H1) : BJ H1 wA pc pr w2 pr2 l cs rs rs2 := ⟨h.w.keptC s, h.a.keptC s, s _ _ (cln_strs _) h.l⟩
theorem ne_read {K : PySem.W.Frag} {H : Hp} {p q : Addr} {o : Out} {Q : V → Hp → Prop} (hp : H p = some (.tup (outV o))) (hq : H q = some (.tup (outV o))) (k : Q (.bl false) H) : BL.rNeT K (.ref p) (.ref q) H Q := ⟨p, q, _, rfl, rfl, SqT.of hp, SqT.of hq, outV_flat o, k⟩
theorem sc_law : FnScope ["script", "bag", "w", "step", "away", "where", "lines", "due", "k", "alone", "some", "a", "b", "names", "more", "back", "r", "n"] ["script"] (defScope s_law) := ⟨rfl, rfl, rfl, by decide +kernel, rfl, by decide +kernel, by decide +kernel⟩
abbrev sp_law (K : PySem.W.Frag) : Sp := fun vs H Q _ => ∃ (a : Addr) (ns : List Int), vs = [.ref a] ∧ SqL K H a (ns.map .int) ∧ ns.length ≤ 63 ∧ ∀ H', Q (.bl true) H'
theorem fn_law (M : Md K mg) {fd : FuncData} (F : FunD K "law" "law" (defArgs s_law) (defBody s_law) (defScope s_law) [] [] (ga K "law") fd) : BL.FnG P w K mg base 9 (ga K "law") fd ["script"] (sp_law K) := by
  refine fnG_of F sc_law (fun vs H Q E h => ?_) (fun cdv A outer s H vs Q E hr hgd h => ?_)
  · obtain ⟨a, ns, rfl, _⟩ := h
    rfl
  · obtain ⟨a, ns, rfl, hs, hl, k⟩ := h
    have hu := hu_of hr
    refine ⟨_, (pss_cons (ps_set (i := 1) sc_law.nd rfl (Or.inl rfl) (C8.pe_c (cal__law_bag M) hr (by decide) rfl (pa_cons (pv 0) pa_nil)))
  (pss_cons (ps_set (i := 2) sc_law.nd rfl (Or.inl rfl) (C8.pe_c (cal__law_rounds M) hr (by decide) rfl (pa_cons (pv 1) (pa_cons (C8.pe_c (cal__law_world M) hr (by decide) rfl (pa_cons (pv 1) (pa_cons pe_bl pa_nil))) pa_nil))))
  (pss_cons (ps_if (pt_cmpR (BL.op_neT (Nat.lt_of_succ_lt hu)) (C8.pe_c (cal__law_read M) hr (by decide) rfl (pa_cons (C8.pe_c (cal__law_text M) hr (by decide) rfl (pa_cons (pv 2) pa_nil)) pa_nil)) (pe_tup (pa_cons pe_str pa_nil)) (nomark _)) (pss_one (ps_ret pe_bl)) pss_nil)
  (pss_cons (ps_for PassesOwn.never rfl (pi_range1 rfl (b_range M) (pa_cons pe_int pa_nil)) (pg_name (i := 3) sc_law.nd rfl (Or.inl rfl)) (pss_cons (ps_set (i := 4) sc_law.nd rfl (Or.inl rfl) (C8.pe_c (cal__law_bent M) hr (by decide) rfl (pa_cons (pv 1) (pa_cons (pv 2) pa_nil))))
  (pss_cons (ps_set (i := 5) sc_law.nd rfl (Or.inl rfl) (C8.pe_c (cal__law_first_uneven M) hr (by decide) rfl (pa_cons (pv 4) pa_nil)))
  (pss_cons (ps_set (i := 6) sc_law.nd rfl (Or.inl rfl) (C8.pe_c (cal__law_lines M) hr (by decide) rfl (pa_cons (pv 4) pa_nil)))
  (C8.pss_cut (ps_set (i := 7) sc_law.nd rfl (Or.inl rfl) (pe_ifExp (pt_cmp (pc_isN (pv 5))) (pe_tup (pa_cons pe_str pa_nil)) (pe_tup (pa_cons pe_str (pa_cons (pv 5) pa_nil)))))
  (pss_cons (ps_if (pt_cmpR (BL.op_neT (Nat.lt_of_succ_lt hu)) (C8.pe_c (cal__law_read M) hr (by decide) rfl (pa_cons (pe_join pe_str (pe_op op_cat (pv 6) (pe_lst (pa_cons pe_str pa_nil)))) pa_nil)) (pv 7) (nomark _)) (pss_one (ps_ret pe_bl)) pss_nil)
  (pss_cons (ps_set (i := 8) sc_law.nd rfl (Or.inl rfl) (pe_op op_add pe_int (C8.pe_c (cal__law_draw M) hr (by decide) rfl (pa_cons (pv 1) (pa_cons (pe_op op_sub (pe_callB call_len_seq (by rfl) (b_len M) PySem.boot_len (pa_cons (pv 6) pa_nil)) pe_int) pa_nil)))))
  (pss_cons (ps_if (pt_cmpR (BL.op_neT (Nat.lt_of_succ_lt hu)) (C8.pe_c (cal__law_read M) hr (by decide) rfl (pa_cons (pe_join pe_str (pe_op op_cat (pe_op op_cat (pe_op op_cat (pe_slice sl_list (pv 6) po_none (po_some (pv 8))) (pe_lst (pa_cons pe_str pa_nil))) (pe_slice sl_list (pv 6) (po_some (pv 8)) po_none)) (pe_lst (pa_cons pe_str pa_nil)))) pa_nil)) (pe_tup (pa_cons pe_str (pa_cons (pe_op op_add (pv 8) pe_int) pa_nil))) (nomark _)) (pss_one (ps_ret pe_bl)) pss_nil)
  (pss_cons (ps_setLc (i := 9) (own := [("r", 16)]) (g := (gName 16)) (tt := (tTest (tOp rEq (tOp (rIxT K) (tVar 16) (tC (.int 7))) (tC (.int 0))))) (te := (tVar 16)) rfl sc_law.nd rfl rfl (sw_true rfl rfl rfl (by decide +kernel)) (pi_list (pe_ix ix_list (pv 4) pe_int (fun _ _ => rfl))) (blkOk_by (N := ["script", "bag", "w", "step", "away", "where", "lines", "due", "k", "alone", "some", "a", "b", "names", "more", "back", "r", "n"]) (by kernel_rfl)) (fun _ _ _ _ _ => (pg_name (i := 16) sc_law.nd rfl (Or.inl rfl))) (fun _ _ _ _ _ => (pts_one (pt_cmpR op_eq (pe_ix ix_tup (pv 16) pe_int (fun _ _ => rfl)) pe_int (nomark _)))) (fun _ _ _ _ _ => (pv 16)))
  (pss_cons (ps_set (i := 10) sc_law.nd rfl (Or.inl rfl) (C8.pe_c (cal__law_of M) hr (by decide) rfl (pa_cons (pv 1) (pa_cons (pe_ix ix_list (pv 2) pe_int (fun _ _ => rfl)) pa_nil))))
  (pss_cons (ps_asg (pe_tup (pa_cons (pe_ix ix_list (pe_ix ix_list (pv 2) pe_int (fun _ _ => rfl)) (pe_ix ix_tup (pv 10) pe_int (fun _ _ => rfl)) (fun _ _ => rfl)) (pa_cons (pe_ix ix_list (pe_ix ix_list (pv 2) pe_int (fun _ _ => rfl)) (pe_ix ix_tup (pv 10) pe_int (fun _ _ => rfl)) (fun _ _ => rfl)) pa_nil))) (pg_tup rfl (pgs_cons (pg_name (i := 11) sc_law.nd rfl (Or.inr rfl)) (pgs_cons (pg_name (i := 12) sc_law.nd rfl (Or.inr rfl)) pgs_nil))))
  (pss_cons (ps_set (i := 13) sc_law.nd rfl (Or.inr rfl) (C8.pe_c (cal__law_fresh M) hr (by decide) rfl (pa_cons (pv 1) (pa_cons pe_int (pa_cons (pe_lc (own := [("r", 16)]) (g := (gName 16)) (tt := tYes) (te := (tOp (rIxT K) (tVar 16) (tC (.int 0)))) rfl sc_law.nd (pi_list (pe_ix ix_list (pv 4) pe_int (fun _ _ => rfl))) (blkOk_by (N := ["script", "bag", "w", "step", "away", "where", "lines", "due", "k", "alone", "some", "a", "b", "names", "more", "back", "r", "n"]) (by kernel_rfl)) (fun _ _ _ _ _ => (pg_name (i := 16) sc_law.nd rfl (Or.inl rfl))) (fun _ _ _ _ _ => pts_nil) (fun _ _ _ _ _ => (pe_ix ix_tup (pv 16) pe_int (fun _ _ => rfl)))) pa_nil)))))
  (pss_cons (ps_setLc (i := 14) (own := [("n", 17)]) (g := (gName 17)) (tt := tYes) (te := (tOp (fun x y H Q => ∃ i j, x = .str i ∧ y = .str j ∧ i.length + j.length ≤ sizeLine ∧ Q (.str (i ++ j)) H) (tOp (fun x y H Q => ∃ i j, x = .str i ∧ y = .str j ∧ i.length + j.length ≤ sizeLine ∧ Q (.str (i ++ j)) H) (tOp (fun x y H Q => ∃ i j, x = .str i ∧ y = .str j ∧ i.length + j.length ≤ sizeLine ∧ Q (.str (i ++ j)) H) (tOp (fun x y H Q => ∃ i j, x = .str i ∧ y = .str j ∧ i.length + j.length ≤ sizeLine ∧ Q (.str (i ++ j)) H) (tOp (fun x y H Q => ∃ i j, x = .str i ∧ y = .str j ∧ i.length + j.length ≤ sizeLine ∧ Q (.str (i ++ j)) H) (tOp (fun x y H Q => ∃ i j, x = .str i ∧ y = .str j ∧ i.length + j.length ≤ sizeLine ∧ Q (.str (i ++ j)) H) (tC (.str "oneway ")) (tOp (rIxL K) (tVar 13) (tVar 17))) (tC (.str " "))) (tOp (rIxT K) (tVar 11) (tC (.int 0)))) (tC (.str " "))) (tOp (rIxT K) (tVar 12) (tC (.int 0)))) (tC (.str " 1 0 1")))) rfl sc_law.nd rfl rfl (sw_true rfl rfl rfl (by decide +kernel)) (pi_range1 rfl (b_range M) (pa_cons (pe_op op_sub pe_int (pe_callB call_len_seq (by rfl) (b_len M) PySem.boot_len (pa_cons (pv 9) pa_nil))) pa_nil)) (blkOk_by (N := ["script", "bag", "w", "step", "away", "where", "lines", "due", "k", "alone", "some", "a", "b", "names", "more", "back", "r", "n"]) (by kernel_rfl)) (fun _ _ _ _ _ => (pg_name (i := 17) sc_law.nd rfl (Or.inl rfl))) (fun _ _ _ _ _ => pts_nil) (fun _ _ _ _ _ => (pe_op op_add_str (pe_op op_add_str (pe_op op_add_str (pe_op op_add_str (pe_op op_add_str (pe_op op_add_str pe_str (pe_ix ix_list (pv 13) (pv 17) (fun _ _ => rfl))) pe_str) (pe_ix ix_tup (pv 11) pe_int (fun _ _ => rfl))) pe_str) (pe_ix ix_tup (pv 12) pe_int (fun _ _ => rfl))) pe_str)))
  (C8.pss_cut (ps_if (PW.pt (pw_and (pt_cmpR op_eq (pe_ix ix_tup (pv 11) pe_int (fun _ _ => rfl)) pe_str (nomark _)) (pw_and1 (pt_cmpR op_eq (pe_ix ix_tup (pv 12) pe_int (fun _ _ => rfl)) pe_str (nomark _))))) (pss_one (ps_if (pt_cmpR (BL.op_neT (Nat.lt_of_succ_lt hu)) (C8.pe_c (cal__law_read M) hr (by decide) rfl (pa_cons (pe_join pe_str (pe_op op_cat (pe_op op_cat (pe_slice sl_list (pv 6) po_none (po_some (pe_un un_neg pe_int))) (pv 14)) (pe_lst (pa_cons pe_str (pa_cons pe_str pa_nil))))) pa_nil)) (pe_tup (pa_cons pe_str (pa_cons pe_str (pa_cons pe_int pa_nil)))) (nomark _)) (pss_one (ps_ret pe_bl)) pss_nil)) pss_nil)
  (pss_cons (ps_set (i := 15) sc_law.nd rfl (Or.inl rfl) (pe_op op_cat (pe_lc (own := [("r", 16)]) (g := (gName 16)) (tt := (tTest (tOp rEq (tOp (rIxT K) (tVar 16) (tC (.int 7))) (tC (.int 1))))) (te := (tVar 16)) rfl sc_law.nd (pi_list (pe_ix ix_list (pv 4) pe_int (fun _ _ => rfl))) (blkOk_by (N := ["script", "bag", "w", "step", "away", "where", "lines", "due", "k", "alone", "some", "a", "b", "names", "more", "back", "r", "n"]) (by kernel_rfl)) (fun _ _ _ _ _ => (pg_name (i := 16) sc_law.nd rfl (Or.inl rfl))) (fun _ _ _ _ _ => (pts_one (pt_cmpR op_eq (pe_ix ix_tup (pv 16) pe_int (fun _ _ => rfl)) pe_int (nomark _)))) (fun _ _ _ _ _ => (pv 16))) (pe_lc (own := [("r", 16)]) (g := (gName 16)) (tt := (tTest (tOp rEq (tOp (rIxT K) (tVar 16) (tC (.int 7))) (tC (.int 0))))) (te := (tVar 16)) rfl sc_law.nd (pi_list (pe_ix ix_list (pv 2) pe_int (fun _ _ => rfl))) (blkOk_by (N := ["script", "bag", "w", "step", "away", "where", "lines", "due", "k", "alone", "some", "a", "b", "names", "more", "back", "r", "n"]) (by kernel_rfl)) (fun _ _ _ _ _ => (pg_name (i := 16) sc_law.nd rfl (Or.inl rfl))) (fun _ _ _ _ _ => (pts_one (pt_cmpR op_eq (pe_ix ix_tup (pv 16) pe_int (fun _ _ => rfl)) pe_int (nomark _)))) (fun _ _ _ _ _ => (pv 16)))))
  (pss_one (ps_if (pt_cmpR (BL.op_neT (Nat.lt_of_succ_lt hu)) (C8.pe_c (cal__law_read M) hr (by decide) rfl (pa_cons (C8.pe_c (cal__law_text M) hr (by decide) rfl (pa_cons (pe_lst (pa_cons (pe_ix ix_list (pv 2) pe_int (fun _ _ => rfl)) (pa_cons (pv 15) pa_nil))) pa_nil)) pa_nil)) (pe_tup (pa_cons pe_str pa_nil)) (nomark _)) (pss_one (ps_ret pe_bl)) pss_nil)))))))))))))))))
  (pss_one (ps_ret pe_bl)))))), ?_⟩
    have sl0 : sizeLine = 16777216 := rfl
    have one : (1 : Nat) ≤ sizeLine := by rw [sl0]; decide
    have two : (2 : Nat) ≤ sizeLine := by rw [sl0]; decide
    have three : (3 : Nat) ≤ sizeLine := by rw [sl0]; decide
    -- bag
    refine ⟨_, rfl, a, ns, rfl, hs, hl, fun b c H1 s1 _ _ b1 => ?_⟩
    clear s1 hs hl
    -- the town
    refine ⟨_, rfl, _, rfl, b, c, false, rfl, b1, fun wA pc pr cs rs H3 ok k3 b3 hw wb hc cb hr' rb ca ra => ?_⟩
    have W3 : WAt H3 wA pc pr cs rs := ⟨hw, hc, hr', ca, ra⟩
    refine ⟨b, c, wA, pc, pr, cs, rs, rfl, b3, W3, wb, cb, rb, ok, fun wA pc pr cs rs H4 ok k4 b4 W4 _ _ prb => ?_⟩
    clear hw hc hr' ca ra k3 b3 W3 k4 wb cb rb b1
    refine gnmI (reS (σ' := [some (.ref a), some (.ref b), some (.ref wA), none, none, none, none, none, none, none, none, none, none, none, none, none, none, none]) rfl ?_)
    refine seq_ifS (fun Q q => ?_) fun H5 s5 => ?_
    · refine ⟨_, rfl, wA, pc, pr, cs, rs, rfl, W4, ok.p, fun H' s' => ⟨_, _, _, _, _, _, rfl, rds_text ok.p ok.ow, fun p H2 s2 hp => ?_⟩⟩
      rw [evenO_ok ok] at hp
      exact ⟨one, fun p2 np2 => ne_read (o := .town) ((Same.new np2) _ _ hp) upd_same ⟨_, rfl, q _ ((s'.trans s2).trans (Same.new np2))⟩⟩
    have W5 := W4.kept s5
    have b5 := b4.kept s5
    clear W4 b4 s5
    refine ⟨4, rfl, by decide, by decide, for_range (n := 4) (fun i σ H6 => ∃ o3 o4 o5 o6 o7 o8 o9 o10 o11 o12 o13 o14 o15 o16 o17 : Option V, σ = [some (.ref a), some (.ref b), some (.ref wA), o3, o4, o5, o6, o7, o8, o9, o10, o11, o12, o13, o14, o15, o16, o17] ∧ KpC H5 H6 ∧ BagAt H6 b c) ⟨_, _, _, _, _, _, _, _, _, _, _, _, _, _, _, rfl, KpC.refl _, b5⟩ ?_ ?_⟩
    rotate_left
    · rintro σ H6 ⟨o3, o4, o5, o6, o7, o8, o9, o10, o11, o12, o13, o14, o15, o16, o17, rfl, _, _⟩
      exact k _
    rintro i σ H6 hi ⟨o3, o4, o5, o6, o7, o8, o9, o10, o11, o12, o13, o14, o15, o16, o17, rfl, k6, b6⟩
    have W6 := W5.keptC k6
    -- away, where, lines
    refine ⟨_, rfl, _, rfl, b, c, wA, pc, pr, cs, rs, rfl, b6, W6, ok, fun w2 pr2 rs2 H7 bt k7 b7 A7 => ?_⟩
    have W7 := W6.keptC (k7.c b6)
    have K7 := k6.trans (k7.c b6)
    clear k6 b6 W6 k7
    refine ⟨_, rfl, w2, pc, pr2, cs, rs2, rfl, A7, bt.ok, fun H8 s8 => ?_⟩
    have W8 := W7.kept s8
    have A8 := A7.kept s8
    refine ⟨_, rfl, w2, pc, pr2, cs, rs2, rfl, A8, bt.ok, fun l H9 s9 hl => ?_⟩
    have s89 := s8.trans s9
    have J9 : BJ H9 wA pc pr w2 pr2 l cs rs rs2 := ⟨W8.kept s9, A8.kept s9, hl⟩
    have b9 := b7.kept s89
    have K9 := K7.trans (KpC.same s89)
    clear W7 A7 b7 K7 s8 W8 A8 s9 hl s89
    obtain ⟨L, eL⟩ : ∃ L, linesT (cs.map fun x : Addr × Str × V => x.2) (rs2.map fun x : Addr × BL.Rd => x.2) = L := ⟨_, rfl⟩
    have Ll : L.length = cs.length + rs2.length + 2 := by rw [← eL, linesT_length, List.length_map, List.length_map]
    have Lb := linesT_lenP bt.ok
    rw [eL] at Lb
    have hLl : ∀ {G : Hp}, BJ G wA pc pr w2 pr2 l cs rs rs2 → G l = some (.lst (L.map V.str)) := fun J => by rw [← eL]; exact J.l
    have jsz : (((L ++ ([""] : List Str)).map (·.length)).sum) + (L ++ ([""] : List Str)).length * ("\n" : Str).length ≤ 16777216 := by
      have h4 : ("\n" : Str).length = 1 := by decide
      rw [List.map_append, List.sum_append, List.length_append, h4, Nat.mul_one]
      show _ + (("" : Str).length + 0) + (_ + 1) ≤ 16777216
      have h5 : ("" : Str).length = 0 := by decide
      omega
    -- due
    refine ⟨fun σ H10 => ∃ du : Addr, σ = [some (.ref a), some (.ref b), some (.ref wA), some (.int (0 + (i : Nat))), some (.ref w2), some (unevV (unev (cs.map fun x : Addr × Str × V => x.2) (rs2.map fun x : Addr × BL.Rd => x.2))), some (.ref l), some (.ref du), o8, o9, o10, o11, o12, o13, o14, o15, o16, o17] ∧ L2.Same H9 H10 ∧ H10 du = some (.tup (outV (evenO (cs.map fun x : Addr × Str × V => x.2) (rs2.map fun x : Addr × BL.Rd => x.2)))), ?_, ?_⟩
    · cases eu : unev (cs.map fun x : Addr × Str × V => x.2) (rs2.map fun x : Addr × BL.Rd => x.2) with
      | none =>
        refine ⟨_, rfl, _, rfl, iteB (fun _ => ⟨one, fun p np => ⟨p, rfl, Same.new np, ?_⟩⟩) (fun e => by cases e)⟩
        unfold evenO; rw [eu]; exact upd_same
      | some z =>
        refine ⟨_, rfl, _, rfl, iteB (fun e => by cases e) (fun _ => ⟨_, rfl, two, fun p np => ⟨p, rfl, Same.new np, ?_⟩⟩)⟩
        unfold evenO; rw [eu]; exact upd_same
    rintro _ H10 ⟨du, rfl, s10, hdu⟩
    have J10 := J9.kept s10
    have b10 := b9.kept s10
    have K10 := K9.trans (KpC.same s10)
    clear J9 b9 K9 s10
    refine seq_ifS (fun Q q => ?_) fun H11 s11 => ?_
    · refine ⟨⟨_, rfl⟩, _, rfl, one, fun p np => ?_⟩
      refine ⟨l, p, _, _, rfl, rfl, (Same.new np) _ _ (hLl J10), upd_same, by rw [List.length_map, sl0]; show _ + 1 ≤ 16777216; omega, fun p2 np2 => ?_⟩
      have e : L.map V.str ++ [V.str ""] = (L ++ ([""] : List Str)).map V.str := by rw [List.map_append]; rfl
      rw [e]
      refine ⟨_, p2, _, rfl, rfl, .inl (SqL.of upd_same), jsz, ?_⟩
      have et : Txt.join "\n" (L ++ ([""] : List Str)) = textT (cs.map fun x : Addr × Str × V => x.2) (rs2.map fun x : Addr × BL.Rd => x.2) := by unfold textT; rw [eL]
      rw [et]
      refine ⟨_, _, _, _, _, _, rfl, rds_text bt.ok bt.ow, fun p3 H12 s12 hp3 => ⟨_, rfl, ne_read hp3 ?_ ⟨_, rfl, q _ ?_⟩⟩⟩
      · exact s12 _ _ ((Same.new np2) _ _ ((Same.new np) _ _ hdu))
      · exact ((Same.new np).trans (Same.new np2)).trans s12
    have J11 := J10.kept s11
    have b11 := b10.kept s11
    have K11 := K10.trans (KpC.same s11)
    clear J10 b10 K10 s11 hdu
    -- k
    refine ⟨_, rfl, _, rfl, l, _, rfl, .inl (SqL.of (hLl J11)), ?_⟩
    rw [List.length_map, Ll]
    refine ⟨_, _, rfl, rfl, b, c, _, rfl, b11, by omega, by omega, fun r H12 r0 r1 k12 b12 => ⟨_, _, rfl, rfl, ?_⟩⟩
    obtain ⟨kk, ek⟩ : ∃ kk : Nat, 1 + r = (kk : Int) := ⟨(1 + r).toNat, by omega⟩
    show gName 8 (V.int (1 + r)) _ _ _
    rw [ek]
    have kk1 : 1 ≤ kk := by omega
    have kk2 : kk ≤ cs.length + rs2.length + 1 := by omega
    have J12 := J11.keptC (k12.c b11)
    have K12 := K11.trans (k12.c b11)
    clear J11 K11 b11 k12 r0 r1 ek
    refine gnmI (reS (σ' := [some (.ref a), some (.ref b), some (.ref wA), some (.int (0 + (i : Nat))), some (.ref w2), some (unevV (unev (cs.map fun x : Addr × Str × V => x.2) (rs2.map fun x : Addr × BL.Rd => x.2))), some (.ref l), some (.ref du), some (.int (kk : Nat)), o9, o10, o11, o12, o13, o14, o15, o16, o17]) rfl ?_)
    refine seq_ifS (fun Q q => ?_) fun H13 s13 => ?_
    · have tdl : (L.take kk).length + (L.drop kk).length = L.length := by rw [← List.length_append, List.take_append_drop]
      have tds : ((L.take kk).map (·.length)).sum + ((L.drop kk).map (·.length)).sum = (L.map (·.length)).sum := by rw [← List.sum_append, ← List.map_append, List.take_append_drop]
      refine ⟨⟨_, rfl⟩, _, rfl, _, rfl, _, rfl, l, _, rfl, SqL.of (hLl J12), fun p1 np1 => ?_⟩
      rw [cut_to, ← List.map_take]
      have s1 := Same.new (o := .lst ((L.take kk).map V.str)) np1
      have h1 := upd_same (H := H12) (a := p1) (o := .lst ((L.take kk).map V.str))
      generalize (L2.upd H12 p1 (.lst ((L.take kk).map V.str))) = G1 at s1 h1
      refine ⟨one, fun p2 np2 => ?_⟩
      have s2 := Same.new (o := .lst [V.str "street 0 1 2 1 1 0 1"]) np2
      have h2 := upd_same (H := G1) (a := p2) (o := .lst [V.str "street 0 1 2 1 1 0 1"])
      have h1 := s2 _ _ h1
      have s2 := s1.trans s2
      generalize (L2.upd G1 p2 (.lst [V.str "street 0 1 2 1 1 0 1"])) = G2 at s2 h2 h1
      clear np1 np2 s1
      refine ⟨p1, p2, _, _, rfl, rfl, h1, h2, by rw [List.length_map, sl0]; show _ + 1 ≤ 16777216; omega, fun p3 np3 => ?_⟩
      have e3 : (L.take kk).map V.str ++ [V.str "street 0 1 2 1 1 0 1"] = (L.take kk ++ ([badL] : List Str)).map V.str := by rw [List.map_append]; rfl
      rw [e3]
      have s3 := s2.trans (Same.new (o := .lst ((L.take kk ++ ([badL] : List Str)).map V.str)) np3)
      have h3 := upd_same (H := G2) (a := p3) (o := .lst ((L.take kk ++ ([badL] : List Str)).map V.str))
      generalize (L2.upd G2 p3 (.lst ((L.take kk ++ ([badL] : List Str)).map V.str))) = G3 at s3 h3
      clear np3 h1 h2 s2
      refine ⟨_, rfl, _, rfl, _, rfl, l, _, rfl, SqL.of (s3 _ _ (hLl J12)), fun p4 np4 => ?_⟩
      rw [cut_fromV, ← List.map_drop]
      have s4 := Same.new (o := .lst ((L.drop kk).map V.str)) np4
      have h4 := upd_same (H := G3) (a := p4) (o := .lst ((L.drop kk).map V.str))
      have h3 := s4 _ _ h3
      have s4 := s3.trans s4
      generalize (L2.upd G3 p4 (.lst ((L.drop kk).map V.str))) = G4 at s4 h4 h3
      clear np4 s3
      refine ⟨p3, p4, _, _, rfl, rfl, h3, h4, by rw [List.length_map, List.length_map, List.length_append, sl0]; show _ + 1 + _ ≤ 16777216; omega, fun p5 np5 => ?_⟩
      rw [← List.map_append]
      have s5 := s4.trans (Same.new (o := .lst ((L.take kk ++ ([badL] : List Str) ++ L.drop kk).map V.str)) np5)
      have h5 := upd_same (H := G4) (a := p5) (o := .lst ((L.take kk ++ ([badL] : List Str) ++ L.drop kk).map V.str))
      generalize (L2.upd G4 p5 (.lst ((L.take kk ++ ([badL] : List Str) ++ L.drop kk).map V.str))) = G5 at s5 h5
      clear np5 h3 h4 s4
      refine ⟨one, fun p6 np6 => ?_⟩
      have s6 := Same.new (o := .lst [V.str ""]) np6
      have h6 := upd_same (H := G5) (a := p6) (o := .lst [V.str ""])
      have h5 := s6 _ _ h5
      have s6 := s5.trans s6
      generalize (L2.upd G5 p6 (.lst [V.str ""])) = G6 at s6 h6 h5
      clear np6 s5
      refine ⟨p5, p6, _, _, rfl, rfl, h5, h6, by rw [List.length_map, List.length_append, List.length_append, sl0]; show _ + 1 + _ + 1 ≤ 16777216; omega, fun p7 np7 => ?_⟩
      have e7 : (L.take kk ++ ([badL] : List Str) ++ L.drop kk).map V.str ++ [V.str ""] = (L.take kk ++ ([badL] : List Str) ++ L.drop kk ++ ([""] : List Str)).map V.str := (List.map_append (f := V.str) (l₁ := L.take kk ++ ([badL] : List Str) ++ L.drop kk) (l₂ := ([""] : List Str))).symm
      rw [e7]
      refine ⟨_, p7, _, rfl, rfl, .inl (SqL.of upd_same), ?_, ?_⟩
      · have h4 : ("\n" : Str).length = 1 := by decide
        have h6 : (([badL] : List Str).map (·.length)).sum = 20 := by decide +kernel
        have h7 : ((([""] : List Str).map (·.length)).sum) = 0 := by decide
        simp only [List.map_append, List.sum_append, List.length_append, h4, h6, h7, Nat.mul_one, List.length_cons, List.length_nil]
        omega
      have et : Txt.join "\n" (L.take kk ++ ([badL] : List Str) ++ L.drop kk ++ ([""] : List Str)) = badT (cs.map fun x : Addr × Str × V => x.2) (rs2.map fun x : Addr × BL.Rd => x.2) kk := by unfold badT; rw [eL]
      rw [et]
      refine ⟨_, _, _, _, _, _, rfl, rds_bad bt.ok kk1 (by rw [List.length_map, List.length_map]; exact kk2), fun p8 G8 s8 hp8 => ⟨_, rfl, _, _, rfl, rfl, two, fun p9 np9 => ?_⟩⟩
      have e9 : ((kk : Nat) : Int) + 1 = ((kk + 1 : Nat) : Int) := by omega
      have h9 : (L2.upd G8 p9 (.tup [.str "BadTown", .int (((kk : Nat) : Int) + 1)])) p9 = some (.tup (outV (.bad (kk + 1)))) := upd_same.trans (by rw [e9]; rfl)
      exact ne_read (o := .bad (kk + 1)) ((Same.new np9) _ _ hp8) h9 ⟨_, rfl, q _ (((s6.trans (Same.new np7)).trans s8).trans (Same.new np9))⟩
    have J13 := J12.kept s13
    have b13 := b12.kept s13
    have K13 := K12.trans (KpC.same s13)
    clear J12 b12 K12 s13
    -- alone
    have rl49 : rs.length ≤ 48 ∧ rs2.length ≤ 48 := by
      have h1 := ok.st
      have h2 := ok.ow
      have h3 := len_two (rs.map fun x : Addr × BL.Rd => x.2)
      have g1 := bt.ok.st
      have g2 := bt.ow
      have g3 := len_two (rs2.map fun x : Addr × BL.Rd => x.2)
      rw [List.length_map] at h3 g3
      omega
    refine ⟨_, rfl, w2, _, 1, _, rfl, rfl, SqL.of (J13.a.hw), at_of (j := 1) rfl rfl, pr2, rfl, ⟨_, SqL.of J13.a.hr⟩, fun aA nA => lc_selL rs2 (fun x => .ref x.1) (fun x => !x.2.two) (fun x => .ref x.1) rfl (by omega) nA (SqL.of J13.a.hr) (fun x G hx s T' N' hT hN => ?_) fun H14 hA s14 => ?_⟩
    · have ht := s _ _ (J13.a.ra x hx)
      refine ⟨rfl, _, rfl, x.1, _, 7, .int (if x.2.two = true then 1 else 0), rfl, rfl, .of (ht), at_of (j := 7) rfl rfl, rfl, _, rfl, ?_⟩
      cases h2 : x.2.two with
      | true => exact iteI (fun e => absurd e (by simp)) (fun _ => hN (by rw [h2]; rfl) _ (Same.refl _))
      | false => exact iteI (fun _ => ⟨_, rfl, hT (by rw [h2]; rfl) _ (Same.refl _)⟩) (fun e => absurd (by simp) e)
    have J14 := J13.kept s14
    have b14 := b13.kept s14
    have K14 := K13.trans (KpC.same s14)
    clear J13 b13 K13 s14 nA
    obtain ⟨ow, eow⟩ : ∃ ow, ow = ((rs2.map fun x : Addr × BL.Rd => x.2).filter (!·.two)).length := ⟨_, rfl⟩
    have ow12 := bt.ow
    rw [← eow] at ow12
    have eA : (rs2.filter fun x => !x.2.two).length = ow := by rw [eow, List.filter_map, List.length_map]; rfl
    -- some
    refine gnmI ?_
    have rs0 : 0 < rs.length := by
      obtain ⟨r, hr, _⟩ := ok.tch 0 (by have := ok.lo; omega)
      have := List.length_pos_of_mem hr
      rwa [List.length_map] at this
    refine ⟨_, rfl, _, rfl, wA, _, 1, _, rfl, rfl, SqL.of (J14.w.hw), at_of (j := 1) rfl rfl, b, c, _, rfl, b14, .inl ⟨pr, _, rfl, J14.w.hr, prb, by rw [List.length_map]; exact rs0, by rw [List.length_map]; omega, fun v H15 hv k15 b15 => ?_⟩⟩
    obtain ⟨x, hxm, rfl⟩ := List.mem_map.mp hv
    have J15 := J14.keptC (k15.c b14)
    have hA15 := (k15.c b14) _ _ (cln_refs _) hA
    have K15 := K14.trans (k15.c b14)
    clear J14 b14 K14 k15 hA hv
    obtain ⟨xa, xb, xab⟩ := ok.re x.2 (List.mem_map.mpr ⟨x, hxm, rfl⟩)
    rw [List.length_map] at xa xb
    obtain ⟨ca, hca⟩ : ∃ ca, cs[x.2.a]? = some ca := ⟨_, List.getElem?_eq_getElem xa⟩
    obtain ⟨cb, hcb⟩ : ∃ cb, cs[x.2.b]? = some cb := ⟨_, List.getElem?_eq_getElem xb⟩
    have hcar : (cs.map fun x : Addr × Str × V => V.ref x.1)[x.2.a]? = some (.ref ca.1) := by rw [List.getElem?_map, hca]; rfl
    have hcbr : (cs.map fun x : Addr × Str × V => V.ref x.1)[x.2.b]? = some (.ref cb.1) := by rw [List.getElem?_map, hcb]; rfl
    have ena : BL.nameAt (cs.map fun x : Addr × Str × V => x.2) x.2.a = ca.2.1 := by unfold BL.nameAt; rw [List.getElem?_map, hca]; rfl
    have enb : BL.nameAt (cs.map fun x : Addr × Str × V => x.2) x.2.b = cb.2.1 := by unfold BL.nameAt; rw [List.getElem?_map, hcb]; rfl
    have cam := List.mem_of_getElem? hca
    have cbm := List.mem_of_getElem? hcb
    -- a, b
    refine gnmI ?_
    have hx15 := J15.w.ra x hxm
    refine ⟨_, rfl, wA, _, 0, _, rfl, rfl, SqL.of (J15.w.hw), at_of (j := 0) rfl rfl, _, rfl, x.1, _, 1, .int (x.2.a : Nat), rfl, rfl, .of hx15, at_of (j := 1) rfl rfl, pc, _, _, .ref ca.1, rfl, rfl, SqL.of J15.w.hc, at_of (j := x.2.a) rfl hcar, ?_⟩
    refine ⟨_, rfl, wA, _, 0, _, rfl, rfl, SqL.of (J15.w.hw), at_of (j := 0) rfl rfl, _, rfl, x.1, _, 2, .int (x.2.b : Nat), rfl, rfl, .of hx15, at_of (j := 2) rfl rfl, pc, _, _, .ref cb.1, rfl, rfl, SqL.of J15.w.hc, at_of (j := x.2.b) rfl hcbr, two, fun pt npt => ?_⟩
    refine ⟨pt, _, rfl, SqT.of upd_same, rfl, _, _, rfl, _, _, rfl, rfl, ?_⟩
    have sp := Same.new (o := .tup [.ref ca.1, .ref cb.1]) npt
    have J16 := J15.kept sp
    have b16 := b15.kept sp
    have hA16 := sp _ _ hA15
    have K16 := K15.trans (KpC.same sp)
    generalize (L2.upd H15 pt (.tup [.ref ca.1, .ref cb.1])) = H16 at J16 b16 hA16 K16
    clear J15 b15 hA15 K15 sp npt hcar hcbr hx15
    refine nxB (reS (σ' := [some (.ref a), some (.ref b), some (.ref wA), some (.int (0 + (i : Nat))), some (.ref w2), some (unevV (unev (cs.map fun x : Addr × Str × V => x.2) (rs2.map fun x : Addr × BL.Rd => x.2))), some (.ref l), some (.ref du), some (.int (kk : Nat)), some (.ref aA), some (.ref x.1), some (.ref ca.1), some (.ref cb.1), o13, o14, o15, o16, o17]) rfl ?_)
    -- names
    refine ⟨_, rfl, _, rfl, w2, _, 1, _, rfl, rfl, SqL.of (J16.a.hw), at_of (j := 1) rfl rfl, pr2, rfl, ⟨_, SqL.of J16.a.hr⟩, fun nA nN => lc_selL rs2 (fun x => .ref x.1) (fun _ => true) (fun x => .str x.2.name) rfl (by omega) nN (SqL.of J16.a.hr) (fun x G hx s T' N' hT hN => ?_) fun H17 hN s17 => ?_⟩
    · have ht := s _ _ (J16.a.ra x hx)
      exact ⟨rfl, _, rfl, x.1, _, 0, .str x.2.name, rfl, rfl, .of (ht), at_of (j := 0) rfl rfl, hT rfl _ (Same.refl _)⟩
    rw [filter_yes] at hN
    have eN : (rs2.map fun x => V.str x.2.name) = ((rs2.map fun x : Addr × BL.Rd => x.2).map (·.name)).map .str := by rw [List.map_map, List.map_map]; rfl
    rw [eN] at hN
    have J17 := J16.kept s17
    have b17 := b16.kept s17
    have hA17 := s17 _ _ hA16
    have K17 := K16.trans (KpC.same s17)
    clear J16 b16 hA16 K16 s17 nN eN
    refine ⟨b, c, nA, 13, _, rfl, b17, hN, by decide, by rw [List.length_map, List.length_map]; omega, fun pm zs H18 zl zok znd zf k18 b18 n18 hz => ?_⟩
    have J18 := J17.keptC (k18.c b17)
    have hA18 := (k18.c b17) _ _ (cln_refs _) hA17
    have K18 := K17.trans (k18.c b17)
    have zl : zs.length = 13 := zl
    clear J17 hA17 K17 k18 b17 n18 hN
    -- more
    refine gnmI ?_
    refine ⟨_, rfl, aA, _, rfl, .inl (SqL.of hA18), ?_⟩
    rw [List.length_map, eA]
    have en : ((13 : Int) - ((ow : Nat) : Int)).toNat = 13 - ow := by omega
    have nmb : ∀ {z : Str}, NameOk z → z.length ≤ 8 := fun h => h.len.1
    have cal8 := nmb (ok.cn ca.2 (List.mem_map.mpr ⟨ca, cam, rfl⟩))
    have cbl8 := nmb (ok.cn cb.2 (List.mem_map.mpr ⟨cb, cbm, rfl⟩))
    have q7 : ("oneway " : Str).length = 7 := by decide
    have q1 : (" " : Str).length = 1 := by decide
    have q6 : (" 1 0 1" : Str).length = 6 := by decide
    refine ⟨_, _, rfl, rfl, _, rfl, by omega, by omega, fun mA nM => lc_selR (n := ((13 : Int) - ((ow : Nat) : Int)).toNat) (fun _ => true) (fun j => .str (lineT (cs.map fun x : Addr × Str × V => x.2) ⟨zs.getD j "", x.2.a, x.2.b, 1, 1, 0, 1, false⟩)) (by omega) nM (fun j G hj s T' N' hT hN => ?_) fun H19 hM s19 => ?_⟩
    · have hj13 : j < zs.length := by omega
      have hzj : (zs.map V.str)[j]? = some (.str (zs.getD j "")) := by rw [List.getElem?_map, List.getD_eq_getElem?_getD, List.getElem?_eq_getElem hj13]; rfl
      have zj8 : (zs.getD j "").length ≤ 8 := nmb (zok _ (by rw [List.getD_eq_getElem?_getD, List.getElem?_eq_getElem hj13]; exact List.getElem_mem hj13))
      have hT := hT rfl G (Same.refl _)
      rw [← more_line, ena, enb] at hT
      generalize zs.getD j "" = zj at hzj zj8 hT
      refine ⟨rfl, _, rfl, _, rfl, pm, _, _, .str zj, rfl, rfl, SqL.of (s _ _ hz), at_of (j := j) (by omega) hzj, _, _, rfl, rfl, by rw [q7, sl0]; omega, ?_⟩
      refine ⟨_, _, rfl, rfl, by rw [cat_len, q7, q1, sl0]; omega, ?_⟩
      refine ⟨_, rfl, ca.1, _, 0, .str ca.2.1, rfl, rfl, .of (s _ _ (J18.w.ca ca cam)), at_of (j := 0) rfl rfl, _, _, rfl, rfl, by rw [cat_len, cat_len, q7, q1, sl0]; omega, ?_⟩
      refine ⟨_, _, rfl, rfl, by rw [cat_len, cat_len, cat_len, q7, q1, sl0]; omega, ?_⟩
      refine ⟨_, rfl, cb.1, _, 0, .str cb.2.1, rfl, rfl, .of (s _ _ (J18.w.ca cb cbm)), at_of (j := 0) rfl rfl, _, _, rfl, rfl, by rw [cat_len, cat_len, cat_len, cat_len, q7, q1, sl0]; omega, ?_⟩
      exact ⟨_, _, rfl, rfl, by rw [cat_len, cat_len, cat_len, cat_len, cat_len, q7, q1, q6, sl0]; omega, hT⟩
    rw [filter_yes, en] at hM
    have eM : ((List.range (13 - ow)).map fun j => V.str (lineT (cs.map fun x : Addr × Str × V => x.2) ⟨zs.getD j "", x.2.a, x.2.b, 1, 1, 0, 1, false⟩)) = ((moreR x.2.a x.2.b (zs.take (13 - ow))).map (lineT (cs.map fun x : Addr × Str × V => x.2))).map V.str := by
      have : zs.take (13 - ow) = (List.range (13 - ow)).map fun j => zs.getD j "" := by
        refine List.ext_getElem? fun j => ?_
        rw [List.getElem?_take, List.getElem?_map]
        by_cases hj : j < 13 - ow
        · rw [if_pos hj, List.getElem?_range hj, List.getElem?_eq_getElem (by omega)]
          show _ = some (zs.getD j "")
          rw [List.getD_eq_getElem?_getD, List.getElem?_eq_getElem (by omega)]; rfl
        · rw [if_neg hj, List.getElem?_eq_none (by rw [List.length_range]; omega)]; rfl
      rw [this]
      unfold moreR
      rw [List.map_map, List.map_map, List.map_map]; rfl
    rw [eM] at hM
    have J19 := J18.kept s19
    have b19 := b18.kept s19
    have K19 := K18.trans (KpC.same s19)
    clear J18 b18 K18 s19 hA18 hz nM eM
    -- thirteen
    refine ⟨fun σ H20 => σ = [some (.ref a), some (.ref b), some (.ref wA), some (.int (0 + (i : Nat))), some (.ref w2), some (unevV (unev (cs.map fun x : Addr × Str × V => x.2) (rs2.map fun x : Addr × BL.Rd => x.2))), some (.ref l), some (.ref du), some (.int (kk : Nat)), some (.ref aA), some (.ref x.1), some (.ref ca.1), some (.ref cb.1), some (.ref pm), some (.ref mA), o15, o16, o17] ∧ L2.Same H19 H20, ?_, ?_⟩
    · refine ⟨_, rfl, ca.1, _, 1, ca.2.2, rfl, rfl, .of (J19.w.ca ca cam), at_of (j := 1) rfl rfl, ?_⟩
      have kscal : ∀ {v : V}, KindV v → scal v (.str "place") = true := fun h => by rcases h with ⟨n, rfl, _⟩ | rfl | rfl <;> rfl
      refine ⟨kscal (ok.ck ca.2 (List.mem_map.mpr ⟨ca, cam, rfl⟩)), _, rfl, ?_⟩
      by_cases hpa : ca.2.2 = .str "place"
      rotate_left
      · rw [decide_eq_false hpa]
        exact iteB (fun e => by cases e) (fun _ => iteB (fun e => by cases e) (fun _ => ⟨rfl, Same.refl _⟩))
      rw [decide_eq_true hpa]
      refine iteB (fun _ => ?_) (fun e => by cases e)
      refine ⟨_, rfl, cb.1, _, 1, cb.2.2, rfl, rfl, .of (J19.w.ca cb cbm), at_of (j := 1) rfl rfl, kscal (ok.ck cb.2 (List.mem_map.mpr ⟨cb, cbm, rfl⟩)), _, rfl, ?_⟩
      by_cases hpb : cb.2.2 = .str "place"
      rotate_left
      · rw [decide_eq_false hpb]
        exact iteB (fun e => by cases e) (fun _ => ⟨rfl, Same.refl _⟩)
      rw [decide_eq_true hpb]
      refine iteB (fun _ => ?_) (fun e => by cases e)
      have pa : ((cs.map fun x : Addr × Str × V => x.2)[x.2.a]?).map (·.2) = some (.str "place") := by rw [List.getElem?_map, hca, ← hpa]; rfl
      have pb : ((cs.map fun x : Addr × Str × V => x.2)[x.2.b]?).map (·.2) = some (.str "place") := by rw [List.getElem?_map, hcb, ← hpb]; rfl
      have hw := bt.more pa pb xab (zs := zs.take (13 - ow)) (fun z h => zok z (List.mem_of_mem_take h)) (znd.sublist (List.take_sublist _ _)) (fun z h => zf z (List.mem_of_mem_take h)) (by rw [List.length_take, ← eow]; omega)
      obtain ⟨L0, eL0⟩ : ∃ L0, L = L0 ++ ([("done" : Str)] : List Str) := ⟨_, eL.symm⟩
      obtain ⟨M', eM'⟩ : ∃ M', (moreR x.2.a x.2.b (zs.take (13 - ow))).map (lineT (cs.map fun x : Addr × Str × V => x.2)) = M' := ⟨_, rfl⟩
      have eT : (L0 ++ M') ++ ([("done" : Str), ""] : List Str) = linesT (cs.map fun x : Addr × Str × V => x.2) ((rs2.map fun x : Addr × BL.Rd => x.2) ++ moreR x.2.a x.2.b (zs.take (13 - ow))) ++ ([""] : List Str) := by
        have h0 : L0 = (([("town" : Str)] : List Str) ++ (cs.map fun x : Addr × Str × V => x.2).map crossT) ++ (rs2.map fun x : Addr × BL.Rd => x.2).map (lineT (cs.map fun x : Addr × Str × V => x.2)) := by
          have := eL0.symm.trans eL.symm
          unfold linesT at this
          exact List.append_cancel_right this
        rw [h0, ← eM']
        unfold linesT
        rw [List.map_append]
        simp only [List.append_assoc]
        rfl
      have hb75 := linesT_lenP hw.1
      rw [eM'] at hM
      have L0l : L0.length + 1 = L.length := by rw [eL0, List.length_append]; rfl
      have M'l : M'.length ≤ 13 := by rw [← eM', List.length_map]; unfold moreR; rw [List.length_map, List.length_take]; omega
      refine if_lastS (fun Q q => ?_) fun H' s' => ⟨rfl, s'⟩
      refine ⟨⟨_, rfl⟩, _, rfl, _, rfl, _, rfl, l, _, rfl, SqL.of (hLl J19), fun p1 np1 => ?_⟩
      have ec : cutV (L.map V.str) none (some (-1)) = L0.map V.str := by rw [eL0]; exact cut_last L0 "done"
      rw [ec]
      have s1 := Same.new (o := .lst (L0.map V.str)) np1
      have h1 := upd_same (H := H19) (a := p1) (o := .lst (L0.map V.str))
      have hM := s1 _ _ hM
      generalize (L2.upd H19 p1 (.lst (L0.map V.str))) = G1 at s1 h1 hM
      refine ⟨_, rfl, p1, mA, _, _, rfl, rfl, h1, hM, by rw [List.length_map, List.length_map, sl0]; omega, fun p3 np3 => ?_⟩
      rw [← List.map_append]
      have s3 := s1.trans (Same.new (o := .lst ((L0 ++ M').map V.str)) np3)
      have h3 := upd_same (H := G1) (a := p3) (o := .lst ((L0 ++ M').map V.str))
      generalize (L2.upd G1 p3 (.lst ((L0 ++ M').map V.str))) = G3 at s3 h3
      clear np1 np3 h1 s1 hM
      refine ⟨two, fun p4 np4 => ?_⟩
      have s4 := Same.new (o := .lst [V.str "done", V.str ""]) np4
      have h4 := upd_same (H := G3) (a := p4) (o := .lst [V.str "done", V.str ""])
      have h3 := s4 _ _ h3
      have s4 := s3.trans s4
      generalize (L2.upd G3 p4 (.lst [V.str "done", V.str ""])) = G4 at s4 h4 h3
      clear np4 s3
      refine ⟨p3, p4, _, _, rfl, rfl, h3, h4, by rw [List.length_map, List.length_append, sl0]; show _ + _ + 2 ≤ 16777216; omega, fun p5 np5 => ?_⟩
      have e5 : (L0 ++ M').map V.str ++ [V.str "done", V.str ""] = (linesT (cs.map fun x : Addr × Str × V => x.2) ((rs2.map fun x : Addr × BL.Rd => x.2) ++ moreR x.2.a x.2.b (zs.take (13 - ow))) ++ ([""] : List Str)).map V.str := by
        rw [← eT]
        exact (List.map_append (f := V.str) (l₁ := L0 ++ M') (l₂ := ([("done" : Str), ""] : List Str))).symm
      rw [e5]
      refine ⟨_, p5, _, rfl, rfl, .inl (SqL.of upd_same), ?_, ?_⟩
      · have h4 : ("\n" : Str).length = 1 := by decide
        rw [List.map_append, List.sum_append, List.length_append, h4, Nat.mul_one]
        show _ + (("" : Str).length + 0) + (_ + 1) ≤ 16777216
        have h5 : ("" : Str).length = 0 := by decide
        omega
      refine ⟨_, _, _, _, _, _, rfl, rds_many hw.1 hw.2, fun p8 G8 s8 hp8 => ⟨three, fun p9 np9 => ?_⟩⟩
      exact ne_read (o := .many) ((Same.new np9) _ _ hp8) upd_same ⟨_, rfl, q _ (((s4.trans (Same.new np5)).trans s8).trans (Same.new np9))⟩
    rintro _ H20 ⟨rfl, s20⟩
    have J20 := J19.kept s20
    have b20 := b19.kept s20
    have K20 := K19.trans (KpC.same s20)
    clear J19 b19 K19 s20 hM
    -- back
    refine ⟨_, rfl, w2, _, 1, _, rfl, rfl, SqL.of (J20.a.hw), at_of (j := 1) rfl rfl, pr2, rfl, ⟨_, SqL.of J20.a.hr⟩, fun tA nA => lc_selL rs2 (fun x => .ref x.1) (fun x => x.2.two) (fun x => .ref x.1) rfl (by omega) nA (SqL.of J20.a.hr) (fun x G hx s T' N' hT hN => ?_) fun H21 hA s21 => ?_⟩
    · have ht := s _ _ (J20.a.ra x hx)
      refine ⟨rfl, _, rfl, x.1, _, 7, .int (if x.2.two = true then 1 else 0), rfl, rfl, .of (ht), at_of (j := 7) rfl rfl, rfl, _, rfl, ?_⟩
      cases h2 : x.2.two with
      | true => exact iteI (fun _ => ⟨_, rfl, hT (by rw [h2]) _ (Same.refl _)⟩) (fun e => absurd (by simp) e)
      | false => exact iteI (fun e => absurd e (by simp)) (fun _ => hN (by rw [h2]) _ (Same.refl _))
    have J21 := J20.kept s21
    have b21 := b20.kept s21
    have K21 := K20.trans (KpC.same s21)
    clear J20 b20 K20 s21 nA
    refine ⟨_, rfl, wA, _, 1, _, rfl, rfl, SqL.of (J21.w.hw), at_of (j := 1) rfl rfl, pr, rfl, ⟨_, SqL.of J21.w.hr⟩, fun uA nA => lc_selL rs (fun x => .ref x.1) (fun x => !x.2.two) (fun x => .ref x.1) rfl (by omega) nA (SqL.of J21.w.hr) (fun x G hx s T' N' hT hN => ?_) fun H22 hB s22 => ?_⟩
    · have ht := s _ _ (J21.w.ra x hx)
      refine ⟨rfl, _, rfl, x.1, _, 7, .int (if x.2.two = true then 1 else 0), rfl, rfl, .of (ht), at_of (j := 7) rfl rfl, rfl, _, rfl, ?_⟩
      cases h2 : x.2.two with
      | true => exact iteI (fun e => absurd e (by simp)) (fun _ => hN (by rw [h2]; rfl) _ (Same.refl _))
      | false => exact iteI (fun _ => ⟨_, rfl, hT (by rw [h2]; rfl) _ (Same.refl _)⟩) (fun e => absurd (by simp) e)
    have J22 := J21.kept s22
    have b22 := b21.kept s22
    have hA22 := s22 _ _ hA
    have K22 := K21.trans (KpC.same s22)
    clear J21 b21 K21 s22 nA hA
    have fl1 := List.length_filter_le (fun x : Addr × BL.Rd => x.2.two) rs2
    have fl2 := List.length_filter_le (fun x : Addr × BL.Rd => !x.2.two) rs
    refine ⟨tA, uA, _, _, rfl, rfl, hA22, hB, by rw [List.length_map, List.length_map, sl0]; omega, fun kA nK => ?_⟩
    rw [← List.map_append]
    have sk := Same.new (o := .lst ((rs2.filter (fun x => x.2.two) ++ rs.filter (fun x => !x.2.two)).map fun x => V.ref x.1)) nK
    have hK := upd_same (H := H22) (a := kA) (o := .lst ((rs2.filter (fun x => x.2.two) ++ rs.filter (fun x => !x.2.two)).map fun x => V.ref x.1))
    have J23 := J22.kept sk
    have b23 := b22.kept sk
    have K23 := K22.trans (KpC.same sk)
    generalize (L2.upd H22 kA (.lst ((rs2.filter (fun x => x.2.two) ++ rs.filter (fun x => !x.2.two)).map fun x => V.ref x.1))) = H23 at hK J23 b23 K23
    clear J22 b22 K22 sk hA22 hB nK
    have okB : WorldOk (cs.map fun x : Addr × Str × V => x.2) ((rs2.filter (fun x => x.2.two) ++ rs.filter (fun x => !x.2.two)).map fun x : Addr × BL.Rd => x.2) := by
      have := bt.back ok
      rw [List.filter_map, List.filter_map, ← List.map_append] at this
      exact this
    refine gnmI (if_lastS (fun Q q => ?_) fun H' s' => ⟨_, _, _, _, _, _, _, _, _, _, _, _, _, _, _, rfl, K23.trans (KpC.same s'), b23.kept s'⟩)
    refine ⟨_, rfl, wA, _, 0, _, rfl, rfl, SqL.of (J23.w.hw), at_of (j := 0) rfl rfl, _, rfl, two, fun w3 n3 => ?_⟩
    have s3 := Same.new (o := .lst [.ref pc, .ref kA]) n3
    have W3 : WAt (L2.upd H23 w3 (.lst [.ref pc, .ref kA])) w3 pc kA cs (rs2.filter (fun x => x.2.two) ++ rs.filter (fun x => !x.2.two)) :=
      ⟨upd_same, s3 _ _ J23.w.hc, s3 _ _ hK, J23.w.ca.kept (.same s3), fun y hy => by
        rcases List.mem_append.mp hy with h | h
        · exact s3 _ _ (J23.a.ra y (List.mem_filter.mp h).1)
        · exact s3 _ _ (J23.w.ra y (List.mem_filter.mp h).1)⟩
    refine ⟨w3, pc, kA, cs, _, rfl, W3, okB.p, fun H' s' => ⟨_, _, _, _, _, _, rfl, rds_text okB.p okB.ow, fun p G s2 hp => ?_⟩⟩
    rw [evenO_ok okB] at hp
    exact ⟨one, fun p2 np2 => ne_read (o := .town) ((Same.new np2) _ _ hp) upd_same ⟨_, rfl, q _ (((s3.trans s').trans s2).trans (Same.new np2))⟩⟩
end K02
set_option maxRecDepth 100000
set_option maxHeartbeats 0
open PySem PySem.W PySem.Calls PyProof.Rows
theorem PySem.Challenge.cw_bothlanes_k02_uneven_towns_holds : PySem.Challenge.rw_bothlanes_k02_uneven_towns.Holds := by
  refine K02.opn fun hs => ?_
  refine HandSHeadRun.head_any (r := OpenLaw.row PySem.Challenge.rw_bothlanes_k02_uneven_towns) (q := view (OpenLaw.row PySem.Challenge.rw_bothlanes_k02_uneven_towns).prog [K02.lAt]) (H := K02.hk) (ob := K02.ob) (M := 9000) (loose := K02.loose) (d := HandSHeadRun.topDef (OpenLaw.row PySem.Challenge.rw_bothlanes_k02_uneven_towns).prog K02.lAt) (kwd := []) K02.ob_eq
    K02.h_e K02.h_f K02.run K02.h_def K02.h_p K02.h_k K02.h_w hs K02.h_ok K02.h_b ?hw ?hc
  case hw => w_witness2
  case hc =>
    refine BL.walk_ofG (l := PySem.Challenge.rw_bothlanes_k02_uneven_towns) (n := 63) (k := 9) (x := "script") rfl (by decide) K02.h_df ⟨rfl, by decide, by decide⟩ ?F
    intro w mg fa h Y G hmg0
    obtain ⟨K, KX, c⟩ := Y
    have hmg : mg ("law" : PySem.Str) = some (.ref fa) := by
      have e := K02.h_n
      rw [← e]
      exact hmg0
    have M : K02.Md K mg := ⟨⟨h, KX, G⟩, c⟩
    obtain ⟨fd, F⟩ := K02.F_law M
    have ef : fa = He.ga K "law" := by
      have := hmg.symm.trans (K02.g_law M)
      cases this
      rfl
    subst ef
    refine ⟨K, fd, K02.sp_law K, KX, ?_, fun H a ns hl _ hS => ⟨a, ns, rfl, hS, hl, fun _ => rfl⟩, fun base _ _ => K02.fn_law M F⟩
    have b := L2.FunD.bindsA (ps := ["script"]) F fun _ _ _ _ _ _ us hl => match us, hl with | [_], _ => rfl
    exact fun s v => b s [v] rfl
