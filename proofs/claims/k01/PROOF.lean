import PyProof.Rows.All
import Wide.All
import OpenK.AllK
import Wide.FinOn
import HandS.ForMost
import HandS.ForExc
import HandS.Evl
import HandS.Property
import HandS.IsInst
import HandS.TupAny
import HandS.Flow
import HandS.Zip
import HandS.Conv
import HandS.Defaults
import HandS.Head0
import HandS.Head1
import HandS.Head2
import HandS.HeadEnd
import HandS.HeadHook1
import HandS.HeadHook2
import HandS.HeadNt
import HandS.TupMul
import HandS.TupLe
import HandS.Strs
import HandS.Walk
import KE.GoesEnum
import KE.GoesMore
import KE.DatumOrd
import HandS.Deep
import HandS.OwnEq
import KE.KTupSum
import PyProof.RulesMatchSeq
import PyProof.Rows.MatchSeqLen
import KE.KDflt
import HandS.Lambda
import HandS.ExcIs
import HandS.ExcOwn
import HandS.WordsExc
import HandS.EndTab
import HandS.HeadHook4
import HandS.ExcInit
import HandS.ExcField
import HandS.FStr
import KE.KExcIs
import KE.KOpsOwn
import HandS.ClsMeth
import HandS.Star
import HandS.Style
import KE.KRevSl
import PySem.Challenge.RW_readingring_k01_rings_and_their_signs
set_option Elab.async false
set_option linter.all false
set_option maxRecDepth 100000
set_option maxHeartbeats 2000000
/-! a Hook whose facts are any Bools of the part of the heap -/
namespace Gp
open PySem PySem.W PySem.Spec PyProof.Rows He5
abbrev FB : Type := Frag → Bool
def obsP (fas : List FB) (fn : List DefA) (K : Frag) : He.AlD := ((fas.all fun f => f K) && fn.all fun d => d.ok K, fn.map fun d => fnA K (d.at_ K))
def SaysP (fas : List FB) (fn : List DefA) (K : Frag) : Prop := obsP fas fn K = valA fn
def obsPG (n : Nat) (fas : List FB) (fn : List DefA) (g : Addr → Option Obj) : He.AlD := obsP fas fn (He.frG g (asA g n))
def hookP (n : Nat) (fas : List FB) (fn : List DefA) : Hook where
  α := He.AlD
  obs := fun s => obsPG n fas fn s.heap.get?
  val := fun _ => valA fn
  says := fun _ h => ∃ K : Frag, K.In h ∧ SaysP fas fn K
  of := fun _ _ e => ⟨_, He.frG_in, e⟩
  keeps := fun _ _ _ ⟨K, hK, c⟩ k => ⟨K, Frag.In.keeps hK k, c⟩
theorem obsPG_eq {n : Nat} {fas : List FB} {fn : List DefA} {g : Addr → Option Obj} {s : Shared} (h : ∀ a, g a = s.heap.get? a) : obsPG n fas fn g = (hookP n fas fn).obs s := by
  have e : g = s.heap.get? := funext h
  rw [e] <;> rfl
section
variable {fas : List FB} {fn : List DefA} {K : Frag}
theorem SaysP.fact (c : SaysP fas fn K) (i : Nat) {f : FB} (h : fas[i]? = some f := by rfl) : f K = true := by
  have c1 := (He.ba (show ((fas.all fun f => f K) && fn.all fun d => d.ok K) = true from congrArg (fun z : He.AlD => z.1) c)).1
  exact List.all_eq_true.mp c1 f (List.mem_of_getElem? h)
theorem SaysP.def_ (c : SaysP fas fn K) (i : Nat) {d : DefA} (h : fn[i]? = some d := by rfl) : ∃ fd, L2.FunD K d.name d.qual d.params d.body d.scope (d.dvs K) (d.kws K) (d.at_ K) fd := by
  have c2 := (He.ba (show ((fas.all fun f => f K) && fn.all fun d => d.ok K) = true from congrArg (fun z : He.AlD => z.1) c)).2
  have e : fn.map (fun d => fnA K (d.at_ K)) = fn.map DefA.val := congrArg (fun z : He.AlD => z.2) c
  have e2 : (fn.map fun d => fnA K (d.at_ K))[i]? = (fn.map DefA.val)[i]? := by rw [e]
  rw [List.getElem?_map, List.getElem?_map, h] at e2
  exact DefA.funD (Option.some.inj e2) (List.all_eq_true.mp c2 d (List.mem_of_getElem? h))
end
/-- a property's getter -/
def pga (K : Frag) (C : Addr) (m : PySem.Str) : Addr := match findIn K (.ref C) m with
  | some (some (.ref p)) => (match recIn K p "property" with
    | some (.ref g :: _) => g
    | _ => 0)
  | _ => 0
def ppB (K : Frag) (C : Addr) (m : PySem.Str) : Bool := match findIn K (.ref C) m with
  | some (some (.ref p)) => decide (specialIn K (.ref p) "__get__" = some (some (.builtin "property.__get__"))) && (decide (takesIn K (.ref p) = some true) && (match recIn K p "property" with
    | some (.ref _ :: _) => true
    | _ => false))
  | _ => false
theorem pp_ok {K : Frag} {C : Addr} {m : PySem.Str} (h : ppB K C m = true) : ∃ p, L2.PropOf K C m p (pga K C m) := by
  unfold ppB at h
  unfold pga
  split at h
  · rename_i p hp
    obtain ⟨h1, h2⟩ := He.ba h
    obtain ⟨h2, h3⟩ := He.ba h2
    split at h3
    · rename_i g rest hr
      refine ⟨p, hp, of_decide_eq_true h1, of_decide_eq_true h2, rest, ?_⟩
      exact hr
    · cases h3
  · cases h
end Gp
theorem Fun_ofD {K : PySem.W.Frag} {x q : PySem.Str} {st : PySem.Stmt} {f : PySem.Addr} {fd : PySem.FuncData} (F : L2.FunD K x q (L2.defArgs st) (L2.defBody st) (L2.defScope st) [] [] f fd) : L2.Fun K x q st f fd := by
  obtain ⟨oc, od, dV, kV, doc, pm, an, cdv, ct, osl, rfl, lk, hcd, hD, hK⟩ := F.ex
  rcases hD with ⟨_, rfl⟩ | ⟨e, _⟩
  · exact ⟨⟨oc, od, kV, doc, pm, an, cdv, ct, osl, rfl, lk, hcd⟩, F.kp⟩
  · exact absurd rfl e
namespace G48
open PySem PySem.Spec PyProof.Rows L2 Evl
/-! ### the built-ins that stand -/
structure Blt (mg : Str → Option Value) : Prop where
  zlen : mg "len" = none
  zisinstance : mg "isinstance" = none
  zint : mg "int" = none
  zbool : mg "bool" = none
  ztuple : mg "tuple" = none
  zlist : mg "list" = none
  zmax : mg "max" = none
  zmin : mg "min" = none
  zsum : mg "sum" = none
  zrange : mg "range" = none
  zenumerate : mg "enumerate" = none
  zzip : mg "zip" = none
  zall : mg "all" = none
  zany : mg "any" = none
  zsorted : mg "sorted" = none
  zstr : mg "str" = none
  zset : mg "set" = none
  zabs : mg "abs" = none
  zdivmod : mg "divmod" = none
  zbytes : mg "bytes" = none
  zdict : mg "dict" = none
  zValueError : mg "ValueError" = none

/-! ### defs that stand, and defs that keep a promise -/
structure GFun (K : PySem.W.Frag) (mg : Str → Option Value) (x : Str) (st : Stmt) : Prop where
  ex : ∃ f fd, mg x = some (.ref f) ∧ Fun K x x st f fd
structure CFun (K : PySem.W.Frag) (C : Addr) (m q : Str) (st : Stmt) : Prop where
  ex : ∃ f fd, Meth K C m f ∧ Fun K m q st f fd
structure PFun (K : PySem.W.Frag) (C : Addr) (m q : Str) (st : Stmt) : Prop where
  ex : ∃ p f fd, PropOf K C m p f ∧ Fun K m q st f fd
structure IFun (K : PySem.W.Frag) (mg : Str → Option Value) (x : Str) (C : Addr) (q : Str) (st : Stmt) : Prop where
  ex : ∃ f fd, Mk K C f ∧ mg x = some (.ref C) ∧ Fun K "__init__" q st f fd

section
variable (P : Program) (w : World) (K : PySem.W.Frag) (mg : Str → Option Value) (base : Heap)
structure Df (k : Nat) (x : Str) (ps : List Str) (sp : Sp) : Prop where
  ex : ∃ f fd, mg x = some (.ref f) ∧ PySem.W.keepIn K (.ref f) = true ∧ Binds K fd ps [] ∧ FnOk P w K mg base (L2.CX P w) k f fd ps sp
structure Mf (C : Addr) (k : Nat) (m : Str) (ps : List Str) (sp : Sp) : Prop where
  ex : ∃ f fd, Meth K C m f ∧ Binds K fd ps [] ∧ FnOk P w K mg base (L2.CX P w) k f fd ps sp
structure Pf (C : Addr) (k : Nat) (m : Str) (ps : List Str) (sp : Sp) : Prop where
  ex : ∃ p f fd, PropOf K C m p f ∧ Binds K fd ps [] ∧ FnOk P w K mg base (L2.CX P w) k f fd ps sp
structure If (x : Str) (C : Addr) (k : Nat) (ps : List Str) (sp : Sp) : Prop where
  ex : ∃ f fd, Mk K C f ∧ mg x = some (.ref C) ∧ Binds K fd ps [] ∧ FnOk P w K mg base (L2.CX P w) k f fd ps sp
end

section
variable {P : Program} {w : World} {K : PySem.W.Frag} {mg : Str → Option Value} {base : Heap}
/-- the body's question -/
abbrev Body (P : Program) (w : World) (K : PySem.W.Frag) (mg : Str → Option Value) (base : Heap) (qual : Str) (N : List Str) (st : Stmt) (f : Addr) (k : Nat) (sp : Sp) : Prop :=
  ∀ (cdv : Value) (A : Around) (outer : List Env) (s : Shared) (H : Hp) (vs : List V) (Q : VK) (E : XK), Room k (A.deeper (envOfC qual (defScope st) s.heap.objs.size f cdv)) → sp vs H Q E →
      ∃ t, PSs (cxOf (L2.CX P w) P w K mg base N qual (defScope st) f cdv A outer s H E) (defBody st) t ∧ t { nx := fun _ H' => Q .non H', rt := Q } (start N vs) H
abbrev BindL (q x : Str) (st : Stmt) (ps : List Str) : Prop := ∀ (kV doc pm : Value) (an : Option Addr) (cdv ct : Value) (us : List Value), us.length = ps.length → bindArgs (PySem.W.fnOf x q (defArgs st) (defBody st) (defScope st) .none kV doc pm an cdv ct) ⟨us, []⟩ = pure (ps.zip us)
theorem Df.of {x : Str} {st : Stmt} {N ps : List Str} {k : Nat} {sp : Sp} (G : GFun K mg x st) (S : FnScope N ps (defScope st)) (hb : BindL x x st ps)
    (len : ∀ vs H Q E, sp vs H Q E → vs.length = ps.length) (body : ∀ f, Body P w K mg base x N st f k sp) : Df P w K mg base (k + 1) x ps sp := by
  obtain ⟨f, fd, hg, F⟩ := G.ex
  exact ⟨f, fd, hg, F.kp, F.binds hb, F.okX S len (body f)⟩
theorem Mf.of {C : Addr} {m q : Str} {st : Stmt} {N ps : List Str} {k : Nat} {sp : Sp} (G : CFun K C m q st) (S : FnScope N ps (defScope st)) (hb : BindL q m st ps)
    (len : ∀ vs H Q E, sp vs H Q E → vs.length = ps.length) (body : ∀ f, Body P w K mg base q N st f k sp) : Mf P w K mg base C (k + 1) m ps sp := by
  obtain ⟨f, fd, hg, F⟩ := G.ex
  exact ⟨f, fd, hg, F.binds hb, F.okX S len (body f)⟩
theorem Pf.of {C : Addr} {m q : Str} {st : Stmt} {N ps : List Str} {k : Nat} {sp : Sp} (G : PFun K C m q st) (S : FnScope N ps (defScope st)) (hb : BindL q m st ps)
    (len : ∀ vs H Q E, sp vs H Q E → vs.length = ps.length) (body : ∀ f, Body P w K mg base q N st f k sp) : Pf P w K mg base C (k + 1) m ps sp := by
  obtain ⟨p, f, fd, hg, F⟩ := G.ex
  exact ⟨p, f, fd, hg, F.binds hb, F.okX S len (body f)⟩
theorem If.of {C : Addr} {x q : Str} {st : Stmt} {N ps : List Str} {k : Nat} {sp : Sp} (G : IFun K mg x C q st) (S : FnScope N ps (defScope st)) (hb : BindL q "__init__" st ps)
    (len : ∀ vs H Q E, sp vs H Q E → vs.length = ps.length) (body : ∀ f, Body P w K mg base q N st f k sp) : If P w K mg base x C (k + 1) ps sp := by
  obtain ⟨f, fd, hg, hm, F⟩ := G.ex
  exact ⟨f, fd, hg, hm, F.binds hb, F.okX S len (body f)⟩
end
section
variable {X : Cx} {k j : Nat} {x : Str} {ps : List Str} {sp : Sp} {E : XK} {p pos apos : Pos} {e o : Expr} {es : List Expr} {t : TA} {ta : TE} {C : Addr} {m : Str}
/-- f(e, ..), f a def of the text, raising as E says -/
theorem pg (D : Df X.prog X.w X.K X.mg X.base k x ps sp) (hr : Room j X.A) (ha : PA X (e :: es) t) (hx : Passes (L2.CX X.prog X.w) X E := by exact passL) (hk : k ≤ j := by decide) (hg : Gl X x := by rfl)
    (hd : (x == ("__debug__" : Str)) = false := by decide) (he : starEach (e :: es) X.env = (false, eval e X.env) :: starEach es X.env := by rfl) (hpl : (backTo pos (starEach es X.env)).any (·.1) = false := by rfl) :
    PE X (.Call (.Name x p) (e :: es) [] pos) (tCall sp [] E t) := by
  obtain ⟨f, fd, hm, kp, b, F⟩ := D.ex
  exact pe_call F (hr.mono hk) hg hm kp b .nil hx ha hd he hpl
theorem pg0 (D : Df X.prog X.w X.K X.mg X.base k x ps sp) (hr : Room j X.A) (hx : Passes (L2.CX X.prog X.w) X E := by exact passL) (hk : k ≤ j := by decide) (hg : Gl X x := by rfl)
    (hd : (x == ("__debug__" : Str)) = false := by decide) : PE X (.Call (.Name x p) [] [] pos) (tCall sp [] E tNil) := by
  obtain ⟨f, fd, hm, kp, b, F⟩ := D.ex
  exact pe_call0 F (hr.mono hk) hg hm kp b .nil hx hd
/-- o.m(e, ..), o.m() -/
theorem pm {pl : Sem Bool} (ho : PE X o ta) (c : Cls X.K C) (D : Mf X.prog X.w X.K X.mg X.base C k m ps sp) (hr : Room j X.A) (ha : PA X (e :: es) t) (hx : Passes (L2.CX X.prog X.w) X E := by exact passL) (hk : k ≤ j := by decide)
    (hst : starEach (e :: es) X.env = (false, eval e X.env) :: starEach es X.env := by rfl) (hpl : (backTo pos (starEach es X.env)).any (·.1) = false := by rfl)
    (ht : eval (.Call (.Attribute o m apos) (e :: es) [] pos) X.env = (do
      let ov ← eval o X.env
      standAt apos.atName
      let (f, first) ← holding [ov] (getMethod ov m pl)
      callWith pos f first (backTo pos (starEach (e :: es) X.env)) (backToKw pos (keywordEach [] X.env))) := by rfl) :
    PE X (.Call (.Attribute o m apos) (e :: es) [] pos) (tMeth C m sp [] E ta t) := by
  obtain ⟨f, fd, hm, b, F⟩ := D.ex
  exact pe_meth ho c hm F (hr.mono hk) b .nil hx ha hst hpl ht
theorem pm0 {pl : Sem Bool} (ho : PE X o ta) (c : Cls X.K C) (D : Mf X.prog X.w X.K X.mg X.base C k m ps sp) (hr : Room j X.A) (hx : Passes (L2.CX X.prog X.w) X E := by exact passL) (hk : k ≤ j := by decide)
    (ht : eval (.Call (.Attribute o m apos) [] [] pos) X.env = (do
      let ov ← eval o X.env
      standAt apos.atName
      let (f, first) ← holding [ov] (getMethod ov m pl)
      callWith pos f first (backTo pos (starEach [] X.env)) (backToKw pos (keywordEach [] X.env))) := by rfl) :
    PE X (.Call (.Attribute o m apos) [] [] pos) (tMeth C m sp [] E ta tNil) := by
  obtain ⟨f, fd, hm, b, F⟩ := D.ex
  exact pe_meth0 ho c hm F (hr.mono hk) b .nil hx ht
/-- o.m, a property -/
theorem pp (ho : PE X o ta) (c : Cls X.K C) (D : Pf X.prog X.w X.K X.mg X.base C k m ps sp) (hr : Room j X.A) (hk : k + 1 ≤ j := by decide) (hab : attributeBase o m X.env (eval o X.env) = eval o X.env := by rfl) :
    PE X (.Attribute o m pos) (tProp C sp [] E0 ta) := by
  obtain ⟨p, f, fd, hm, b, F⟩ := D.ex
  exact pe_prop ho c hm F (hr.mono hk) b .nil passL hab
/-- C(e, ..) -/
theorem pk (D : If X.prog X.w X.K X.mg X.base x C k ps sp) (hr : Room j X.A) (ha : PA X (e :: es) t) (hx : Passes (L2.CX X.prog X.w) X E := by exact passL) (hk : k + 1 ≤ j := by decide) (hg : Gl X x := by rfl)
    (hd : (x == ("__debug__" : Str)) = false := by decide) (he : starEach (e :: es) X.env = (false, eval e X.env) :: starEach es X.env := by rfl) (hpl : (backTo pos (starEach es X.env)).any (·.1) = false := by rfl) :
    PE X (.Call (.Name x p) (e :: es) [] pos) (tMake C sp [] E t) := by
  obtain ⟨f, fd, M, hm, b, F⟩ := D.ex
  exact pe_make M F (hr.mono hk) hg hm b .nil hx ha hd he hpl
/-- a call of a def one level in (by a built-in) -/
theorem run_in1 {f : Addr} {fd : FuncData} {ds : List Value} {dvs : List V} {pins : List (Addr × Obj)} {σ : L2.St} {H : Hp} {s : Shared} {Q : VK} {us : List Value} {vs : List V} (F : FnOk X.prog X.w X.K X.mg X.base (L2.CX X.prog X.w) k f fd ps sp) (hr : Room (k + 1) X.A) (hb : Binds X.K fd ps ds) (hd : Vals dvs ds) (hx : Passes (L2.CX X.prog X.w) X E)
    (I : Inv X pins σ H s) (r : Vals vs us) (h : sp (vs ++ dvs) H Q E) : wpAny (model X.prog X.w) X.A.in1 (call (.ref f) us) (EP X pins σ Q) X.xe s := by
  have r2 : Vals (vs ++ dvs) (us ++ ds) := r.append hd
  have hl : (us ++ ds).length = ps.length := by rw [← r2.length]; exact F.len _ _ _ _ h
  refine wpAny_call (codeAny_mono (F.run X.A.in1 X.stack s H ⟨us, []⟩ (us ++ ds) (vs ++ dvs) Q E hr.in1 I.env0.in1 (hb s us I.kIn hl) r2 h) fun r s' hq => ?_)
  cases r with
  | error e => exact hx pins σ H s e s' I hq
  | ok fl =>
    cases fl with
    | ret u => exact I.after hq
    | next => exact False.elim hq
    | brk => exact False.elim hq
    | cont => exact False.elim hq
/-- len(o), by the own __len__ -/
def rLenO (C : Addr) (sp : Sp) (E : XK) : List V → Hp → VK → Prop := fun xs H Q => ∃ a dx fs, xs = [.ref a] ∧ H a = some (.ins C dx fs) ∧ sp [.ref a] H (fun v H2 => ∃ n : Int, v = .int n ∧ (0 ≤ n ∧ n < 2 ^ 63) ∧ Q (.int n) H2) E
theorem call_lenO (D : Mf X.prog X.w X.K X.mg X.base C k "__len__" ps sp) (hr : Room j X.A) (hk : k + 1 ≤ j := by decide) (hx : Passes (L2.CX X.prog X.w) X E := by exact passL) : CallR X (.builtin "len") (rLenO C sp E) := by
  intro pins s σ H xs us Q I r h
  obtain ⟨a, dx, fs, rfl, ea, q⟩ := h
  obtain ⟨u, rfl, rx⟩ := vals1 r
  obtain rfl : u = Value.ref a := rx
  obtain ⟨f, fd, hm, b, F⟩ := D.ex
  obtain ⟨mA, O, _, _, _, _⟩ := ins_get I.hok ea
  obtain ⟨od, J, _⟩ := O.look
  obtain ⟨m0, fr⟩ := I.fr
  refine PySem.W.len_K fr I.ok.mod.kin J hm.at_ hm.fn ?_
  refine thn (run_in1 F (hr.mono hk) b .nil hx I (us := [.ref a]) (vs := [.ref a]) (.cons rfl .nil) q) fun u s1 ⟨v, H1, I1, rv, n, ev, hn, q1⟩ => ?_
  subst ev
  obtain ⟨tk, rfl⟩ := rv
  exact ⟨hn, .int n, H1, I1.tok _, ⟨_, rfl⟩, q1⟩
end
end G48
namespace G48
open PySem PySem.Spec PyProof.Rows L2 Evl
/-! ### heaps: what stands is carried over -/
/-- all but l stands -/
def Exb (l : Addr) (H H' : Hp) : Prop := ∀ b o, b ≠ l → H b = some o → H' b = some o
theorem Exb.upd {H : Hp} {l : Addr} {o : HO} : Exb l H (upd H l o) := fun b u nb e => by rw [upd_ne nb]; exact e
theorem Exb.of {l : Addr} {H H' : Hp} (e : Ex H H') : Exb l H H' := fun b u _ h => e b u h
theorem Exb.trans {l : Addr} {H H1 H2 : Hp} (a : Exb l H H1) (b : Exb l H1 H2) : Exb l H H2 := fun c o n h => b c o n (a c o n h)
theorem Exb.ex {l : Addr} {H0 H H' : Hp} (h : H0 l = none) (a : Ex H0 H) (b : Exb l H H') : Ex H0 H' := fun c o e => b c o (ne_of_none e h) (a c o e)
theorem ex_at {H H' : Hp} {a : Addr} {o : HO} (e : Ex H H') (h : H a = some o) : H' a = some o := e a o h
theorem exb_at {H H' : Hp} {l a : Addr} {o : HO} (e : Exb l H H') (n : a ≠ l) (h : H a = some o) : H' a = some o := e a o n h
theorem exb_t {K : PySem.W.Frag} {H H' : Hp} {l a : Addr} {xs ys : List V} (e : Exb l H H') (hl : H l = some (.lst ys)) (h : SqT K H a xs) : SqT K H' a xs := by
  rcases h with (h | ⟨o, h⟩) | h
  · exact .inl (.inl (e _ _ (ne_of h hl (by intro z; cases z)) h))
  · exact .inl (.inr ⟨o, e _ _ (ne_of h hl (by intro z; cases z)) h⟩)
  · exact .inr h
theorem exb_l {K : PySem.W.Frag} {H H' : Hp} {l a : Addr} {xs : List V} (e : Exb l H H') (n : a ≠ l) (h : SqL K H a xs) : SqL K H' a xs := by
  rcases h with (h | ⟨o, h⟩) | h
  · exact .inl (.inl (e _ _ n h))
  · exact .inl (.inr ⟨o, e _ _ n h⟩)
  · exact .inr h
theorem exb_ins {H H' : Hp} {l a C dx : Addr} {fs : List (Str × V)} {ys : List V} (e : Exb l H H') (hl : H l = some (.lst ys)) (h : H a = some (.ins C dx fs)) : H' a = some (.ins C dx fs) :=
  e _ _ (ne_of h hl (by intro z; cases z)) h


theorem sz1000 {n : Nat} (h : n ≤ 1000) : n ≤ sizeLine := Nat.le_trans h (by rw [sizeLine_eq]; decide)
theorem lt1000 {n : Nat} (h : n < 1000) : n < sizeLine := Nat.lt_trans h (by rw [sizeLine_eq]; decide)
/-! ### a reading's first step, by what stands at its head -/
section
variable {K : PySem.W.Frag} {σ : L2.St} {H H' : Hp} {ta tb tc te : TE} {t u : TT} {x y z v : V} {Q : VK} {QB : Bool → Hp → Prop} {i : Nat} {D : Ends} {t1 t2 t3 : TS} {tr : TA} {QA : List V → Hp → Prop} {r r' : R2} {a C dx : Addr} {fs : List (Str × V)} {f m : Str} {b c : Bool} {xs ys : List V} {sp : Sp} {E : XK} {ra : List V → Hp → VK → Prop}
theorem g_var (h : σ[i]? = some (some v)) (q : Q v H) : tVar i σ H Q := ⟨v, h, q⟩
theorem g_c (q : Q v H) : tC v σ H Q := q
theorem g_op (q : ta σ H fun x H1 => tb σ H1 fun y H2 => r x y H2 Q) : tOp r ta tb σ H Q := q
theorem g_un {r : V → Hp → VK → Prop} (q : ta σ H fun x H1 => r x H1 Q) : tUn r ta σ H Q := q
theorem g_nil (q : QA [] H) : tNil σ H QA := q
theorem g_cons (q : ta σ H fun x H1 => tr σ H1 fun xs H2 => QA (x :: xs) H2) : tCons ta tr σ H QA := q
theorem g_cb (q : tr σ H fun vs H1 => ra vs H1 Q) : tCB ra tr σ H Q := q
theorem app_nil_sp (sp : Sp) (Q : VK) (E : XK) : (fun (vs : List V) (H1 : Hp) => sp (vs ++ []) H1 Q E) = fun vs H1 => sp vs H1 Q E := by
  funext vs H1
  rw [List.append_nil]
theorem g_call (q : tr σ H fun vs H1 => sp vs H1 Q E) : tCall sp [] E tr σ H Q := by
  show tr σ H (fun vs H1 => sp (vs ++ []) H1 Q E)
  rw [app_nil_sp]
  exact q
def kT (Q : VK) (xs : List V) (H1 : Hp) : Prop := xs.length ≤ sizeLine ∧ ∀ p, H1 p = none → Q (.ref p) (upd H1 p (.tup xs))
def kL (Q : VK) (xs : List V) (H1 : Hp) : Prop := xs.length ≤ sizeLine ∧ ∀ p, H1 p = none → Q (.ref p) (upd H1 p (.lst xs))
theorem g_tup (q : tr σ H (kT Q)) : tTup tr σ H Q := q
theorem g_lst (q : tr σ H (kL Q)) : tLst tr σ H Q := q
theorem g_kT (h : xs.length ≤ sizeLine) (q : ∀ p H2, H p = none → Ex H H2 → H2 p = some (.tup xs) → Q (.ref p) H2) : kT Q xs H := ⟨h, fun p hp => q p _ hp (Ex.new hp) upd_same⟩
theorem g_kL (h : xs.length ≤ sizeLine) (q : ∀ p H2, H p = none → Ex H H2 → H2 p = some (.lst xs) → Q (.ref p) H2) : kL Q xs H := ⟨h, fun p hp => q p _ hp (Ex.new hp) upd_same⟩
def kTest (Q : Bool → Hp → Prop) : VK := fun x H' => ∃ k, x = .bl k ∧ Q k H'
theorem g_test (q : ta σ H (kTest QB)) : tTest ta σ H QB := q
theorem g_B (q : ta σ H (kTest QB)) : tB ta σ H QB := q
theorem g_kTest (q : QB b H) : kTest QB (.bl b) H := ⟨b, rfl, q⟩
def kNot (Q : Bool → Hp → Prop) (c : Bool) (H1 : Hp) : Prop := Q (!c) H1
theorem g_not (q : t σ H (kNot QB)) : tNot t σ H QB := q
theorem g_kNotT (q : QB false H) : kNot QB true H := q
theorem g_kNotF (q : QB true H) : kNot QB false H := q
theorem g_kNotS (q : QB (!c) H) : kNot QB c H := q
def kAnd (u : TT) (σ : L2.St) (Q : Bool → Hp → Prop) (c : Bool) (H1 : Hp) : Prop := if c = true then u σ H1 Q else Q false H1
def kOr (u : TT) (σ : L2.St) (Q : Bool → Hp → Prop) (c : Bool) (H1 : Hp) : Prop := if c = true then Q true H1 else u σ H1 Q
theorem g_and (q : t σ H (kAnd u σ QB)) : tAnd t u σ H QB := q
theorem g_or (q : t σ H (kOr u σ QB)) : tOr t u σ H QB := q
theorem g_kAndT (q : u σ H QB) : kAnd u σ QB true H := q
theorem g_kAndF (q : QB false H) : kAnd u σ QB false H := q
theorem g_kOrT (q : QB true H) : kOr u σ QB true H := q
theorem g_kOrF (q : u σ H QB) : kOr u σ QB false H := q
theorem g_kAnd (h1 : c = true → u σ H QB) (h2 : c = false → QB false H) : kAnd u σ QB c H := by
  cases c with
  | true => exact h1 rfl
  | false => exact h2 rfl
theorem g_kOr (h1 : c = true → QB true H) (h2 : c = false → u σ H QB) : kOr u σ QB c H := by
  cases c with
  | true => exact h1 rfl
  | false => exact h2 rfl
def kAndV (tb : TE) (σ : L2.St) (Q : VK) : VK := fun x H1 => ∃ c, x = .bl c ∧ if c = true then tb σ H1 Q else Q (.bl false) H1
def kOrV (tb : TE) (σ : L2.St) (Q : VK) : VK := fun x H1 => ∃ c, x = .bl c ∧ if c = true then Q (.bl true) H1 else tb σ H1 Q
theorem g_andV (q : ta σ H (kAndV tb σ Q)) : tAndV ta tb σ H Q := q
theorem g_orV (q : ta σ H (kOrV tb σ Q)) : tOrV ta tb σ H Q := q
theorem g_kAndVT (q : tb σ H Q) : kAndV tb σ Q (.bl true) H := ⟨true, rfl, q⟩
theorem g_kAndVF (q : Q (.bl false) H) : kAndV tb σ Q (.bl false) H := ⟨false, rfl, q⟩
theorem g_kOrVT (q : Q (.bl true) H) : kOrV tb σ Q (.bl true) H := ⟨true, rfl, q⟩
theorem g_kOrVF (q : tb σ H Q) : kOrV tb σ Q (.bl false) H := ⟨false, rfl, q⟩
theorem g_kAndV (h1 : c = true → tb σ H Q) (h2 : c = false → Q (.bl false) H) : kAndV tb σ Q (.bl c) H := by
  cases c with
  | true => exact g_kAndVT (h1 rfl)
  | false => exact g_kAndVF (h2 rfl)
theorem g_kOrV (h1 : c = true → Q (.bl true) H) (h2 : c = false → tb σ H Q) : kOrV tb σ Q (.bl c) H := by
  cases c with
  | true => exact g_kOrVT (h1 rfl)
  | false => exact g_kOrVF (h2 rfl)
def kNotV (Q : VK) : VK := fun x H1 => ∃ c, x = .bl c ∧ Q (.bl (!c)) H1
theorem g_notV (q : ta σ H (kNotV Q)) : tNotV ta σ H Q := q
theorem g_kNotV (q : Q (.bl (!c)) H) : kNotV Q (.bl c) H := ⟨c, rfl, q⟩
def kIf (ta tb : TE) (σ : L2.St) (Q : VK) (c : Bool) (H1 : Hp) : Prop := if c = true then ta σ H1 Q else tb σ H1 Q
theorem g_if (q : t σ H (kIf ta tb σ Q)) : tIf t ta tb σ H Q := q
theorem g_kIfT (q : ta σ H Q) : kIf ta tb σ Q true H := q
theorem g_kIfF (q : tb σ H Q) : kIf ta tb σ Q false H := q
theorem g_kIf (h1 : c = true → ta σ H Q) (h2 : c = false → tb σ H Q) : kIf ta tb σ Q c H := by
  cases c with
  | true => exact h1 rfl
  | false => exact h2 rfl
def kIfS (t u : TS) (D : Ends) (σ : L2.St) (c : Bool) (H1 : Hp) : Prop := if c = true then t D σ H1 else u D σ H1
theorem g_ifS (q : t σ H (kIfS t1 t2 D σ)) : tIfS t t1 t2 D σ H := q
theorem g_kIfST (q : t1 D σ H) : kIfS t1 t2 D σ true H := q
theorem g_kIfSF (q : t2 D σ H) : kIfS t1 t2 D σ false H := q
theorem g_kIfS (h1 : c = true → t1 D σ H) (h2 : c = false → t2 D σ H) : kIfS t1 t2 D σ c H := by
  cases c with
  | true => exact h1 rfl
  | false => exact h2 rfl
def kChain (r' : R2) (tc : TE) (σ : L2.St) (y : V) (Q : VK) : VK := fun z H3 => ∃ k, z = .bl k ∧ (if k = true then tc σ H3 fun w' H4 => r' y w' H4 Q else Q (.bl false) H3)
theorem g_chain (q : ta σ H fun x H1 => tb σ H1 fun y H2 => r x y H2 (kChain r' tc σ y Q)) : tChain r r' ta tb tc σ H Q := q
theorem g_kChainT (q : tc σ H fun w' H4 => r' y w' H4 Q) : kChain r' tc σ y Q (.bl true) H := ⟨true, rfl, q⟩
theorem g_kChainF (q : Q (.bl false) H) : kChain r' tc σ y Q (.bl false) H := ⟨false, rfl, q⟩
theorem g_kChain (h1 : c = true → tc σ H fun w' H4 => r' y w' H4 Q) (h2 : c = false → Q (.bl false) H) : kChain r' tc σ y Q (.bl c) H := by
  cases c with
  | true => exact g_kChainT (h1 rfl)
  | false => exact g_kChainF (h2 rfl)
theorem y_kAnd (hc : c = true) (q : u σ H QB) : kAnd u σ QB c H := by rw [hc]; exact q
theorem n_kAnd (hc : c = false) (q : QB false H) : kAnd u σ QB c H := by rw [hc]; exact q
theorem y_kOr (hc : c = true) (q : QB true H) : kOr u σ QB c H := by rw [hc]; exact q
theorem n_kOr (hc : c = false) (q : u σ H QB) : kOr u σ QB c H := by rw [hc]; exact q
theorem y_kNot (hc : c = true) (q : QB false H) : kNot QB c H := by rw [hc]; exact q
theorem n_kNot (hc : c = false) (q : QB true H) : kNot QB c H := by rw [hc]; exact q
theorem y_kAndV (hc : c = true) (q : tb σ H Q) : kAndV tb σ Q (.bl c) H := by rw [hc]; exact g_kAndVT q
theorem n_kAndV (hc : c = false) (q : Q (.bl false) H) : kAndV tb σ Q (.bl c) H := by rw [hc]; exact g_kAndVF q
theorem y_kOrV (hc : c = true) (q : Q (.bl true) H) : kOrV tb σ Q (.bl c) H := by rw [hc]; exact g_kOrVT q
theorem n_kOrV (hc : c = false) (q : tb σ H Q) : kOrV tb σ Q (.bl c) H := by rw [hc]; exact g_kOrVF q
theorem y_kIf (hc : c = true) (q : ta σ H Q) : kIf ta tb σ Q c H := by rw [hc]; exact q
theorem n_kIf (hc : c = false) (q : tb σ H Q) : kIf ta tb σ Q c H := by rw [hc]; exact q
theorem y_kIfS (hc : c = true) (q : t1 D σ H) : kIfS t1 t2 D σ c H := by rw [hc]; exact q
theorem n_kIfS (hc : c = false) (q : t2 D σ H) : kIfS t1 t2 D σ c H := by rw [hc]; exact q
theorem y_kChain (hc : c = true) (q : tc σ H fun w' H4 => r' y w' H4 Q) : kChain r' tc σ y Q (.bl c) H := by rw [hc]; exact g_kChainT q
theorem n_kChain (hc : c = false) (q : Q (.bl false) H) : kChain r' tc σ y Q (.bl c) H := by rw [hc]; exact g_kChainF q
/-! objects -/
def kFld (K : PySem.W.Frag) (f : Str) (Q : VK) : VK := fun x H1 => ∃ a C dx fs v, x = .ref a ∧ H1 a = some (.ins C dx fs) ∧ Cls K C ∧ NoAttr K C f ∧ fs.lookup f = some v ∧ Q v H1
theorem g_fld (q : ta σ H (kFld K f Q)) : tFld K ta f σ H Q := q
theorem g_kFld (h : H a = some (.ins C dx fs)) (c : Cls K C) (n : NoAttr K C f) (l : fs.lookup f = some v) (q : Q v H) : kFld K f Q (.ref a) H := ⟨a, C, dx, fs, v, rfl, h, c, n, l, q⟩
def kMeth (C : Addr) (m : Str) (sp : Sp) (E : XK) (tr : TA) (σ : L2.St) (Q : VK) : VK := fun x H1 => ∃ a dx fs, x = .ref a ∧ H1 a = some (.ins C dx fs) ∧ fs.lookup m = none ∧ tr σ H1 fun vs H2 => sp (x :: vs) H2 Q E
theorem g_meth (q : ta σ H (kMeth C m sp E tr σ Q)) : tMeth C m sp [] E ta tr σ H Q := by
  have e : (fun (x : V) (H1 : Hp) => ∃ a dx fs, x = .ref a ∧ H1 a = some (.ins C dx fs) ∧ fs.lookup m = none ∧ tr σ H1 fun vs H2 => sp (x :: (vs ++ [])) H2 Q E) = kMeth C m sp E tr σ Q := by
    funext x H1
    have e2 : (fun (vs : List V) (H2 : Hp) => sp (x :: (vs ++ [])) H2 Q E) = fun vs H2 => sp (x :: vs) H2 Q E := by
      funext vs H2
      rw [List.append_nil]
    unfold kMeth
    rw [e2]
  show ta σ H (fun (x : V) (H1 : Hp) => ∃ a dx fs, x = .ref a ∧ H1 a = some (.ins C dx fs) ∧ fs.lookup m = none ∧ tr σ H1 fun vs H2 => sp (x :: (vs ++ [])) H2 Q E)
  rw [e]
  exact q
theorem g_kMeth (h : H a = some (.ins C dx fs)) (l : fs.lookup m = none) (q : tr σ H fun vs H2 => sp (.ref a :: vs) H2 Q E) : kMeth C m sp E tr σ Q (.ref a) H := ⟨a, dx, fs, rfl, h, l, q⟩
def kProp (C : Addr) (sp : Sp) (E : XK) (Q : VK) : VK := fun x H1 => ∃ a dx fs, x = .ref a ∧ H1 a = some (.ins C dx fs) ∧ sp [.ref a] H1 Q E
theorem g_prop (q : ta σ H (kProp C sp E Q)) : tProp C sp [] E ta σ H Q := q
theorem g_kProp (h : H a = some (.ins C dx fs)) (q : sp [.ref a] H Q E) : kProp C sp E Q (.ref a) H := ⟨a, dx, fs, rfl, h, q⟩
/-- a new instance: its own dict at dx -/
def kMake (C : Addr) (sp : Sp) (E : XK) (Q : VK) (vs : List V) (H1 : Hp) : Prop := ∀ x dx, H1 x = none → H1 dx = none → dx ≠ x → sp (.ref x :: vs) (upd (upd H1 dx (.own x)) x (.ins C dx [])) (fun v H2 => v = .non ∧ Q (.ref x) H2) E
theorem g_make (q : tr σ H (kMake C sp E Q)) : tMake C sp [] E tr σ H Q := by
  have e : (fun (vs : List V) (H1 : Hp) => ∀ x dx, H1 x = none → H1 dx = none → dx ≠ x → sp (.ref x :: (vs ++ [])) (upd (upd H1 dx (.own x)) x (.ins C dx [])) (fun v H2 => v = .non ∧ Q (.ref x) H2) E) = kMake C sp E Q := by
    funext vs H1
    rw [List.append_nil] <;> rfl
  show tr σ H (fun (vs : List V) (H1 : Hp) => ∀ x dx, H1 x = none → H1 dx = none → dx ≠ x → sp (.ref x :: (vs ++ [])) (upd (upd H1 dx (.own x)) x (.ins C dx [])) (fun v H2 => v = .non ∧ Q (.ref x) H2) E)
  rw [e]
  exact q
def kSFld (K : PySem.W.Frag) (f : Str) (D : Ends) (σ : L2.St) (y : V) : VK := fun x H2 => ∃ a C dx fs, x = .ref a ∧ H2 a = some (.ins C dx fs) ∧ Cls K C ∧ NoAttr K C f ∧ fs.length < 1000 ∧ D.nx σ (upd H2 a (.ins C dx (putF f y fs)))
theorem g_sfld (q : tb σ H fun y H1 => ta σ H1 (kSFld K f D σ y)) : sFld K ta tb f D σ H := q
theorem g_kSFld (h : H a = some (.ins C dx fs)) (c : Cls K C) (n : NoAttr K C f) (l : fs.length < 1000) (q : ∀ H2, Exb a H H2 → H2 a = some (.ins C dx (putF f y fs)) → D.nx σ H2) : kSFld K f D σ y (.ref a) H := ⟨a, C, dx, fs, rfl, h, c, n, l, q _ Exb.upd upd_same⟩
/-! slices, ranges as lists, methods of the built-in types -/
theorem g_sl {rs : V → Option Int → Option Int → Hp → VK → Prop} {tl th : TO} (q : te σ H fun x H1 => tl σ H1 fun l H2 => th σ H2 fun h H3 => rs x l h H3 Q) : tSl rs te tl th σ H Q := q
theorem g_nopart {QO : Option Int → Hp → Prop} (q : QO none H) : tNoPart σ H QO := q
def kPart (QO : Option Int → Hp → Prop) : VK := fun x H1 => ∃ i, x = .int i ∧ QO (some i) H1
theorem g_part {QO : Option Int → Hp → Prop} (q : te σ H (kPart QO)) : tPart te σ H QO := q
theorem g_kPart {QO : Option Int → Hp → Prop} {i : Int} (q : QO (some i) H) : kPart QO (.int i) H := ⟨i, rfl, q⟩
def kLRg (Q : VK) (a b : Int) (H1 : Hp) : Prop := RgOk a b ∧ ∀ q, H1 q = none → Q (.ref q) (upd H1 q (.lst (rgV a b)))
theorem g_lstRg {tg : L2.St → Hp → (Int → Int → Hp → Prop) → Prop} (q : tg σ H (kLRg Q)) : tLstRg tg σ H Q := q
theorem g_kLRg {i j : Int} (h : RgOk i j) (q : ∀ p H2, H p = none → Ex H H2 → H2 p = some (.lst (rgV i j)) → Q (.ref p) H2) : kLRg Q i j H := ⟨h, fun p hp => q p _ hp (Ex.new hp) upd_same⟩
def kRg1 (R : Int → Int → Hp → Prop) : VK := fun x H1 => ∃ n, x = .int n ∧ R 0 n H1
theorem g_rg1 {R : Int → Int → Hp → Prop} (q : ta σ H (kRg1 R)) : tRg1 ta σ H R := q
theorem g_kRg1 {R : Int → Int → Hp → Prop} {n : Int} (q : R 0 n H) : kRg1 R (.int n) H := ⟨n, rfl, q⟩
theorem g_rg2 {R : Int → Int → Hp → Prop} (q : ta σ H fun x H1 => tb σ H1 fun y H2 => ∃ i j, x = .int i ∧ y = .int j ∧ R i j H2) : tRg2 ta tb σ H R := q
def kBM (K : PySem.W.Frag) (T : String) (r : V → List V → Hp → VK → Prop) (tr : TA) (σ : L2.St) (Q : VK) : VK := fun x H1 => tyV K T x H1 ∧ tr σ H1 fun xs H2 => r x xs H2 Q
theorem g_bm {r : V → List V → Hp → VK → Prop} {T : String} (q : ta σ H (kBM K T r tr σ Q)) : tBM K T r ta tr σ H Q := q
theorem g_kBM_list {r : V → List V → Hp → VK → Prop} (h : SqL K H a xs) (q : tr σ H fun vs H2 => r (.ref a) vs H2 Q) : kBM K "list" r tr σ Q (.ref a) H := ⟨.inl ⟨rfl, xs, h⟩, q⟩
/-! statements -/
theorem g_seq (q : t1 { D with nx := t2 D } σ H) : tSeq t1 t2 D σ H := q
theorem g_next (q : D.nx σ H) : tNext D σ H := q
theorem g_break (q : D.bk σ H) : tBreak D σ H := q
theorem g_cont (q : D.ct σ H) : tCont D σ H := q
theorem g_asg {g : TG} (q : te σ H fun x H1 => g x σ H1 D.nx) : tAsg te g D σ H := q
theorem g_ret (q : te σ H D.rt) : tRet te D σ H := q
theorem g_retN (q : D.rt .non H) : tRetN D σ H := q
theorem g_drop (q : te σ H fun _ H1 => D.nx σ H1) : tDrop te D σ H := q
theorem gg_name {QS : L2.St → Hp → Prop} (q : QS (σ.set i (some v)) H) : gName i v σ H QS := q
theorem gg_tup {QS : L2.St → Hp → Prop} {n : Nat} {gs : TGs} (h : SqT K H a xs) (l : xs.length = n) (q : gs xs σ H QS) : gTup K n gs (.ref a) σ H QS := ⟨a, xs, rfl, h, l, q⟩
theorem gg_cons {QS : L2.St → Hp → Prop} {g : TG} {gs : TGs} (q : g v σ H fun σ' H' => gs xs σ' H' QS) : gCons g gs (v :: xs) σ H QS := ⟨v, xs, rfl, q⟩
theorem gg_nil {QS : L2.St → Hp → Prop} (q : QS σ H) : gNil [] σ H QS := ⟨rfl, q⟩
theorem gg_sub {QS : L2.St → Hp → Prop} {st : TSet} (q : ta σ H fun o H1 => tb σ H1 fun k H2 => st o k v H2 fun H3 => QS σ H3) : gSub ta tb st v σ H QS := q
theorem g_setL {QH : Hp → Prop} {l : Addr} {k : Int} {j : Nat} (h : H l = some (.lst xs)) (e : ixN xs.length k = some j) (q : ∀ H2, Exb l H H2 → H2 l = some (.lst (xs.set j v)) → QH H2) : rSetL (.ref l) (.int k) v H QH := ⟨l, xs, k, j, rfl, rfl, h, e, q _ Exb.upd upd_same⟩
def kPar (i j : Nat) (D : Ends) (σ : L2.St) (vs : List V) (H1 : Hp) : Prop := ∃ v w, vs = [v, w] ∧ D.nx ((σ.set i (some v)).set j (some w)) H1
theorem g_par {j : Nat} (q : tr σ H (kPar i j D σ)) : tPar i j tr D σ H := q
theorem g_kPar {j : Nat} (q : D.nx ((σ.set i (some x)).set j (some y)) H) : kPar i j D σ [x, y] H := ⟨x, y, rfl, q⟩
theorem g_aug {ti : TIp} (h : σ[i]? = some (some x)) (q : te σ H fun y H1 => ti x y H1 fun z H2 => D.nx (σ.set i (some z)) H2) : tAug i te ti D σ H := ⟨x, h, q⟩
theorem g_ipI {g : Int → Int → Int} {p k : Int} (q : Q (.int (g p k)) H) : ipI g (.int p) (.int k) H Q := ⟨p, k, rfl, rfl, q⟩
/-- while: W with its measure -/
def kWh (W : Nat → L2.St → Hp → Prop) (tb : TS) (D : Ends) (m : Nat) (σ : L2.St) (b : Bool) (H1 : Hp) : Prop :=
  if b = true then ∃ N : L2.St → Hp → Prop, (∀ σ' H', N σ' H' → ∃ m', m' < m ∧ W m' σ' H') ∧ tb { D with nx := N, ct := N, bk := D.nx } σ H1 else D.nx σ H1
theorem g_while (W : Nat → L2.St → Hp → Prop) (m0 : Nat) (h0 : W m0 σ H) (hs : ∀ m σ' H', W m σ' H' → t σ' H' (kWh W t1 D m σ')) : tWhile t t1 D σ H := ⟨W, ⟨m0, h0⟩, hs⟩
theorem g_kWhT {W : Nat → L2.St → Hp → Prop} {m : Nat} (q : t1 { D with nx := fun σ' H' => ∃ m', m' < m ∧ W m' σ' H', ct := fun σ' H' => ∃ m', m' < m ∧ W m' σ' H', bk := D.nx } σ H) : kWh W t1 D m σ true H := ⟨_, fun _ _ h => h, q⟩
theorem g_kWhF {W : Nat → L2.St → Hp → Prop} {m : Nat} (q : D.nx σ H) : kWh W t1 D m σ false H := q
theorem g_kWh {W : Nat → L2.St → Hp → Prop} {m : Nat} (h1 : b = true → t1 { D with nx := fun σ' H' => ∃ m', m' < m ∧ W m' σ' H', ct := fun σ' H' => ∃ m', m' < m ∧ W m' σ' H', bk := D.nx } σ H) (h2 : b = false → D.nx σ H) : kWh W t1 D m σ b H := by
  cases b with
  | true => exact g_kWhT (h1 rfl)
  | false => exact g_kWhF (h2 rfl)
theorem y_kWh {W : Nat → L2.St → Hp → Prop} {m : Nat} (hc : b = true) (q : t1 { D with nx := fun σ' H' => ∃ m', m' < m ∧ W m' σ' H', ct := fun σ' H' => ∃ m', m' < m ∧ W m' σ' H', bk := D.nx } σ H) : kWh W t1 D m σ b H := by rw [hc]; exact g_kWhT q
theorem n_kWh {W : Nat → L2.St → Hp → Prop} {m : Nat} (hc : b = false) (q : D.nx σ H) : kWh W t1 D m σ b H := by rw [hc]; exact g_kWhF q
/-- for over a list, a tuple, a range -/
def kForL (K : PySem.W.Frag) (g : TG) (tb : TS) (D : Ends) (σ : L2.St) : VK := fun x H1 => tFor (iList K (tC x)) g tb D σ H1
theorem g_forL {g : TG} (q : te σ H (kForL K g t1 D σ)) : tFor (iList K te) g t1 D σ H := q
theorem g_kForL {g : TG} (h : SqL K H a xs) (Pv : Nat → L2.St → Hp → Prop) (h0 : Pv 0 σ H) (hl : ∀ i σ H, i ≤ xs.length → Pv i σ H → SqL K H a xs)
    (hs : ∀ i x σ H, xs[i]? = some x → Pv i σ H → g x σ H fun σ2 H2 => t1 { D with nx := Pv (i + 1), ct := Pv (i + 1), bk := D.nx } σ2 H2) (hd : ∀ σ H, Pv xs.length σ H → D.nx σ H) : kForL K g t1 D σ (.ref a) H :=
  ⟨a, rfl, ⟨xs, h⟩, for_list Pv h0 hl hs hd⟩
def kForT (K : PySem.W.Frag) (g : TG) (tb : TS) (D : Ends) (σ : L2.St) : VK := fun x H1 => tFor (iTup K (tC x)) g tb D σ H1
theorem g_forT {g : TG} (q : te σ H (kForT K g t1 D σ)) : tFor (iTup K te) g t1 D σ H := q
theorem g_kForT {g : TG} (h : SqT K H a xs) (Pv : Nat → L2.St → Hp → Prop) (h0 : Pv 0 σ H) (hl : ∀ i σ H, i ≤ xs.length → Pv i σ H → SqT K H a xs)
    (hs : ∀ i x σ H, xs[i]? = some x → Pv i σ H → g x σ H fun σ2 H2 => t1 { D with nx := Pv (i + 1), ct := Pv (i + 1), bk := D.nx } σ2 H2) (hd : ∀ σ H, Pv xs.length σ H → D.nx σ H) : kForT K g t1 D σ (.ref a) H :=
  ⟨a, rfl, ⟨xs, h⟩, for_tup Pv h0 hl hs hd⟩
def kForR1 (g : TG) (tb : TS) (D : Ends) (σ : L2.St) (vs : List V) (H1 : Hp) : Prop := tFor (iRng1 (fun _ H Q => Q vs H)) g tb D σ H1
theorem g_forR1 {g : TG} (q : tr σ H (kForR1 g t1 D σ)) : tFor (iRng1 tr) g t1 D σ H := q
theorem g_kForR1 {g : TG} {n : Int} (hn : 0 ≤ n ∧ n < 2 ^ 62) (Pv : Nat → L2.St → Hp → Prop) (h0 : Pv 0 σ H)
    (hs : ∀ (i : Nat) σ H, (i : Int) < n → Pv i σ H → g (.int i) σ H fun σ2 H2 => t1 { D with nx := Pv (i + 1), ct := Pv (i + 1), bk := D.nx } σ2 H2) (hd : ∀ σ H, Pv n.toNat σ H → D.nx σ H) : kForR1 g t1 D σ [.int n] H :=
  ⟨n, rfl, by omega, by omega, for_range (lo := 0) (n := n.toNat) Pv h0 (fun i σ H hi p => by
    have e0 : (0 : Int) + (i : Int) = (i : Int) := Int.zero_add _
    rw [e0]
    exact hs i σ H (by omega) p) hd⟩
def kForR2 (g : TG) (tb : TS) (D : Ends) (σ : L2.St) (vs : List V) (H1 : Hp) : Prop := tFor (iRng2 (fun _ H Q => Q vs H)) g tb D σ H1
theorem g_forR2 {g : TG} (q : tr σ H (kForR2 g t1 D σ)) : tFor (iRng2 tr) g t1 D σ H := q
theorem g_kForR2 {g : TG} {lo n : Int} (hn : -(2 ^ 62) ≤ lo ∧ lo < 2 ^ 62 ∧ -(2 ^ 62) ≤ n ∧ n < 2 ^ 62) (Pv : Nat → L2.St → Hp → Prop) (h0 : Pv 0 σ H)
    (hs : ∀ (i : Nat) σ H, lo + (i : Int) < n → Pv i σ H → g (.int (lo + i)) σ H fun σ2 H2 => t1 { D with nx := Pv (i + 1), ct := Pv (i + 1), bk := D.nx } σ2 H2) (hd : ∀ σ H, Pv (n - lo).toNat σ H → D.nx σ H) : kForR2 g t1 D σ [.int lo, .int n] H :=
  ⟨lo, n, rfl, hn, for_range (lo := lo) (n := (n - lo).toNat) Pv h0 (fun i σ H hi p => hs i σ H (by omega) p) hd⟩
/-! relations on values -/
theorem g_add {p k : Int} (q : Q (.int (p + k)) H) : rI0 (fun i j => .int (i + j)) (.int p) (.int k) H Q := ⟨p, k, rfl, rfl, q⟩
theorem g_sub {p k : Int} (q : Q (.int (p - k)) H) : rI0 (fun i j => .int (i - j)) (.int p) (.int k) H Q := ⟨p, k, rfl, rfl, q⟩
theorem g_mul {p k : Int} (h : CMul p k) (q : Q (.int (p * k)) H) : rI CMul (fun i j => .int (i * j)) (.int p) (.int k) H Q := ⟨p, k, rfl, rfl, h, q⟩
theorem g_fdiv {p k : Int} (h : CDiv p k) (q : Q (.int (p / k)) H) : rI CDiv (fun i j => .int (i / j)) (.int p) (.int k) H Q := ⟨p, k, rfl, rfl, h, q⟩
theorem g_mod {p k : Int} (h : 0 < k) (q : Q (.int (p % k)) H) : rI (fun _ j => 0 < j) (fun i j => .int (i % j)) (.int p) (.int k) H Q := ⟨p, k, rfl, rfl, h, q⟩
theorem g_pow {p k : Int} (h : CPow p k) (q : Q (.int (p ^ k.toNat)) H) : rI CPow (fun i j => .int (i ^ j.toNat)) (.int p) (.int k) H Q := ⟨p, k, rfl, rfl, h, q⟩
theorem g_lt {p k : Int} (q : Q (.bl (decide (p < k))) H) : rI0 (fun i j => .bl (decide (i < j))) (.int p) (.int k) H Q := ⟨p, k, rfl, rfl, q⟩
theorem g_le {p k : Int} (q : Q (.bl (decide (p ≤ k))) H) : rI0 (fun i j => .bl (decide (i ≤ j))) (.int p) (.int k) H Q := ⟨p, k, rfl, rfl, q⟩
theorem g_gt {p k : Int} (q : Q (.bl (decide (k < p))) H) : rI0 (fun i j => .bl (decide (j < i))) (.int p) (.int k) H Q := ⟨p, k, rfl, rfl, q⟩
theorem g_ge {p k : Int} (q : Q (.bl (decide (k ≤ p))) H) : rI0 (fun i j => .bl (decide (j ≤ i))) (.int p) (.int k) H Q := ⟨p, k, rfl, rfl, q⟩
theorem g_neg {p : Int} (q : Q (.int (-p)) H) : rU (fun i => .int (-i)) (.int p) H Q := ⟨p, rfl, q⟩
theorem dec_ii {p k : Int} : decide (V.int p = V.int k) = decide (p = k) := by rw [dec_int, Bool.beq_eq_decide_eq]
theorem g_eqI {p k : Int} (q : Q (.bl (decide (p = k))) H) : rEq (.int p) (.int k) H Q := ⟨rfl, by rw [dec_ii]; exact q⟩
theorem g_neI {p k : Int} (q : Q (.bl (!decide (p = k))) H) : rNe (.int p) (.int k) H Q := ⟨rfl, by rw [dec_ii]; exact q⟩
theorem g_eqS (h : scal x y = true) (q : Q (.bl (decide (x = y))) H) : rEq x y H Q := ⟨h, q⟩
theorem g_neS (h : scal x y = true) (q : Q (.bl (!decide (x = y))) H) : rNe x y H Q := ⟨h, q⟩
theorem g_ixL {k : Int} (h : SqL K H a xs) (e : atI xs k = some v) (q : Q v H) : rIxL K (.ref a) (.int k) H Q := ⟨a, xs, k, v, rfl, rfl, h, e, q⟩
theorem g_ixT {k : Int} (h : SqT K H a xs) (e : atI xs k = some v) (q : Q v H) : rIxT K (.ref a) (.int k) H Q := ⟨a, xs, k, v, rfl, rfl, h, e, q⟩
theorem g_eqD {d e : PyData} (h1 : Dp K H x d) (h2 : Dp K H y e) (s1 : SeqAt.shaped d = true) (s2 : SeqAt.shaped e = true) (q : Q (.bl (PyData.eqv d e)) H) : rEqD K x y H Q := ⟨d, e, h1, h2, s1, s2, q⟩
theorem g_neD {d e : PyData} (h1 : Dp K H x d) (h2 : Dp K H y e) (s1 : SeqAt.shaped d = true) (s2 : SeqAt.shaped e = true) (q : Q (.bl (!PyData.eqv d e)) H) : rNeD K x y H Q := ⟨d, e, h1, h2, s1, s2, q⟩
/-- t + u, t[lo:hi] of tuples: some tuple of these items -/
theorem g_catA {a b : Addr} {xs ys : List V} (h1 : SqT K H a xs) (h2 : SqT K H b ys) (l : xs.length + ys.length ≤ sizeLine) (q : ∀ p H2, Ex H H2 → SqT K H2 p (xs ++ ys) → Q (.ref p) H2) : rCatA K (.ref a) (.ref b) H Q :=
  ⟨a, b, xs, ys, rfl, rfl, h1, h2, l, fun e => q b H (Ex.refl H) (by rw [e]; exact h2), fun _ e => q a H (Ex.refl H) (by rw [e, List.append_nil]; exact h1), fun _ _ p hp => q p _ (Ex.new hp) (SqT.of upd_same)⟩
theorem cutV_whole {xs : List V} {lo hi : Option Int} (h : HT.sIx xs.length 0 lo = 0 ∧ HT.sIx xs.length xs.length hi = xs.length) : cutV xs lo hi = xs := by
  unfold cutV
  rw [h.1, h.2]
  simp
theorem g_slA {lo hi : Option Int} (h : SqT K H a xs) (q : ∀ p H2, Ex H H2 → SqT K H2 p (cutV xs lo hi) → Q (.ref p) H2) : rSlA K (.ref a) lo hi H Q :=
  ⟨a, xs, rfl, h, fun w => q a H (Ex.refl H) (by rw [cutV_whole w]; exact h), fun _ p hp => q p _ (Ex.new hp) (SqT.of upd_same)⟩
theorem g_slL {lo hi : Option Int} (h : SqL K H a xs) (q : ∀ p H2, H p = none → Ex H H2 → H2 p = some (.lst (cutV xs lo hi)) → Q (.ref p) H2) : rSlL K (.ref a) lo hi H Q :=
  ⟨a, xs, rfl, h, fun p hp => q p _ hp (Ex.new hp) upd_same⟩
theorem g_cat {a b : Addr} (h1 : H a = some (.lst xs)) (h2 : H b = some (.lst ys)) (l : xs.length + ys.length ≤ sizeLine) (q : ∀ p H2, H p = none → Ex H H2 → H2 p = some (.lst (xs ++ ys)) → Q (.ref p) H2) : rCat (.ref a) (.ref b) H Q :=
  ⟨a, b, xs, ys, rfl, rfl, h1, h2, l, fun p hp => q p _ hp (Ex.new hp) upd_same⟩
theorem g_append {l : Addr} (h : H l = some (.lst xs)) (z : xs.length < sizeLine) (q : ∀ H2, Exb l H H2 → H2 l = some (.lst (xs ++ [y])) → Q .non H2) : rAppend (.ref l) [y] H Q := ⟨l, xs, y, rfl, rfl, h, z, q _ Exb.upd upd_same⟩
theorem g_sum {ns : List Int} (h : SqL K H a (ns.map V.int)) (q : Q (.int ns.sum) H) : rSum K [.ref a] H Q := ⟨a, ns, rfl, h, q⟩
theorem g_isi {u w : Value} (k : ClsV v u) (ty : TyX K H x w) (e : PySem.W.kitOne K w u = some b) (q : Q (.bl b) H) : rIsi K [x, v] H Q := ⟨x, v, w, u, b, rfl, k, ty, e, q⟩
end
/-! named relations of built-in calls -/
def rLen (K : PySem.W.Frag) : List V → Hp → VK → Prop := fun xs H Q => ∃ x n, xs = [x] ∧ LenV K x H n ∧ Q (.int n) H
def rListOf (K : PySem.W.Frag) : List V → Hp → VK → Prop := fun xs H Q => ∃ p ys, xs = [.ref p] ∧ (SqL K H p ys ∨ SqT K H p ys) ∧ ∀ l, H l = none → Q (.ref l) (upd H l (.lst ys))
def rTupOf (K : PySem.W.Frag) : List V → Hp → VK → Prop := fun xs H Q => ∃ p ys, xs = [.ref p] ∧ ((SqL K H p ys ∧ ∀ l, H l = none → Q (.ref l) (upd H l (.tup ys))) ∨ (SqT K H p ys ∧ Q (.ref p) H))
def rInt1 : List V → Hp → VK → Prop := fun xs H Q => (∃ i, xs = [.int i] ∧ Q (.int i) H) ∨ ∃ k, xs = [.bl k] ∧ Q (.int (if k then 1 else 0)) H
def rMax2 : List V → Hp → VK → Prop := fun xs H Q => ∃ i j, xs = [.int i, .int j] ∧ Q (.int (if j > i then j else i)) H
def rMin2 : List V → Hp → VK → Prop := fun xs H Q => ∃ i j, xs = [.int i, .int j] ∧ Q (.int (if j < i then j else i)) H
def rDivmod : List V → Hp → VK → Prop := fun xs H Q => ∃ i j, xs = [.int i, .int j] ∧ CDiv i j ∧ ∀ p, H p = none → Q (.ref p) (upd H p (.tup [.int (i / j), .int (i % j)]))
section
variable {X : Cx}
theorem c_len : CallR X (.builtin "len") (rLen X.K) := call_len
theorem c_list_of : CallR X (.type "list") (rListOf X.K) := call_list_of
theorem c_int1 : CallR X (.type "int") rInt1 := call_int1
theorem c_max2 (hc : X.calm = true) : CallR X (.builtin "max") rMax2 := call_max2 hc
theorem c_min2 (hc : X.calm = true) : CallR X (.builtin "min") rMin2 := call_min2 hc
theorem c_divmod : CallR X (.builtin "divmod") rDivmod := call_divmod
/-- a module's constant -/
theorem pint {x : Str} {i : Int} {pos : Pos} (h : ∃ t, X.mg x = some (.int i t)) (hg : Gl X x := by rfl) (hd : (x == ("__debug__" : Str)) = false := by decide) : PE X (.Name x pos) (tC (.int i)) := by
  obtain ⟨t, h⟩ := h
  exact pe_glob hg h ⟨_, rfl⟩ hd
theorem pstr {x z : Str} {pos : Pos} (h : ∃ t, X.mg x = some (.str z t)) (hg : Gl X x := by rfl) (hd : (x == ("__debug__" : Str)) = false := by decide) : PE X (.Name x pos) (tC (.str z)) := by
  obtain ⟨t, h⟩ := h
  exact pe_glob hg h ⟨_, rfl⟩ hd
end
section
variable {K : PySem.W.Frag} {H : Hp} {Q : VK} {a : Addr} {xs ys : List V} {z : Str}
theorem g_lenL (h : SqL K H a xs) (q : Q (.int (xs.length : Int)) H) : rLen K [.ref a] H Q := ⟨.ref a, xs.length, rfl, .inl ⟨xs, h, rfl⟩, q⟩
theorem g_lenT (h : SqT K H a xs) (q : Q (.int (xs.length : Int)) H) : rLen K [.ref a] H Q := ⟨.ref a, xs.length, rfl, .inr ⟨xs, h, rfl⟩, q⟩
theorem g_lenLM {α : Type} {g : α → V} {ns : List α} (h : SqL K H a (ns.map g)) (q : Q (.int (ns.length : Int)) H) : rLen K [.ref a] H Q := ⟨.ref a, ns.length, rfl, .inl ⟨_, h, (List.length_map g).symm⟩, q⟩
theorem g_lenTM {α : Type} {g : α → V} {ns : List α} (h : SqT K H a (ns.map g)) (q : Q (.int (ns.length : Int)) H) : rLen K [.ref a] H Q := ⟨.ref a, ns.length, rfl, .inr ⟨_, h, (List.length_map g).symm⟩, q⟩
theorem g_lenS (h : z.length ≤ sizeLine) (q : Q (.int (z.length : Int)) H) : rLen K [.str z] H Q := ⟨.str z, z.length, rfl, ⟨h, rfl⟩, q⟩
theorem g_listL (h : SqL K H a xs) (q : ∀ p H2, H p = none → Ex H H2 → H2 p = some (.lst xs) → Q (.ref p) H2) : rListOf K [.ref a] H Q := ⟨a, xs, rfl, .inl h, fun p hp => q p _ hp (Ex.new hp) upd_same⟩
theorem g_listT (h : SqT K H a xs) (q : ∀ p H2, H p = none → Ex H H2 → H2 p = some (.lst xs) → Q (.ref p) H2) : rListOf K [.ref a] H Q := ⟨a, xs, rfl, .inr h, fun p hp => q p _ hp (Ex.new hp) upd_same⟩
theorem g_tupL (h : SqL K H a xs) (q : ∀ p H2, H p = none → Ex H H2 → H2 p = some (.tup xs) → Q (.ref p) H2) : rTupOf K [.ref a] H Q := ⟨a, xs, rfl, .inl ⟨h, fun p hp => q p _ hp (Ex.new hp) upd_same⟩⟩
theorem g_int1 {i : Int} (q : Q (.int i) H) : rInt1 [.int i] H Q := .inl ⟨i, rfl, q⟩
theorem g_int1b {b : Bool} (q : Q (.int (if b then 1 else 0)) H) : rInt1 [.bl b] H Q := .inr ⟨b, rfl, q⟩
theorem max2_eq (i j : Int) : (if j > i then j else i) = max i j := by
  by_cases h : j > i
  · rw [if_pos h]
    omega
  · rw [if_neg h]
    omega
theorem min2_eq (i j : Int) : (if j < i then j else i) = min i j := by
  by_cases h : j < i
  · rw [if_pos h]
    omega
  · rw [if_neg h]
    omega
theorem g_max2 {i j : Int} (q : Q (.int (max i j)) H) : rMax2 [.int i, .int j] H Q := ⟨i, j, rfl, by rw [max2_eq]; exact q⟩
theorem g_min2 {i j : Int} (q : Q (.int (min i j)) H) : rMin2 [.int i, .int j] H Q := ⟨i, j, rfl, by rw [min2_eq]; exact q⟩
theorem g_divmod {i j : Int} (h : CDiv i j) (q : ∀ p H2, H p = none → Ex H H2 → H2 p = some (.tup [.int (i / j), .int (i % j)]) → Q (.ref p) H2) : rDivmod [.int i, .int j] H Q := ⟨i, j, rfl, h, fun p hp => q p _ hp (Ex.new hp) upd_same⟩
end
end G48
namespace PySem
open AutoSeq1 (wpAny_loadPart')
set_option maxHeartbeats 4000000 in
theorem g48_enum_newB {v : Value} {o : Obj} {H : Heap → Prop} (B : Begins v o H) :
    Meets (Builtin.«enumerate.__new__» ⟨[.type "enumerate", v], []⟩) (fun _ R s => H s.heap ∧
      R (.ok (.ret (.ref (s.heap.push o).objs.size))) { s with heap := (s.heap.push o).push { cls := .type "enumerate", data := .fields #[.none, .bool false, .ref s.heap.objs.size, rawInt 0, .none, .none] } }) :=
  .of_wp fun prog w A R s h => by
    obtain ⟨hp, g, d, tk, os⟩ := s; obtain ⟨h1, h⟩ := h
    have hsub := sub_enumerate
    have q1 : ∀ {A' : Around} {E : Value → Shared → Prop} {Q : Value → Shared → Prop}, Q (.ref hp.objs.size) ⟨hp.push o, g, d, tk, os⟩ → wpAny (model prog w) A' (pyIter v) Q E ⟨hp, g, d, tk, os⟩ :=
      fun q => B.iter prog w _ _ ⟨hp, g, d, tk, os⟩ _ h1 q
    wp_walk using q1
    refine wpAny_stack_any fun st => wpAny_pure ?_
    split
    · rename_i c _ _ _ _ _
      cases (c == Value.type "enumerate")
      · wp_walk using q1
        exact ⟨_, rfl, h⟩
      · wp_walk using q1
        exact ⟨_, rfl, h⟩
    · wp_walk using q1
      exact ⟨_, rfl, h⟩
section
variable {prog : Program} {w : World} {A : Around} {E : Value → Shared → Prop} {s : Shared}
theorem g48_call_enum {v : Value} {o : Obj} {H : Heap → Prop} {Q : Value → Shared → Prop} (B : Begins v o H) (h1 : H s.heap)
    (h : ∀ h', IsEnum h' (s.heap.objs.size + 1) s.heap.objs.size 0 .none → h'.get? s.heap.objs.size = some o → h'.objs.size = s.heap.objs.size + 2 →
      (∀ b o, s.heap.get? b = some o → h'.get? b = some o) → Q (.ref (s.heap.objs.size + 1)) { s with heap := h' }) :
    wpAny (model prog w) A (call (.type "enumerate") [v]) Q E s := by
  refine callType_new F.called_enumerate (by decide) (F.typeCall_enumerate_1 _) (F.newCall_enumerate_1 _) (fun obj => F.args_object_init_2 obj _) F.entry_enumerate_new
    (g48_enum_newB B) ⟨h1, ?_⟩
  have hz : (s.heap.push o).objs.size = s.heap.objs.size + 1 := Heap.size_push ..
  show _ ∧ _
  rw [hz]
  have he : IsEnum ((s.heap.push o).push
      { cls := .type "enumerate", data := .fields #[.none, .bool false, .ref s.heap.objs.size, rawInt 0, .none, .none] }) (s.heap.objs.size + 1) s.heap.objs.size 0 .none := by
    have := Heap.get?_push_size (s.heap.push o)
      (o := { cls := .type "enumerate", data := .fields #[.none, .bool false, .ref s.heap.objs.size, rawInt 0, .none, .none] }) rfl
    rw [hz] at this; exact this
  refine ⟨⟨_, he, rfl⟩, h _ he (Heap.get?_push_of_some _ (Heap.get?_push_size _ B.free)) (by rw [Heap.size_push, hz]) fun b o x => Heap.get?_push_of_some _ (Heap.get?_push_of_some _ x)⟩
end
end PySem
namespace G48
open PySem PySem.Spec PyProof.Rows L2 Evl
/-! ### enumerate(tuple) -/
def ItetG (K : PySem.W.Frag) (a : Addr) : It :=
  ⟨fun i H => ∃ (xs : List V) (x : V), SqT K H a xs ∧ xs[i]? = some x, fun i H v H' => ∃ T x, v = .ref T ∧ H T = none ∧ H' = upd H T (.tup [.int (i : Nat), x]) ∧ ∀ xs, SqT K H a xs → xs[i]? = some x, fun i H => ∃ xs : List V, SqT K H a xs ∧ xs.length ≤ i⟩
theorem turn_enumT {P : Program} {w : World} {K : PySem.W.Frag} {elts : List Expr} {kk : Nat} {tpos : Pos} (a e it : Addr) (ne1 : e ≠ it) (ne2 : e ≠ a) (ne3 : a ≠ it) :
    Turn P w K (.Tuple elts kk tpos) (ItetG K a) [e, it] e (fun i h => (∃ old, IsEnum h e it ((i : Nat) : Int) old) ∧ h.IsTupleIter it a i) where
  mem := by simp
  obj := fun i h st b hb => by
    obtain ⟨⟨old, he⟩, ⟨o, ho, hc, hd⟩⟩ := st
    have e' : b = e ∨ b = it := by simpa using hb
    rcases e' with z | z
    · rw [z]; exact ⟨_, he, fun v q => nomatch q⟩
    · rw [z]; exact ⟨o, ho, fun v q => by rw [hd] at q; cases q⟩
  keep := fun i h h' st k => let ⟨⟨old, he⟩, hi⟩ := st; ⟨⟨old, k e (by simp) _ he⟩, hi.at fun o q => k it (by simp) o q⟩
  item := by
    intro X hP hw hK hc i pins s σ H E I hf st hg
    subst hP hw hK
    obtain ⟨⟨old, he⟩, hit⟩ := st
    obtain ⟨xs, x, hq, hx⟩ := hg
    obtain ⟨its, rv, p, hz⟩ := I.tuple hq
    obtain ⟨u, hu, ru⟩ := rv.get hx
    have hel : e < s.heap.objs.size := Heap.lt_size he
    have hil : it < s.heap.objs.size := by obtain ⟨_, q, _⟩ := hit; exact Heap.lt_size q
    have hlt : i < its.toArray.size := by
      have := (List.getElem?_eq_some_iff.mp hu).1
      simpa using this
    have D : Draws X.prog X.w X.A.in1 it [it, a] its.toArray.size (fun i v => its.toArray[i]? = some v) (fun i h => h.IsTupleIter it a i ∧ h.IsTuple a its.toArray) := Draws.tuple (show X.A.in1.handled = none from I.ok.hd hc) it a ne3 its.toArray
    refine wpAny_pyNext_enum_itemC D he ⟨hit, show s.heap.IsTuple a its.toArray from p⟩ hlt ne1 (by simp [ne1, ne2]) fun y h' tk hy ho hst hT hsz hk => ?_
    have ey : y = u := by
      have h1 : its.toArray[i]? = some y := hy
      have h2 : its.toArray[i]? = some u := by simpa using hu
      rw [h1] at h2
      exact Option.some.inj h2
    subst ey
    refine ⟨_, rfl, wpAny_letOwnedTupleGo_enum (s := { s with heap := h', toks := tk + 1 }) ho fun h'' he' sb => ?_⟩
    have hT2 : h''.get? s.heap.objs.size = some { cls := .type "tuple", data := .seq #[.int i tk, y] } := (sb.2 _ (Nat.ne_of_gt hel)).trans hT
    have new : ObjOk X.prog X.w (upd H s.heap.objs.size (.tup [.int (i : Nat), x])) h'' s.heap.objs.size (.tup [.int (i : Nat), x]) :=
      ⟨by show 2 ≤ sizeLine; decide, [.int i tk, y], .cons ⟨_, rfl⟩ (.cons ru .nil), ⟨_, hT2, rfl, _, rfl⟩⟩
    have I1 : Inv X pins σ (upd H s.heap.objs.size (.tup [.int (i : Nat), x])) { s with heap := h'', toks := tk + 1 } :=
      I.turnedNew (ch := [e, it]) (fun b ob hb q => (sb.2 b (fun z => hb (by simp [z]))).trans (hk b ob (fun z => hb (by simp [z])) (fun z => hb (by simp [z])) q)) hf (Nat.le_refl _) new
    refine ⟨.ref s.heap.objs.size, _, I1, rfl, ⟨_, x, rfl, I.hok.fresh (Nat.le_refl _), rfl, fun ys hy => by rw [I.tuple_inj hy hq]; exact hx⟩, ⟨⟨y, ?_⟩, hst.1.at fun o q => (sb.2 it (Ne.symm ne1)).trans q⟩, fun b hb => ?_⟩
    · have e1 : ((i + 1 : Nat) : Int) = (i : Int) + 1 := by omega
      rw [e1]; exact he'
    · have hb' : b < s.heap.objs.size := by
        have e' : b = e ∨ b = it := by simpa using hb
        rcases e' with z | z
        · rw [z]; exact hel
        · rw [z]; exact hil
      rw [upd_ne (Nat.ne_of_lt hb')]
      exact (hf b hb).1
  done := by
    intro X hP hw hK hc i pins s σ H E I hf st hg
    subst hP hw hK
    obtain ⟨⟨old, he⟩, hit⟩ := st
    obtain ⟨xs, hq, hx⟩ := hg
    obtain ⟨its, rv, p, hz⟩ := I.tuple hq
    obtain ⟨f0, f1, f2, f3, f4, f5⟩ := hf it (by simp)
    have hl := rv.length
    have D : Draws X.prog X.w X.A.in1 it [it, a] i (fun _ _ => True) (fun j h => j = i ∧ h.IsTupleIter it a i ∧ h.IsTuple a its.toArray) :=
      { live := fun _ _ st => let ⟨_, ⟨o, ho, _⟩, _⟩ := st; ⟨o, ho⟩
        frame := fun _ _ _ st hk => ⟨st.1, st.2.1.at fun o e => hk it (by simp) o e, st.2.2.at fun o e => hk a (by simp) o e⟩
        item := fun j s Q E hi st hQ => absurd st.1 (Nat.ne_of_lt hi)
        done := fun s Q E st hE => wpAny_nextOf_tuple_end (show X.A.in1.handled = none from I.ok.hd hc) st.2.1 st.2.2 (by simp; omega) hE }
    exact wpAny_pyNext_enum_endD D he ⟨rfl, hit, show s.heap.IsTuple a its.toArray from p⟩ fun h' eb => ⟨rfl, I.turned (t' := s.toks) (fun b o hb q => eb b o hb q) f0 f1 f3 f4 f5⟩
  self := fun A i s Q E st h => let ⟨⟨_, he⟩, _⟩ := st; wpAny_pyIter_enum he h
def iEnumT (K : PySem.W.Frag) (ta : TA) : TI := fun σ H R => ta σ H fun vs H1 => ∃ a xs, vs = [.ref a] ∧ SqT K H1 a xs ∧ R (ItetG K a) H1
theorem pi_enumT {X : Cx} {e : Expr} {ta : TA} {p pos tpos : Pos} {elts : List Expr} {kk : Nat} (hg : Gl X "enumerate") (hm : X.mg "enumerate" = none) (ha : PA X [e] ta) (hs : starEach [e] X.env = [(false, eval e X.env)] := by rfl) :
    PI X (.Tuple elts kk tpos) (.Call (.Name "enumerate" p) [e] [] pos) (iEnumT X.K ta) := by
  refine ⟨fun pins s σ H R I h => ?_⟩
  refine Call_ (ld_blt I hg hm PyProof.Rows.boot_enumerate (PyProof.Rows.callWith_type1 (thn (ha.run pos pins s σ H _ I h) fun us s1 ⟨vs, H1, I1, r1, q1⟩ => ?_) hs rfl))
  obtain ⟨a, xs, ex, hq, q⟩ := q1
  subst ex
  cases r1 with
  | cons r rr =>
    cases rr
    cases r
    obtain ⟨its, rv, p', hz⟩ := I1.tuple hq
    have hal : a < s1.heap.objs.size := by
      obtain ⟨o, ho, _⟩ := id p'
      exact Heap.lt_size ho
    refine g48_call_enum (begins_tuple a its.toArray) (show s1.heap.IsTuple a its.toArray from p') fun h' he hit hsz hk => wpAny_pyIter_enum he ?_
    have I2 : Inv X pins σ H1 { s1 with heap := h' } := I1.kept (t' := s1.toks) hk
    refine ⟨s1.heap.objs.size + 1, [s1.heap.objs.size + 1, s1.heap.objs.size], _, _, H1, rfl, I2, turn_enumT a (s1.heap.objs.size + 1) s1.heap.objs.size (Nat.succ_ne_self _) (Nat.ne_of_gt (Nat.lt_succ_of_lt hal)) (Nat.ne_of_lt hal), ⟨⟨.none, he⟩, ⟨_, hit, rfl, rfl⟩⟩, fun b hb => ?_, q⟩
    have e' : b = s1.heap.objs.size + 1 ∨ b = s1.heap.objs.size := by simpa using hb
    have hle : s1.heap.objs.size ≤ b := by
      rcases e' with z | z
      · rw [z]; exact Nat.le_add_right _ _
      · rw [z]; exact Nat.le_refl _
    exact I1.fpOk hle (I1.hok.fresh hle)
section
variable {K : PySem.W.Frag} {a : Addr} {xs : List V}
theorem walk_enumT : Walk (ItetG K a) xs.length (fun H => SqT K H a xs) (YPair (fun i => some (.int (i : Nat))) (fun i => xs[i]?)) := by
  refine ⟨fun i _ hi q => ⟨xs, xs[i], q, by simp [hi]⟩, fun _ q => ⟨xs, q, Nat.le_refl _⟩, fun i H v H' _ q y => ?_⟩
  obtain ⟨T, x, h1, h2, h3, h4⟩ := y
  exact ⟨T, .int (i : Nat), x, h1, h2, h3, rfl, h4 xs q⟩
end
/-- the loop: each turn a pair (i, x) at a new place -/
def kForE (K : PySem.W.Frag) (g : TG) (tb : TS) (D : Ends) (σ : L2.St) (vs : List V) (H1 : Hp) : Prop := tFor (iEnumT K (fun _ H Q => Q vs H)) g tb D σ H1
section
variable {K : PySem.W.Frag} {σ : L2.St} {H : Hp} {tr : TA} {D : Ends} {t1 : TS} {g : TG} {a : Addr} {xs : List V}
theorem g_forE (q : tr σ H (kForE K g t1 D σ)) : tFor (iEnumT K tr) g t1 D σ H := q
theorem g_kForE (h : SqT K H a xs) (Pv : Nat → L2.St → Hp → Prop) (h0 : Pv 0 σ H) (hl : ∀ i σ H, i ≤ xs.length → Pv i σ H → SqT K H a xs)
    (hs : ∀ i x σ H T H', xs[i]? = some x → Pv i σ H → Ex H H' → H T = none → H' T = some (.tup [.int (i : Nat), x]) → g (.ref T) σ H' fun σ2 H2 => t1 { D with nx := Pv (i + 1), ct := Pv (i + 1), bk := D.nx } σ2 H2) (hd : ∀ σ H, Pv xs.length σ H → D.nx σ H) : kForE K g t1 D σ [.ref a] H :=
  ⟨a, xs, rfl, h, for_it walk_enumT Pv h0 hl (fun i x σ H H' hi p y => by
    obtain ⟨T, u, v, rfl, hT, rfl, e1, e2⟩ := y
    cases e1
    exact hs i v σ H T _ e2 p (Ex.new hT) hT upd_same) hd⟩
def kForEL (K : PySem.W.Frag) (g : TG) (tb : TS) (D : Ends) (σ : L2.St) (vs : List V) (H1 : Hp) : Prop := tFor (iEnum K (fun _ H Q => Q vs H)) g tb D σ H1
theorem g_forEL (q : tr σ H (kForEL K g t1 D σ)) : tFor (iEnum K tr) g t1 D σ H := q
theorem g_kForEL (h : SqL K H a xs) (Pv : Nat → L2.St → Hp → Prop) (h0 : Pv 0 σ H) (hl : ∀ i σ H, i ≤ xs.length → Pv i σ H → SqL K H a xs)
    (hs : ∀ i x σ H T H', xs[i]? = some x → Pv i σ H → Ex H H' → H T = none → H' T = some (.tup [.int (i : Nat), x]) → g (.ref T) σ H' fun σ2 H2 => t1 { D with nx := Pv (i + 1), ct := Pv (i + 1), bk := D.nx } σ2 H2) (hd : ∀ σ H, Pv xs.length σ H → D.nx σ H) : kForEL K g t1 D σ [.ref a] H :=
  ⟨a, xs, rfl, h, for_it walk_enum Pv h0 hl (fun i x σ H H' hi p y => by
    obtain ⟨T, u, v, rfl, hT, rfl, e1, e2⟩ := y
    cases e1
    exact hs i v σ H T _ e2 p (Ex.new hT) hT upd_same) hd⟩
end
/-! ### max and min of a tuple of ints -/
theorem maxOf_fold : ∀ (ns : List Int) (x : Int), (PySem.W.maxOf x ns = x ∨ PySem.W.maxOf x ns ∈ ns) ∧ x ≤ PySem.W.maxOf x ns ∧ ∀ y ∈ ns, y ≤ PySem.W.maxOf x ns
  | [], x => ⟨.inl rfl, Int.le_refl _, fun y h => by cases h⟩
  | y :: r, x => by
    have e : PySem.W.maxOf x (y :: r) = PySem.W.maxOf (if decide (x < y) = true then y else x) r := rfl
    rw [e]
    by_cases h : x < y
    · rw [if_pos (decide_eq_true h)]
      obtain ⟨h1, h2, h3⟩ := maxOf_fold r y
      refine ⟨?_, by omega, fun z hz => ?_⟩
      · rcases h1 with h1 | h1
        · exact .inr (by rw [h1]; exact List.mem_cons_self)
        · exact .inr (List.mem_cons_of_mem _ h1)
      · rcases List.mem_cons.mp hz with rfl | hz
        · exact h2
        · exact h3 z hz
    · rw [if_neg (by simpa using h)]
      obtain ⟨h1, h2, h3⟩ := maxOf_fold r x
      refine ⟨?_, h2, fun z hz => ?_⟩
      · rcases h1 with h1 | h1
        · exact .inl h1
        · exact .inr (List.mem_cons_of_mem _ h1)
      · rcases List.mem_cons.mp hz with rfl | hz
        · omega
        · exact h3 z hz
/-- the greatest of ints -/
def mx : List Int → Int
  | [] => 0
  | [x] => x
  | x :: y :: r => max x (mx (y :: r))
theorem mx_mem : ∀ {ns : List Int}, ns ≠ [] → mx ns ∈ ns
  | [], h => absurd rfl h
  | [x], _ => List.mem_cons_self
  | x :: y :: r, _ => by
    have ih := mx_mem (ns := y :: r) (List.cons_ne_nil _ _)
    show max x (mx (y :: r)) ∈ x :: y :: r
    by_cases h : mx (y :: r) ≤ x
    · rw [Int.max_eq_left h]
      exact List.mem_cons_self
    · rw [Int.max_eq_right (by omega)]
      exact List.mem_cons_of_mem _ ih
theorem le_mx : ∀ {ns : List Int} {y : Int}, y ∈ ns → y ≤ mx ns
  | [], _, h => by cases h
  | [x], y, h => by
    rcases List.mem_cons.mp h with rfl | h
    · exact Int.le_refl _
    · cases h
  | x :: z :: r, y, h => by
    show y ≤ max x (mx (z :: r))
    rcases List.mem_cons.mp h with rfl | h
    · omega
    · have := le_mx h
      omega
theorem mx_eq {ns : List Int} {m : Int} (h : m ∈ ns) (hl : ∀ y ∈ ns, y ≤ m) : m = mx ns := by
  have h1 := le_mx h
  have h2 := hl _ (mx_mem (List.ne_nil_of_mem h))
  omega
def rMaxT (K : PySem.W.Frag) : List V → Hp → VK → Prop := fun vs H Q => ∃ (a : Addr) (ns : List Int), vs = [V.ref a] ∧ SqT K H a (ns.map V.int) ∧ ns ≠ [] ∧ Q (.int (mx ns)) H
theorem cr_maxT {X : Cx} (hc : X.calm = true) (hu : X.A.units + 64 < cLine) : CallR X (.builtin "max") (rMaxT X.K) := by
  intro pins s σ H vs us Q I r h
  obtain ⟨a, ns, rfl, hs, hne, q⟩ := h
  obtain ⟨its, rv, hl, _⟩ := I.tuple hs
  rw [Vals.ref1 r]
  cases ns with
  | nil => exact absurd rfl hne
  | cons x ns =>
    refine PySem.W.max_tuple_datum (I.ok.hd hc) (show s.heap.IsTuple a its.toArray from hl) (x := x) (xs := ns) (PySem.W.HoldAll.of_ints (by simpa using rv.ints)) (by show X.A.units + 1 + 0 < cLine; omega) fun i v h' tk hi hv hk => ?_
    obtain ⟨as, hr⟩ := hv
    obtain ⟨h1, h2, h3⟩ := maxOf_fold ns x
    have e : PySem.W.maxOf x ns = mx (x :: ns) := by
      refine mx_eq ?_ ?_
      · rcases h1 with h1 | h1
        · rw [h1]; exact List.mem_cons_self
        · exact List.mem_cons_of_mem _ h1
      · intro y hy
        rcases List.mem_cons.mp hy with rfl | hy
        · exact h2
        · exact h3 y hy
    rw [e] at hr
    have hv : ∃ t, v = .int (mx (x :: ns)) t := by
      have hr2 : Reads h' v (.int (mx (x :: ns))) as := hr
      cases hr2
      exact ⟨_, rfl⟩
    obtain ⟨t, rfl⟩ := hv
    exact ⟨.int (mx (x :: ns)), H, I.kept hk, ⟨_, rfl⟩, q⟩
theorem g_maxT {K : PySem.W.Frag} {H : Hp} {a : Addr} {ns : List Int} {Q : VK} (h : SqT K H a (ns.map V.int)) (hn : ns ≠ []) (q : Q (.int (mx ns)) H) : rMaxT K [.ref a] H Q := ⟨a, ns, rfl, h, hn, q⟩
theorem g_maxL {K : PySem.W.Frag} {H : Hp} {a : Addr} {ns : List Int} {Q : VK} (h : SqL K H a (ns.map V.int)) (hn : ns ≠ []) (q : Q (.int (mx ns)) H) : rMax K [.ref a] H Q :=
  ⟨a, ns, rfl, h, List.length_pos_iff.mpr hn, fun m h1 h2 => by rw [mx_eq h1 h2]; exact q⟩
/-! ### tuple(list): the tuple's own object is told (a tuple's methods ask that it has no dict) -/
def TupK (H : Hp) (a : Addr) (xs : List V) : Prop := ∃ o, H a = some (.frz o (.tup xs)) ∧ o.cls = .type "tuple" ∧ o.dict = none
theorem TupK.sq {K : PySem.W.Frag} {H : Hp} {a : Addr} {xs : List V} (h : TupK H a xs) : SqT K H a xs := by
  obtain ⟨o, e, _⟩ := h
  exact .inl (.inr ⟨o, e⟩)
theorem TupK.ex {H H' : Hp} {a : Addr} {xs : List V} (e : Ex H H') (h : TupK H a xs) : TupK H' a xs := by
  obtain ⟨o, h, c⟩ := h
  exact ⟨o, e _ _ h, c⟩
theorem TupK.exb {H H' : Hp} {l a : Addr} {xs ys : List V} (e : Exb l H H') (hl : H l = some (.lst ys)) (h : TupK H a xs) : TupK H' a xs := by
  obtain ⟨o, h, c⟩ := h
  exact ⟨o, e _ _ (ne_of h hl (by intro z; cases z)) h, c⟩
def rTupD (K : PySem.W.Frag) : List V → Hp → VK → Prop := fun xs H Q => ∃ p ys, xs = [.ref p] ∧ ((SqL K H p ys ∧ ∀ l o, H l = none → o.cls = .type "tuple" → o.dict = none → Q (.ref l) (upd H l (.frz o (.tup ys)))) ∨ (SqT K H p ys ∧ Q (.ref p) H))
theorem c_tuple_of {X : Cx} : CallR X (.type "tuple") (rTupD X.K) := by
  intro pins s σ H xs us Q I r h
  obtain ⟨p, ys, rfl, h⟩ := h
  obtain ⟨u, rfl, rx⟩ := vals1 r
  cases rx
  rcases h with ⟨hq, q⟩ | ⟨hq, q⟩
  · obtain ⟨its, r', pl, hz⟩ := I.list hq
    have hlen := r'.length
    refine call_tuple_list pl.isList (fun h' kp => ?_) (by simp only [List.size_toArray] <;> omega)
    have I1 : Inv X pins σ H { s with heap := h' } := I.kept (t' := s.toks) kp
    have I2 : Inv X pins σ (upd H h'.objs.size (.frz { cls := .type "tuple", data := .seq its.toArray } (.tup ys))) { s with heap := h'.push { cls := .type "tuple", data := .seq its.toArray } } :=
      I1.laid (t' := s.toks) (fun b o e => Heap.get?_push_of_some _ e) (Nat.le_refl _) (show ObjOk X.prog X.w _ _ _ (.frz { cls := .type "tuple", data := .seq its.toArray } (.tup ys)) from ⟨Heap.get?_push_size _ rfl, hz, its, r', IsTup.new _ _⟩)
    exact ⟨.ref h'.objs.size, _, I2, rfl, q _ _ (I1.hok.fresh (Nat.le_refl _)) rfl rfl⟩
  · obtain ⟨its, r', pl, hz⟩ := I.tuple hq
    exact call_tuple_same pl ⟨.ref p, H, I, rfl, q⟩
theorem g_tupD {K : PySem.W.Frag} {H : Hp} {a : Addr} {xs : List V} {Q : VK} (h : SqL K H a xs) (q : ∀ p H2, H p = none → Ex H H2 → TupK H2 p xs → Q (.ref p) H2) : rTupD K [.ref a] H Q :=
  ⟨a, xs, rfl, .inl ⟨h, fun p o hp h1 h2 => q p _ hp (Ex.new hp) ⟨o, upd_same, h1, h2⟩⟩⟩
/-- t.index(n) -/
def tBMT (r : V → List V → Hp → VK → Prop) (to : TE) (t : TA) : TE := fun σ H Q => to σ H fun x H1 => (∃ p xs, x = .ref p ∧ TupK H1 p xs) ∧ t σ H1 fun ys H2 => r x ys H2 Q
section
variable {X : Cx} {o e : Expr} {es : List Expr} {to : TE} {t : TA} {name : Str} {apos cpos : Pos} {id : String} {r : V → List V → Hp → VK → Prop}
theorem pe_bmT (slot : Slot "tuple" name id) (hty : typeOf (.builtin id) = pure (.type "method_descriptor")) (hm : MtR X id r) (ho : PE X o to) (ha : PA X (e :: es) t)
    (hbase : attributeBase o name X.env (eval o X.env) = eval o X.env := by rfl)
    (hfew : ((backTo cpos (starEach (e :: es) X.env)).all (fun x => !x.1) && (backToKw cpos (keywordEach [] X.env)).all (fun x => x.1.isSome)
      && decide ((e :: es).length + ([] : List Keyword).length + (if ([] : List Keyword).isEmpty then 0 else 1) < 30)) = true := by rfl)
    (hline : (apos.endLine == cpos.line) = true := by rfl) (hs : starEach (e :: es) X.env = (false, eval e X.env) :: starEach es X.env := by rfl) (hplain : (backTo cpos (starEach es X.env)).any (·.1) = false := by rfl) :
    PE X (.Call (.Attribute o name apos) (e :: es) [] cpos) (tBMT r to t) := by
  refine ⟨fun pins s σ H Q I h => ?_⟩
  refine wpAny_Call_method_late hbase hfew hline rfl (thn (ho.run pins s σ H _ I h) fun v s1 ⟨x, H1, I1, r1, ⟨p, xs, ex, ob, eo, oc, od⟩, q1⟩ => ?_)
  subst ex
  obtain rfl : v = Value.ref p := r1
  obtain ⟨hob, _⟩ := I1.hok p _ eo
  refine ⟨"tuple", id, PySem.F.plainAttrs_tuple, slot, hty, ⟨ob, hob, oc⟩, fun a e => ?_, ?_⟩
  · cases e
    exact ⟨ob, hob, od⟩
  have hA := ha.run cpos pins s1 σ H1 _ I1 q1
  rw [hs] at hA ⊢
  refine Calls.callWith_builtin (by show (false || (backTo cpos (starEach es X.env)).any (·.1)) = false; rw [hplain] <;> rfl) (Calls.evalArgs_plain ?_)
  exact thn hA fun us s2 ⟨vs, H2, I2, r2, q2⟩ => hm pins s2 σ H2 (.ref p) vs (.ref p) us Q I2 rfl r2 q2
def rIndexTI (K : PySem.W.Frag) : V → List V → Hp → VK → Prop := fun x xs H Q => ∃ (p : Addr) (ys : List Int) (z : Int) (j : Nat), x = .ref p ∧ xs = [.int z] ∧ SqT K H p (ys.map V.int) ∧ ys[j]? = some z ∧ (∀ m, m < j → ys[m]? ≠ some z) ∧ Q (.int (j : Nat)) H
theorem flat_ints (ys : List Int) : (ys.map V.int).all flatV = true := by
  rw [List.all_map]
  exact List.all_eq_true.mpr fun _ _ => rfl
theorem mt_indexTI : MtR X "tuple.index" (rIndexTI X.K) := by
  intro pins s σ H x xs v us Q I rx rs h
  obtain ⟨p, ys, z, j, rfl, rfl, hq, hy, hno, q⟩ := h
  cases rx
  obtain ⟨u, rfl, t, rfl⟩ := vals1 rs
  obtain ⟨its, r, pl, hz⟩ := I.tuple hq
  obtain ⟨⟨cls, dd, dt, sl⟩, ho, hc, n, hd⟩ := pl
  simp only at hc hd
  subst hc
  subst hd
  have hl : its.toArray.size = ys.length := by rw [List.size_toArray, ← r.length, List.length_map]
  have hj : j < its.toArray.size := by rw [hl]; exact (List.getElem?_eq_some_iff.mp hy).1
  have at' : ∀ (m : Nat) (hm : m < its.toArray.size), ∃ y t', ys[m]? = some y ∧ its.toArray[m] = Value.int y t' := fun m hm => by
    have hm' : m < ys.length := by rw [← hl]; exact hm
    obtain ⟨w, hw, t', hw'⟩ := r.get (i := m) (x := .int ys[m]) (by simp [hm'])
    refine ⟨ys[m], t', List.getElem?_eq_getElem hm', ?_⟩
    have e := (List.getElem?_eq_some_iff.mp hw).2
    rw [← hw', ← e]
    simp
  refine call_meets PySem.F.slot_tuple_index ⟨_, ho, rfl⟩ PySem.F.entry_tuple_index (PySem.F.args_tuple_index_2 _ _) (TI.tuple_indexAt p its.toArray n dd sl (.int z t) (eqU (.int z)) j hj ?_ ?_)
    ⟨ho, fun w hw => mem_eqAt (x := .int z) ⟨t, rfl⟩ rfl r (flat_ints ys) w (by simpa using hw), ⟨.int (j : Nat), H, I.tok _, ⟨_, rfl⟩, q⟩⟩
  · obtain ⟨y, t', h1, h2⟩ := at' j hj
    rw [hy] at h1
    cases h1
    rw [h2]
    show (z == z) = true
    exact beq_self_eq_true z
  · intro m hm hmj
    obtain ⟨y, t', h1, h2⟩ := at' m hm
    rw [h2]
    show (y == z) = false
    refine beq_eq_false_iff_ne.mpr fun e => ?_
    subst e
    exact hno m hmj h1
theorem g_bmT {σ : L2.St} {H : Hp} {Q : VK} (q : to σ H fun x H1 => (∃ p xs, x = .ref p ∧ TupK H1 p xs) ∧ t σ H1 fun ys H2 => r x ys H2 Q) : tBMT r to t σ H Q := q
end
end G48
namespace G48
open PySem PySem.Spec PyProof.Rows L2 Evl
/-! ### comprehensions -/
def kLcE (D : Addr) (N : Hp → Prop) : VK := fun y H4 => ∃ acc, H4 D = some (.lst acc) ∧ acc.length < sizeLine ∧ N (upd H4 D (.lst (acc ++ [y])))
def kLcT (te : TE) (σ2 : L2.St) (D : Addr) (N : Hp → Prop) (b : Bool) (H3 : Hp) : Prop := if b = true then te σ2 H3 (kLcE D N) else N H3
def kLcG (tt : TT) (te : TE) (vs : List Nat) (σ : L2.St) (D : Addr) (N : Hp → Prop) (σ2 : L2.St) (H2 : Hp) : Prop := wipe σ2 vs = wipe σ vs ∧ tt σ2 H2 (kLcT te σ2 D N)
/-! within a comprehension the part of the heap is named -/
section
variable {X : Cx} {e : Expr} {ta : TE} {f : Str} {pos : Pos} {es : List Expr} {k n : Nat} {t : TGs}
theorem ix_tupK (K : PySem.W.Frag) (h : X.K = K := by rfl) : IxR X (rIxT K) := by subst h; exact ix_tup
theorem ix_listK (K : PySem.W.Frag) (h : X.K = K := by rfl) : IxR X (rIxL K) := by subst h; exact ix_list
theorem c_lenK (K : PySem.W.Frag) (h : X.K = K := by rfl) : CallR X (.builtin "len") (rLen K) := by subst h; exact c_len
theorem pe_fldK (K : PySem.W.Frag) (he : PE X e ta) (hb : attributeBase e f X.env (eval e X.env) = eval e X.env) (h : X.K = K := by rfl) : PE X (.Attribute e f pos) (tFld K ta f) := by subst h; exact pe_fld he hb
theorem pg_tupK (K : PySem.W.Frag) (hc : X.calm = true) (h : PGs X es t)
    (hn : (assignEach es X.env).length = n := by rfl) (hst : (assignEach es X.env).findIdx? (·.1) = none := by rfl) (hK : X.K = K := by rfl) : PG X (.Tuple es k pos) (gTup K n t) := by subst hK; exact pg_tup hc h hn hst
end
section
variable {K : PySem.W.Frag} {σ σ2 : L2.St} {H : Hp} {D : Addr} {N : Hp → Prop} {acc : List V} {y : V} {te : TE} {tt : TT} {vs : List Nat} {b : Bool} {Q : VK} {g : TG} {tr : TA} {tl : TE} {a : Addr} {xs : List V}
theorem g_kLcE (h : H D = some (.lst acc)) (z : acc.length < sizeLine) (q : ∀ H', Exb D H H' → H' D = some (.lst (acc ++ [y])) → N H') : kLcE D N y H := ⟨acc, h, z, q _ Exb.upd upd_same⟩
theorem g_kLcTT (q : te σ2 H (kLcE D N)) : kLcT te σ2 D N true H := q
theorem g_kLcTF (q : N H) : kLcT te σ2 D N false H := q
theorem g_kLcT (h1 : b = true → te σ2 H (kLcE D N)) (h2 : b = false → N H) : kLcT te σ2 D N b H := by
  cases b with
  | true => exact h1 rfl
  | false => exact h2 rfl
theorem y_kLcT (hc : b = true) (q : te σ2 H (kLcE D N)) : kLcT te σ2 D N b H := by rw [hc]; exact q
theorem n_kLcT (hc : b = false) (q : N H) : kLcT te σ2 D N b H := by rw [hc]; exact q
theorem g_kLcG (h : wipe σ2 vs = wipe σ vs) (q : tt σ2 H (kLcT te σ2 D N)) : kLcG tt te vs σ D N σ2 H := ⟨h, q⟩
theorem g_yes {QB : Bool → Hp → Prop} (q : QB true H) : tYes σ H QB := q
/-- over range(n) -/
def kLcR1 (g : TG) (tt : TT) (te : TE) (vs : List Nat) (σ : L2.St) (Q : VK) (ws : List V) (H1 : Hp) : Prop := tLc (iRng1 (fun _ H Q => Q ws H)) g tt te vs σ H1 Q
theorem g_lcR1 (q : tr σ H (kLcR1 g tt te vs σ Q)) : tLc (iRng1 tr) g tt te vs σ H Q := q
theorem g_kLcR1 {n : Int} (hn : 0 ≤ n ∧ n < 2 ^ 62) (Pv : Addr → Nat → Hp → Prop) (h0 : ∀ D H1, H D = none → Ex H H1 → H1 D = some (.lst []) → Pv D 0 H1)
    (hs : ∀ D (i : Nat) H2, H D = none → (i : Int) < n → Pv D i H2 → g (.int (i : Int)) (wipe σ vs) H2 (kLcG tt te vs σ D (Pv D (i + 1))))
    (hd : ∀ D H2, H D = none → Pv D n.toNat H2 → Q (.ref D) H2) : kLcR1 g tt te vs σ Q [.int n] H :=
  ⟨n, rfl, by omega, by omega, fun D hD => lc_range (lo := 0) (n := n.toNat) (Pv D) (h0 D _ hD (Ex.new hD) upd_same) (fun i H2 hi p => by
    have e0 : (0 : Int) + (i : Int) = (i : Int) := Int.zero_add _
    rw [e0]
    exact hs D i H2 hD (by omega) p) (fun H2 p => hd D H2 hD p)⟩
/-- over range(a, b) -/
def kLcR2 (g : TG) (tt : TT) (te : TE) (vs : List Nat) (σ : L2.St) (Q : VK) (ws : List V) (H1 : Hp) : Prop := tLc (iRng2 (fun _ H Q => Q ws H)) g tt te vs σ H1 Q
theorem g_lcR2 (q : tr σ H (kLcR2 g tt te vs σ Q)) : tLc (iRng2 tr) g tt te vs σ H Q := q
theorem g_kLcR2 {lo n : Int} (hn : -(2 ^ 62) ≤ lo ∧ lo < 2 ^ 62 ∧ -(2 ^ 62) ≤ n ∧ n < 2 ^ 62) (Pv : Addr → Nat → Hp → Prop) (h0 : ∀ D H1, H D = none → Ex H H1 → H1 D = some (.lst []) → Pv D 0 H1)
    (hs : ∀ D (i : Nat) H2, H D = none → lo + (i : Int) < n → Pv D i H2 → g (.int (lo + (i : Int))) (wipe σ vs) H2 (kLcG tt te vs σ D (Pv D (i + 1))))
    (hd : ∀ D H2, H D = none → Pv D (n - lo).toNat H2 → Q (.ref D) H2) : kLcR2 g tt te vs σ Q [.int lo, .int n] H :=
  ⟨lo, n, rfl, hn, fun D hD => lc_range (lo := lo) (n := (n - lo).toNat) (Pv D) (h0 D _ hD (Ex.new hD) upd_same) (fun i H2 hi p => hs D i H2 hD (by omega) p) (fun H2 p => hd D H2 hD p)⟩
/-- over a list -/
def kLcL (K : PySem.W.Frag) (g : TG) (tt : TT) (te : TE) (vs : List Nat) (σ : L2.St) (Q : VK) : VK := fun x H1 => tLc (iList K (tC x)) g tt te vs σ H1 Q
theorem g_lcL (q : tl σ H (kLcL K g tt te vs σ Q)) : tLc (iList K tl) g tt te vs σ H Q := q
theorem g_kLcL (h : SqL K H a xs) (Pv : Addr → Nat → Hp → Prop) (h0 : ∀ D H1, H D = none → Ex H H1 → H1 D = some (.lst []) → Pv D 0 H1) (hl : ∀ D i H2, H D = none → i ≤ xs.length → Pv D i H2 → SqL K H2 a xs)
    (hs : ∀ D (i : Nat) x H2, H D = none → xs[i]? = some x → Pv D i H2 → g x (wipe σ vs) H2 (kLcG tt te vs σ D (Pv D (i + 1))))
    (hd : ∀ D H2, H D = none → Pv D xs.length H2 → Q (.ref D) H2) : kLcL K g tt te vs σ Q (.ref a) H :=
  ⟨a, rfl, ⟨xs, h⟩, fun D hD => lc_list (xs := xs) (Pv D) (h0 D _ hD (Ex.new hD) upd_same) (fun i H2 hi p => hl D i H2 hD hi p) (fun i x H2 hi p => hs D i x H2 hD hi p) (fun H2 p => hd D H2 hD p)⟩
/-- over a tuple -/
def kLcU (K : PySem.W.Frag) (g : TG) (tt : TT) (te : TE) (vs : List Nat) (σ : L2.St) (Q : VK) : VK := fun x H1 => tLc (iTup K (tC x)) g tt te vs σ H1 Q
theorem g_lcU (q : tl σ H (kLcU K g tt te vs σ Q)) : tLc (iTup K tl) g tt te vs σ H Q := q
theorem g_kLcU (h : SqT K H a xs) (Pv : Addr → Nat → Hp → Prop) (h0 : ∀ D H1, H D = none → Ex H H1 → H1 D = some (.lst []) → Pv D 0 H1) (hl : ∀ D i H2, H D = none → i ≤ xs.length → Pv D i H2 → SqT K H2 a xs)
    (hs : ∀ D (i : Nat) x H2, H D = none → xs[i]? = some x → Pv D i H2 → g x (wipe σ vs) H2 (kLcG tt te vs σ D (Pv D (i + 1))))
    (hd : ∀ D H2, H D = none → Pv D xs.length H2 → Q (.ref D) H2) : kLcU K g tt te vs σ Q (.ref a) H :=
  ⟨a, rfl, ⟨xs, h⟩, fun D hD => lc_tup (xs := xs) (Pv D) (h0 D _ hD (Ex.new hD) upd_same) (fun i H2 hi p => hl D i H2 hD hi p) (fun i x H2 hi p => hs D i x H2 hD hi p) (fun H2 p => hd D H2 hD p)⟩
/-- over enumerate(tuple) -/
def kLcN (K : PySem.W.Frag) (g : TG) (tt : TT) (te : TE) (vs : List Nat) (σ : L2.St) (Q : VK) (ws : List V) (H1 : Hp) : Prop := tLc (iEnumT K (fun _ H Q => Q ws H)) g tt te vs σ H1 Q
theorem g_lcN (q : tr σ H (kLcN K g tt te vs σ Q)) : tLc (iEnumT K tr) g tt te vs σ H Q := q
theorem g_kLcN (h : SqT K H a xs) (Pv : Addr → Nat → Hp → Prop) (h0 : ∀ D H1, H D = none → Ex H H1 → H1 D = some (.lst []) → Pv D 0 H1) (hl : ∀ D i H2, H D = none → i ≤ xs.length → Pv D i H2 → SqT K H2 a xs)
    (hs : ∀ D (i : Nat) x H2 T H3, H D = none → xs[i]? = some x → Pv D i H2 → Ex H2 H3 → H2 T = none → H3 T = some (.tup [.int (i : Int), x]) → g (.ref T) (wipe σ vs) H3 (kLcG tt te vs σ D (Pv D (i + 1))))
    (hd : ∀ D H2, H D = none → Pv D xs.length H2 → Q (.ref D) H2) : kLcN K g tt te vs σ Q [.ref a] H :=
  ⟨a, xs, rfl, h, fun D hD => lc_it walk_enumT (Pv D) (h0 D _ hD (Ex.new hD) upd_same) (fun i H2 hi p => hl D i H2 hD hi p) (fun i x H2 H3 hi p y => by
    obtain ⟨T, u, v, rfl, hT, rfl, e1, e2⟩ := y
    cases e1
    exact hs D i v H2 T _ hD e2 p (Ex.new hT) hT upd_same) (fun H2 p => hd D H2 hD p)⟩
end
end G48
namespace G48
open PySem PySem.Spec PyProof.Rows L2 Evl
/-! ### x in a tuple of data -/
def rInU (K : PySem.W.Frag) : R2 := fun x y H Q => ∃ d ds, Dp K H x d ∧ Dp K H y (.tuple ds) ∧ SeqAt.shaped d = true ∧ SeqAt.shaped (.tuple ds) = true ∧ Q (.bl (ds.any fun z => PyData.eqv z d)) H
def rNotInU (K : PySem.W.Frag) : R2 := fun x y H Q => ∃ d ds, Dp K H x d ∧ Dp K H y (.tuple ds) ∧ SeqAt.shaped d = true ∧ SeqAt.shaped (.tuple ds) = true ∧ Q (.bl (!ds.any fun z => PyData.eqv z d)) H
section
variable {X : Cx}
theorem op_inU {k : Nat} (hr : Room k X.A) : OpR X (compareOp .In) (rInU X.K) := by
  intro pins s σ H x y v u Q I rx ry h
  obtain ⟨d, ds, hd, he, sd, se, q⟩ := h
  obtain ⟨as, r1⟩ := Dp.reads I d x v hd rx
  obtain ⟨bs, r2⟩ := Dp.reads I (.tuple ds) y u he ry
  exact SeqAt.in_tuple_reads r2 r1 (SeqAt.canLay_of_shaped se) (SeqAt.canLay_of_shaped sd) (room_in_shaped sd (by have := hr.un; omega)) ⟨.bl _, H, I, rfl, q⟩
theorem op_notInU {k : Nat} (hr : Room k X.A) : OpR X (compareOp .NotIn) (rNotInU X.K) := by
  intro pins s σ H x y v u Q I rx ry h
  obtain ⟨d, ds, hd, he, sd, se, q⟩ := h
  obtain ⟨as, r1⟩ := Dp.reads I d x v hd rx
  obtain ⟨bs, r2⟩ := Dp.reads I (.tuple ds) y u he ry
  exact SeqAt.notIn_tuple_reads r2 r1 (SeqAt.canLay_of_shaped se) (SeqAt.canLay_of_shaped sd) (room_in_shaped sd (by have := hr.un; omega)) ⟨.bl _, H, I, rfl, q⟩
end
/-! ### pairs of ints -/
def pairD (p : Int × Int) : PyData := .tuple [.int p.1, .int p.2]
theorem pairD_eqv (p q : Int × Int) : PyData.eqv (pairD p) (pairD q) = decide (p = q) := by
  rw [Bool.eq_iff_iff]
  obtain ⟨a, b⟩ := p
  obtain ⟨c, d⟩ := q
  simp [pairD, PyData.eqv, PyData.eqvAll]
theorem pairD_inj {p q : Int × Int} (h : pairD p = pairD q) : p = q := by
  obtain ⟨a, b⟩ := p
  obtain ⟨c, d⟩ := q
  unfold pairD at h
  simp at h
  rw [h.1, h.2]
theorem pairD_lay (p : Int × Int) : (pairD p).canLay0 = true := by simp [pairD, PyData.canLay0, PyData.canLayAll0]
theorem pairD_depth (p : Int × Int) : (pairD p).depth = 1 := by simp [pairD, PyData.depth, PyData.depthAll]
theorem pairsD_lay : ∀ ps : List (Int × Int), PyData.canLayAll0 (ps.map pairD) = true
  | [] => by simp [PyData.canLayAll0]
  | z :: zs => by simp [PyData.canLayAll0, pairD_lay z, pairsD_lay zs]
theorem pairsD_depth : ∀ ps : List (Int × Int), PyData.depthAll (ps.map pairD) ≤ 1
  | [] => by simp [PyData.depthAll]
  | z :: zs => by
    have h1 := pairsD_depth zs
    have h2 := pairD_depth z
    simp only [List.map_cons, PyData.depthAll]
    omega
theorem pairD_sh (p : Int × Int) : SeqAt.shaped (pairD p) = true := by
  have h := pairD_depth p
  show ((pairD p).canLay0 && decide ((pairD p).depth ≤ 64)) = true
  rw [Bool.and_eq_true]
  exact ⟨pairD_lay p, decide_eq_true (by omega)⟩
theorem pairsT_sh (ps : List (Int × Int)) : SeqAt.shaped (.tuple (ps.map pairD)) = true := by
  have h1 := pairsD_depth ps
  have h2 : PyData.depth (.tuple (ps.map pairD)) ≤ 64 := by
    simp only [PyData.depth]
    omega
  show (PyData.canLay0 (.tuple (ps.map pairD)) && decide (PyData.depth (.tuple (ps.map pairD)) ≤ 64)) = true
  rw [Bool.and_eq_true]
  exact ⟨by simp only [PyData.canLay0]; exact pairsD_lay ps, decide_eq_true h2⟩
theorem pairsL_sh (ps : List (Int × Int)) : SeqAt.shaped (.list (ps.map pairD)) = true := by
  have h1 := pairsD_depth ps
  have h2 : PyData.depth (.list (ps.map pairD)) ≤ 64 := by
    simp only [PyData.depth]
    omega
  show (PyData.canLay0 (.list (ps.map pairD)) && decide (PyData.depth (.list (ps.map pairD)) ≤ 64)) = true
  rw [Bool.and_eq_true]
  exact ⟨by simp only [PyData.canLay0]; exact pairsD_lay ps, decide_eq_true h2⟩
theorem non_sh : SeqAt.shaped .none = true := by
  show (PyData.canLay0 .none && decide (PyData.depth .none ≤ 64)) = true
  rw [Bool.and_eq_true]
  exact ⟨by simp [PyData.canLay0], decide_eq_true (by simp [PyData.depth])⟩
def pairV (K : PySem.W.Frag) (H : Hp) (x : V) (p : Int × Int) : Prop := ∃ a, x = .ref a ∧ SqT K H a [.int p.1, .int p.2]
theorem pairV.dp {K : PySem.W.Frag} {H : Hp} {x : V} {p : Int × Int} (h : pairV K H x p) : Dp K H x (pairD p) := by
  obtain ⟨a, rfl, h⟩ := h
  exact .tup h (.cons (.int _) (.cons (.int _) .nil))
def pairsV (K : PySem.W.Frag) (H : Hp) : List V → List (Int × Int) → Prop
  | [], [] => True
  | x :: xs, p :: ps => pairV K H x p ∧ pairsV K H xs ps
  | _, _ => False
theorem pairsV.dp {K : PySem.W.Frag} {H : Hp} : ∀ {xs : List V} {ps : List (Int × Int)}, pairsV K H xs ps → DpAll K H xs (ps.map pairD)
  | [], [], _ => .nil
  | _ :: _, _ :: _, h => .cons h.1.dp (pairsV.dp h.2)
  | [], _ :: _, h => h.elim
  | _ :: _, [], h => h.elim
theorem pairsV.len {K : PySem.W.Frag} {H : Hp} : ∀ {xs : List V} {ps : List (Int × Int)}, pairsV K H xs ps → xs.length = ps.length
  | [], [], _ => rfl
  | _ :: xs, _ :: ps, h => by rw [List.length_cons, List.length_cons, pairsV.len h.2]
  | [], _ :: _, h => h.elim
  | _ :: _, [], h => h.elim
theorem pairV.imp {K : PySem.W.Frag} {H H' : Hp} {x : V} {p : Int × Int} (e : ∀ a xs, SqT K H a xs → SqT K H' a xs) (h : pairV K H x p) : pairV K H' x p := let ⟨a, ex, h⟩ := h; ⟨a, ex, e _ _ h⟩
theorem pairsV.imp {K : PySem.W.Frag} {H H' : Hp} (e : ∀ a xs, SqT K H a xs → SqT K H' a xs) : ∀ {xs : List V} {ps : List (Int × Int)}, pairsV K H xs ps → pairsV K H' xs ps
  | [], [], _ => trivial
  | _ :: _, _ :: _, h => ⟨h.1.imp e, pairsV.imp e h.2⟩
  | [], _ :: _, h => h.elim
  | _ :: _, [], h => h.elim
theorem pairsV.ex {K : PySem.W.Frag} {H H' : Hp} {xs : List V} {ps : List (Int × Int)} (e : Ex H H') (h : pairsV K H xs ps) : pairsV K H' xs ps := h.imp fun _ _ => ex_t e
theorem pairsV.exb {K : PySem.W.Frag} {H H' : Hp} {l : Addr} {ys xs : List V} {ps : List (Int × Int)} (e : Exb l H H') (hl : H l = some (.lst ys)) (h : pairsV K H xs ps) : pairsV K H' xs ps := h.imp fun _ _ => exb_t e hl
theorem pairsV.app {K : PySem.W.Frag} {H : Hp} : ∀ {xs : List V} {ps : List (Int × Int)} {ys : List V} {qs : List (Int × Int)}, pairsV K H xs ps → pairsV K H ys qs → pairsV K H (xs ++ ys) (ps ++ qs)
  | [], [], _, _, _, k => k
  | _ :: _, _ :: _, _, _, h, k => ⟨h.1, pairsV.app h.2 k⟩
  | [], _ :: _, _, _, h, _ => h.elim
  | _ :: _, [], _, _, h, _ => h.elim
theorem pairsV.one {K : PySem.W.Frag} {H : Hp} {x : V} {p : Int × Int} (h : pairV K H x p) : pairsV K H [x] [p] := ⟨h, trivial⟩
theorem pairsV.at {K : PySem.W.Frag} {H : Hp} : ∀ {xs : List V} {ps : List (Int × Int)} {i : Nat} {p : Int × Int}, pairsV K H xs ps → ps[i]? = some p → ∃ x, xs[i]? = some x ∧ pairV K H x p
  | [], [], i, p, _, e => by simp at e
  | x :: xs, q :: ps, 0, p, h, e => ⟨x, rfl, by
    have e' : q = p := by simpa using e
    rw [← e']
    exact h.1⟩
  | x :: xs, q :: ps, i + 1, p, h, e => by
    obtain ⟨y, hy, k⟩ := pairsV.at (i := i) h.2 (by simpa using e)
    exact ⟨y, by simpa using hy, k⟩
  | [], _ :: _, _, _, h, _ => h.elim
  | _ :: _, [], _, _, h, _ => h.elim
theorem pairsV.rev {K : PySem.W.Frag} {H : Hp} : ∀ {xs : List V} {ps : List (Int × Int)}, pairsV K H xs ps → pairsV K H xs.reverse ps.reverse
  | [], [], _ => trivial
  | x :: xs, p :: ps, h => by
    rw [List.reverse_cons, List.reverse_cons]
    exact pairsV.app (pairsV.rev h.2) (pairsV.one h.1)
  | [], _ :: _, h => h.elim
  | _ :: _, [], h => h.elim
theorem pairsV.at' {K : PySem.W.Frag} {H : Hp} : ∀ {xs : List V} {ps : List (Int × Int)} {i : Nat} {x : V}, pairsV K H xs ps → xs[i]? = some x → ∃ p, ps[i]? = some p ∧ pairV K H x p
  | [], [], i, x, _, e => by simp at e
  | x :: xs, q :: ps, 0, y, h, e => ⟨q, rfl, by
    have e' : x = y := by simpa using e
    rw [← e']
    exact h.1⟩
  | x :: xs, q :: ps, i + 1, y, h, e => by
    obtain ⟨p, hp, k⟩ := pairsV.at' (i := i) h.2 (by simpa using e)
    exact ⟨p, by simpa using hp, k⟩
  | [], _ :: _, _, _, h, _ => h.elim
  | _ :: _, [], _, _, h, _ => h.elim
theorem pairsV.drop {K : PySem.W.Frag} {H : Hp} : ∀ {xs : List V} {ps : List (Int × Int)} (n : Nat), pairsV K H xs ps → pairsV K H (xs.drop n) (ps.drop n)
  | _, _, 0, h => h
  | [], [], _ + 1, _ => trivial
  | _ :: _, _ :: _, n + 1, h => pairsV.drop n h.2
  | [], _ :: _, _ + 1, h => h.elim
  | _ :: _, [], _ + 1, h => h.elim
section
variable {K : PySem.W.Frag} {H : Hp} {Q : VK} {x y : V} {p q : Int × Int} {a b : Addr} {xs ys : List V} {ps qs : List (Int × Int)}
theorem g_eqP2 (h1 : pairV K H x p) (h2 : pairV K H y q) (k : Q (.bl (decide (p = q))) H) : rEqD K x y H Q := g_eqD h1.dp h2.dp (pairD_sh _) (pairD_sh _) (by rw [pairD_eqv]; exact k)
theorem g_neP2 (h1 : pairV K H x p) (h2 : pairV K H y q) (k : Q (.bl (!decide (p = q))) H) : rNeD K x y H Q := g_neD h1.dp h2.dp (pairD_sh _) (pairD_sh _) (by rw [pairD_eqv]; exact k)
theorem pairs_any (ps : List (Int × Int)) (p : Int × Int) : ((ps.map pairD).any fun z => PyData.eqv z (pairD p)) = decide (p ∈ ps) := by
  rw [Bool.eq_iff_iff]
  simp [pairD_eqv]
theorem g_inU (h1 : pairV K H x p) (h2 : SqT K H b ys) (h3 : pairsV K H ys qs) (k : Q (.bl (decide (p ∈ qs))) H) : rInU K x (.ref b) H Q := ⟨_, _, h1.dp, .tup h2 h3.dp, pairD_sh _, pairsT_sh _, by rw [pairs_any]; exact k⟩
theorem g_notInU (h1 : pairV K H x p) (h2 : SqT K H b ys) (h3 : pairsV K H ys qs) (k : Q (.bl (!decide (p ∈ qs))) H) : rNotInU K x (.ref b) H Q := ⟨_, _, h1.dp, .tup h2 h3.dp, pairD_sh _, pairsT_sh _, by rw [pairs_any]; exact k⟩
end
/-! ### the least of a list of pairs -/
def leP (p q : Int × Int) : Prop := p.1 < q.1 ∨ (p.1 = q.1 ∧ p.2 ≤ q.2)
theorem ltP (p q : Int × Int) : PySem.W.DatumOrd.lt p q = true → leP p q := by
  intro h
  have h' : (if p.1 = q.1 then decide (p.2 < q.2) else decide (p.1 < q.1)) = true := h
  unfold leP
  split at h'
  · have := of_decide_eq_true h'
    omega
  · have := of_decide_eq_true h'
    omega
theorem nltP (p q : Int × Int) : ¬ PySem.W.DatumOrd.lt p q = true → leP q p := by
  intro h
  have h' : ¬ (if p.1 = q.1 then decide (p.2 < q.2) else decide (p.1 < q.1)) = true := h
  unfold leP
  split at h'
  · have k : ¬ (p.2 < q.2) := fun z => h' (decide_eq_true z)
    omega
  · have k : ¬ (p.1 < q.1) := fun z => h' (decide_eq_true z)
    omega
theorem leP.trans {p q r : Int × Int} (h : leP p q) (k : leP q r) : leP p r := by
  unfold leP at *
  omega
theorem leP.refl (p : Int × Int) : leP p p := .inr ⟨rfl, Int.le_refl _⟩
theorem minOf_leP : ∀ (xs : List (Int × Int)) (x : Int × Int), leP (PySem.W.minOf x xs) x ∧ ∀ q ∈ xs, leP (PySem.W.minOf x xs) q
  | [], x => ⟨.refl x, fun q h => by cases h⟩
  | y :: r, x => by
    have e : PySem.W.minOf x (y :: r) = PySem.W.minOf (if PySem.W.DatumOrd.lt y x = true then y else x) r := rfl
    rw [e]
    by_cases h : PySem.W.DatumOrd.lt y x = true
    · rw [if_pos h]
      obtain ⟨h1, h2⟩ := minOf_leP r y
      refine ⟨h1.trans (ltP _ _ h), fun q hq => ?_⟩
      rcases List.mem_cons.mp hq with rfl | hq
      · exact h1
      · exact h2 q hq
    · rw [if_neg h]
      obtain ⟨h1, h2⟩ := minOf_leP r x
      refine ⟨h1, fun q hq => ?_⟩
      rcases List.mem_cons.mp hq with rfl | hq
      · exact h1.trans (nltP _ _ h)
      · exact h2 q hq
def rMinP (K : PySem.W.Frag) : List V → Hp → VK → Prop := fun xs H Q => ∃ (a : Addr) (vs : List V) (ps : List (Int × Int)), xs = [.ref a] ∧ SqL K H a vs ∧ pairsV K H vs ps ∧ ps ≠ [] ∧ ∀ x p, pairV K H x p → p ∈ ps → (∀ q ∈ ps, leP p q) → Q x H
theorem cr_minP {X : Cx} {k : Nat} (hc : X.calm = true) (hr : Room k X.A) : CallR X (.builtin "min") (rMinP X.K) := by
  intro pins s σ H vs us Q I r h
  obtain ⟨a, xs, ps, rfl, hs, hp, hne, q⟩ := h
  obtain ⟨its, rv, hl, _⟩ := I.list hs
  rw [Vals.ref1 r]
  obtain ⟨as, hr'⟩ := Dp.readsAll I _ _ its hp.dp rv
  cases ps with
  | nil => exact absurd rfl hne
  | cons x ps =>
    have HA : PySem.W.HoldAll s.heap its.toArray.toList (x :: ps) := ⟨as, show ReadsAll s.heap its ((x :: ps).map pairD) as from hr'⟩
    refine PySem.W.min_list_datum (I.ok.hd hc) hl.isList HA (by show X.A.units + 1 + 1 < cLine; have := hr.un; omega) fun i v h' tk hi hv hk => ?_
    obtain ⟨p, hpi, hh⟩ := PySem.W.HoldAll.at HA (i := i) (by simpa using hi)
    have e : p = PySem.W.minOf x ps := by
      obtain ⟨bs, r1⟩ := PySem.W.Holds.keeps hk hh
      obtain ⟨cs, r2⟩ := hv
      exact pairD_inj (SeqAt.Reads.unique (pairD p) _ _ _ _ (pairD_lay p) r1 r2)
    obtain ⟨z, hz, pz⟩ := hp.at hpi
    obtain ⟨u, hu', ru⟩ := rv.get hz
    have : u = v := by
      have h1 : its[i]? = some v := by simpa using hi
      rw [hu'] at h1
      exact Option.some.inj h1
    subst this
    obtain ⟨m1, m2⟩ := minOf_leP ps x
    refine ⟨z, H, I.kept hk, ru, q z p pz (List.mem_of_getElem? hpi) fun y hy => ?_⟩
    rw [e]
    rcases List.mem_cons.mp hy with rfl | hy
    · exact m1
    · exact m2 y hy
/-! ### == by an own def -/
def rEqO (C : Addr) (sp : Sp) (E : XK) : R2 := fun x y H Q => ∃ a b, x = .ref a ∧ y = .ref b ∧ (∃ dx fs, H a = some (.ins C dx fs)) ∧ (∃ dx fs, H b = some (.ins C dx fs)) ∧ sp [.ref a, .ref b] H (fun v H2 => ∃ c, v = .bl c ∧ Q v H2) E
theorem op_eqMf {X : Cx} {k j : Nat} {ps : List Str} {sp : Sp} {E : XK} {C : Addr} (D : Mf X.prog X.w X.K X.mg X.base C k "__eq__" ps sp) (hr : Room j X.A) (hx : Passes (L2.CX X.prog X.w) X E := by exact passL) (hk : k ≤ j := by decide) : OpR X (compareOp .Eq) (rEqO C sp E) := by
  intro pins s σ H x y v u Q I rx ry h
  obtain ⟨a, b, rfl, rfl, ⟨dx, fs, ha⟩, ⟨dy, gs, hb'⟩, q⟩ := h
  obtain rfl : v = Value.ref a := rx
  obtain rfl : u = Value.ref b := ry
  obtain ⟨f, fd, hm, hb, F⟩ := D.ex
  obtain ⟨mA, J, _⟩ := ins_get I.hok ha
  obtain ⟨mB, J', _⟩ := ins_get I.hok hb'
  obtain ⟨od, J, _⟩ := J.look
  obtain ⟨od', J', _⟩ := J'.look
  obtain ⟨m, hF⟩ := I.fr
  show wpAny (model X.prog X.w) X.A (richCompare .Eq (.ref a) (.ref b)) (EP X pins σ Q) X.xe s
  refine PySem.W.cmp_K (op := .Eq) (tb := .ref C) hr.units0 hF I.ok.mod.kin J J'.type (by simp [PySem.W.notFirst]) hm.at_ hm.fn ?_
  refine thn (run_fn F (hr.mono hk) hb .nil hx I (us := [.ref a, .ref b]) (vs := [.ref a, .ref b]) (.cons rfl (.cons rfl .nil)) q) fun v s1 hv => ?_
  obtain ⟨z, H1, I1, rz, c, ez, q1⟩ := hv
  subst ez
  cases rz
  exact ⟨.bl c, H1, I1, rfl, q1⟩
section
variable {C a b : Addr} {sp : Sp} {E : XK} {H : Hp} {Q : VK}
def kBl (Q : VK) : VK := fun v H2 => ∃ c, v = .bl c ∧ Q v H2
theorem g_kBl {c : Bool} (q : Q (.bl c) H) : kBl Q (.bl c) H := ⟨c, rfl, q⟩
theorem g_eqO {dx dy : Addr} {fs gs : List (Str × V)} (h1 : H a = some (.ins C dx fs)) (h2 : H b = some (.ins C dy gs)) (q : sp [.ref a, .ref b] H (kBl Q) E) : rEqO C sp E (.ref a) (.ref b) H Q := ⟨a, b, rfl, rfl, ⟨dx, fs, h1⟩, ⟨dy, gs, h2⟩, q⟩
end
/-! ### match v: case [x, y] if test: .. case _: .. -/
def sM2 (K : PySem.W.Frag) (te : TE) (i j : Nat) (tt : TT) (t1 t2 : TS) : TS := fun D σ H => te σ H fun x H1 => ∃ a v w, x = .ref a ∧ SqT K H1 a [v, w] ∧ tt ((σ.set i (some v)).set j (some w)) H1 (kIfS t1 t2 D ((σ.set i (some v)).set j (some w)))
theorem unpack2 {prog : Program} {w : World} {A : Around} {E : Value → Shared → Prop} {s : Shared} {a : Addr} {u1 u2 : Value} {Q : List Value → Shared → Prop} (hh : A.handled = none) (ht : IsTup s.heap a [u1, u2].toArray)
    (h : ∀ h', Heap.ExtBut s.heap.objs.size s.heap h' → Q [u1, u2] { s with heap := h' }) : wpAny (model prog w) A (unpackItems (.ref a) 2 none) Q E s := unpackItems_tuple (items := [u1, u2].toArray) hh ht h
theorem ps_match2 {X : Cx} {i j : Nat} {x1 x2 : Str} {e g : Expr} {b1 b2 : List Stmt} {te : TE} {tt : TT} {t1 t2 : TS} {p1 p2 p3 p4 pos : Pos} (hc : X.calm = true) (hN : X.N.Nodup) (hi : X.N[i]? = some x1) (hj : X.N[j]? = some x2) (hx : Loc X.env.scope x1) (hy : Loc X.env.scope x2)
    (he : PE X e te) (hg : PT X g tt) (h1 : PSs X b1 t1) (h2 : PSs X b2 t2) (hf1 : X.fn x1 = true ∨ X.env.scope.names.lookup x1 = some .local := by first | exact .inl rfl | exact .inr rfl) (hf2 : X.fn x2 = true ∨ X.env.scope.names.lookup x2 = some .local := by first | exact .inl rfl | exact .inr rfl) :
    PS X (.Match e [⟨.MatchSequence [.MatchAs none (some x1) p1, .MatchAs none (some x2) p2] p3, some g, b1⟩, ⟨.MatchAs none none p4, none, b2⟩] pos) (sM2 X.K te i j tt t1 t2) := by
  refine ⟨fun pins s σ H D I h => ?_⟩
  refine wpAny_Match (thn (he.run pins s σ H _ I h) fun u s1 ⟨x, H1, I1, r1, a, v, w, ex, hq, q⟩ => ?_)
  subst ex
  cases r1
  obtain ⟨its, rv, ht, hz⟩ := I1.tuple hq
  cases rv with
  | cons rv1 rr =>
  cases rr with
  | cons rv2 rn =>
  cases rn
  refine wpAny_matchCases_cons (matchSeq_tuple_hit (show s1.heap.IsTuple a _ from ht) (by simp) rfl ?_)
  refine unpack2 (I1.ok.hd hc) (a := a) (s := { s1 with toks := s1.toks + 1 + 1 }) ht fun h' hx' => ?_
  have I2 : Inv X pins σ H1 { s1 with heap := h', toks := s1.toks + 1 + 1 } := I1.kept (t' := s1.toks + 1 + 1) fun b o e => hx' b o (Nat.ne_of_lt (Heap.lt_size e)) e
  refine wpAny_matchEach_cons (wpAny_matchPattern_Capture (wpAny_matchEach_cons (wpAny_matchPattern_Capture (wpAny_matchEach_nil ?_))))
  refine wpAny_assignInOrder_more (wpAny_bindName (store_ok I2 hN hi hx rv1 (fun s3 I3 => ?_) hf1))
  refine wpAny_assignInOrder_more (wpAny_bindName (store_ok I3 hN hj hy rv2 (fun s4 I4 => ?_) hf2))
  refine wpAny_assignInOrder_none ?_
  refine thn (hg.run pins s4 _ H1 _ I4 q) fun c s5 ⟨H5, I5, q5⟩ => ?_
  cases c with
  | true => exact h1.run pins s5 _ H5 D I5 q5
  | false =>
    refine wpAny_matchCases_cons (wpAny_matchPattern_Capture (wpAny_assignInOrder_none ?_))
    exact h2.run pins s5 _ H5 D I5 q5
theorem g_m2 {K : PySem.W.Frag} {te : TE} {i j : Nat} {tt : TT} {t1 t2 : TS} {D : Ends} {σ : L2.St} {H : Hp} (q : te σ H fun x H1 => ∃ a v w, x = .ref a ∧ SqT K H1 a [v, w] ∧ tt ((σ.set i (some v)).set j (some w)) H1 (kIfS t1 t2 D ((σ.set i (some v)).set j (some w)))) : sM2 K te i j tt t1 t2 D σ H := q
theorem dec_in {i : Int} : decide (V.int i = V.non) = false := decide_eq_false fun z => by cases z
theorem dec_rn {a : Addr} : decide (V.ref a = V.non) = false := decide_eq_false fun z => by cases z
theorem dec_nn : decide (V.non = V.non) = true := decide_eq_true rfl
theorem ltLine {n : Nat} (h : n < 16000000) : n < sizeLine := Nat.lt_of_lt_of_le h (by rw [sizeLine_eq]; decide)
theorem leLine {n : Nat} (h : n ≤ 16000000) : n ≤ sizeLine := Nat.le_trans h (by rw [sizeLine_eq]; decide)
theorem pi_listK {X : Cx} {tg l : Expr} {tl : TE} (K : PySem.W.Frag) (hl : PE X l tl) (h : X.K = K := by rfl) : PI X tg l (iList K tl) := by subst h; exact pi_list hl
theorem u1 {k : Nat} {A : Around} (hr : Room k A) : A.units + 1 < cLine := by have := hr.un; omega
/-! ### sum of a tuple -/
def rSumT (K : PySem.W.Frag) : List V → Hp → VK → Prop := fun vs H Q => ∃ (a : Addr) (ns : List Int), vs = [V.ref a] ∧ SqT K H a (ns.map V.int) ∧ Q (.int ns.sum) H
theorem cr_sumT {X : Cx} (hc : X.calm = true) : CallR X (.builtin "sum") (rSumT X.K) := by
  intro pins s σ H vs us Q I r h
  obtain ⟨a, ns, rfl, hs, q⟩ := h
  obtain ⟨its, rv, hl, _⟩ := I.tuple hs
  rw [Vals.ref1 r]
  obtain ⟨xs, e⟩ := rv.ints.allInts.items
  have hn : numsOf (intItems xs).toList = ns := by rw [← e]; exact rv.ints.numsOf
  rw [nums_intItems] at hn
  have hl : s.heap.IsTuple a its.toArray := hl
  rw [e] at hl
  refine PySem.W.ktm_sumG (I.ok.hd hc) hl fun h' tk t' hk => ?_
  rw [preSum_eq, List.take_of_length_le (by simp), hn]
  exact ⟨.int _, H, I.kept hk, ⟨_, rfl⟩, q⟩
theorem g_sumT {K : PySem.W.Frag} {H : Hp} {Q : VK} {a : Addr} {ns : List Int} (h : SqT K H a (ns.map V.int)) (q : Q (.int ns.sum) H) : rSumT K [.ref a] H Q := ⟨a, ns, rfl, h, q⟩
/-! ### isinstance of an own class -/
structure IsiC (K : PySem.W.Frag) (C : Addr) : Prop where
  ha : PySem.W.findIn K (.ref C) "__class__" = some (some (.builtin "object.__class__"))
  hn : PySem.W.specialIn K (.builtin "object.__class__") "__get__" = some (some (.builtin "getset_descriptor.__get__"))
  htk : PySem.W.takesIn K (.builtin "object.__class__") = some true
  hm : PySem.W.mroIn K C (.type "object") = some true
def isiB (K : PySem.W.Frag) (C : Addr) : Bool := decide (PySem.W.findIn K (.ref C) "__class__" = some (some (.builtin "object.__class__"))) && (decide (PySem.W.specialIn K (.builtin "object.__class__") "__get__" = some (some (.builtin "getset_descriptor.__get__"))) &&
  (decide (PySem.W.takesIn K (.builtin "object.__class__") = some true) && decide (PySem.W.mroIn K C (.type "object") = some true)))
theorem isi_ok {K : PySem.W.Frag} {C : Addr} (h : isiB K C = true) : IsiC K C := by
  obtain ⟨h1, h⟩ := He.ba h
  obtain ⟨h2, h⟩ := He.ba h
  obtain ⟨h3, h4⟩ := He.ba h
  exact ⟨of_decide_eq_true h1, of_decide_eq_true h2, of_decide_eq_true h3, of_decide_eq_true h4⟩
theorem g_isiO {K : PySem.W.Frag} {C : Addr} {H : Hp} {Q : VK} {a dx : Addr} {fs : List (Str × V)} (cl : Cls K C) (S : IsiC K C) (h : H a = some (.ins C dx fs)) (q : Q (.bl true) H) : rIsi K [.ref a, .ref C] H Q :=
  g_isi (.own C) (.base (.ins h cl S.ha S.hn S.htk S.hm)) (by unfold PySem.W.kitOne; rw [if_pos (beq_self_eq_true _)]) q
theorem pcls {X : Cx} {x : Str} {C : Addr} {pos : Pos} (h : X.mg x = some (.ref C)) (hg : Gl X x := by rfl) (hd : (x == ("__debug__" : Str)) = false := by decide) : PE X (.Name x pos) (tC (.ref C)) := pe_glob hg h rfl hd
end G48
namespace G48
open PySem PySem.Spec PyProof.Rows L2 Evl
open LamX (CodeO Tabs TabS ExtN TabB inv_table)
/-! ### a lambda as an object that is told -/
/-- the function object of a lambda: its text, its cells, its default, its code object -/
def LamO (f : Addr) (q : Str) (params : Arguments) (body : Expr) (scope : Scope) (cl : List (Str × Addr)) (dV : Value) (c' : Addr) : HO :=
  .ext fun h => ∃ doc pm ctv : Value, h.get? f = some (PySem.W.kdv_obj "<lambda>" q params (.expr body) scope cl dV doc pm c' ctv)
/-- the default: none at all, or one int -/
def DvAt (H : Hp) (ds : List Int) (dV : Value) : Prop := (ds = [] ∧ dV = .none) ∨ ∃ d t, ds = [d] ∧ dV = .ref t ∧ H t = some (.tup [.int d])
def LamAt (H : Hp) (f : Addr) (q : Str) (params : Arguments) (body : Expr) (scope : Scope) (ds : List Int) (cl : List (Str × Addr)) : Prop :=
  ∃ dV c', H f = some (LamO f q params body scope cl dV c') ∧ H c' = some (CodeO c' q) ∧ DvAt H ds dV
theorem lamO_ne {f : Addr} {q : Str} {params : Arguments} {body : Expr} {scope : Scope} {cl : List (Str × Addr)} {dV : Value} {c' : Addr} (ps : Array Value) : LamO f q params body scope cl dV c' ≠ .tbl ps := fun z => by
  unfold LamO at z
  cases z
theorem LamAt.imp {H H' : Hp} {f : Addr} {q : Str} {params : Arguments} {body : Expr} {scope : Scope} {ds : List Int} {cl : List (Str × Addr)} (e : ∀ a o, H a = some o → (∀ ps, o ≠ .tbl ps) → (∀ xs, o ≠ .lst xs) → H' a = some o) (h : LamAt H f q params body scope ds cl) : LamAt H' f q params body scope ds cl := by
  obtain ⟨dV, c', h1, h2, h3⟩ := h
  refine ⟨dV, c', e _ _ h1 lamO_ne (fun _ z => by unfold LamO at z; cases z), e _ _ h2 LamX.codeO_ne (fun _ z => by unfold CodeO at z; cases z), ?_⟩
  rcases h3 with h3 | ⟨d, t, e1, e2, e3⟩
  · exact .inl h3
  · exact .inr ⟨d, t, e1, e2, e _ _ e3 (fun _ z => by cases z) (fun _ z => by cases z)⟩
theorem LamAt.ex {H H' : Hp} {f : Addr} {q : Str} {params : Arguments} {body : Expr} {scope : Scope} {ds : List Int} {cl : List (Str × Addr)} (e : Ex H H') (h : LamAt H f q params body scope ds cl) : LamAt H' f q params body scope ds cl := h.imp fun a o z _ _ => e a o z
theorem LamAt.exn {H H' : Hp} {f : Addr} {q : Str} {params : Arguments} {body : Expr} {scope : Scope} {ds : List Int} {cl : List (Str × Addr)} (e : ExtN H H') (h : LamAt H f q params body scope ds cl) : LamAt H' f q params body scope ds cl := h.imp fun a o z n _ => e a o z n
theorem LamAt.exb {H H' : Hp} {f l : Addr} {q : Str} {params : Arguments} {body : Expr} {scope : Scope} {ds : List Int} {cl : List (Str × Addr)} {ys : List V} (e : Exb l H H') (hl : H l = some (.lst ys)) (h : LamAt H f q params body scope ds cl) : LamAt H' f q params body scope ds cl :=
  h.imp fun a o z _ n => e a o (fun x => by rw [x, hl] at z; exact n ys (Option.some.inj z).symm) z
theorem ExtN.ofEx {H H' : Hp} (e : Ex H H') : ExtN H H' := fun b o h _ => e b o h
/-! ### making one -/
section
variable {X : Cx} {pins : List (Addr × Obj)} {σ : L2.St} {H : Hp} {s : Shared}
/-- the maker's tail, the default dV at hand -/
theorem lam_tail {T : List (Addr × Str)} {c P : Addr} {params : Arguments} {body : Expr} {scope : Scope} {pos : Pos} {dV : Value} {ds : List Int} {Q : Value → Shared → Prop} {E : Value → Shared → Prop} (I : Inv X pins σ H s) (TB : TabB X.base X.mg c P) (hcode : X.env.code = .ref c)
    (hm : (P, X.env.qual ++ "<lambda>") ∈ T) (hu : ∀ p ∈ T, p.1 = P → p.2 = X.env.qual ++ "<lambda>") (hT : Tabs T H) (hfree : ∀ y ∈ scope.names, y.2 = .free → ∃ c, X.env.cells.lookup y.1 = some c) (hd : DvAt H ds dV)
    (h : ∀ (f : Addr) (H1 : Hp) (s' : Shared), Inv X pins σ H1 s' → ExtN H H1 → Tabs T H1 → H f = none → LamAt H1 f (X.env.qual ++ "<lambda>") params body scope ds (cloFrom X.env.cells scope.names []) → Q (.ref f) s') :
    wpAny (model X.prog X.w) X.A (makeTail "<lambda>" (X.env.qual ++ "<lambda>") params (.expr body) scope X.env dV .none none pos pos.line) Q E s := by
  obtain ⟨ps, hP, ht, ha⟩ := hT _ hm
  have bP := TB.bm.keeps I.bk
  have hP' : s.heap.get? P = some { cls := .none, data := .fields ps } := I.hok P _ hP
  have lay : ∀ {H1 : Hp} {h1 : Heap} {c' : Addr} {doc pm ctv : Value} {tk : Nat}, Inv X pins σ H1 { s with heap := h1, toks := tk } → ExtN H H1 → Tabs T H1 → s.heap.objs.size ≤ h1.objs.size → H1 c' = some (CodeO c' (X.env.qual ++ "<lambda>")) →
      Q (.ref h1.objs.size) { s with heap := h1.push (PySem.W.kdv_obj "<lambda>" (X.env.qual ++ "<lambda>") params (.expr body) scope (cloFrom X.env.cells scope.names []) dV doc pm c' ctv), toks := tk } := fun {H1 h1 c' doc pm ctv tk} I1 e1 T1 hsz hc => by
    have nf : H1 h1.objs.size = none := I1.hok.fresh (Nat.le_refl _)
    have I2 := I1.laid (a := h1.objs.size) (o := LamO h1.objs.size (X.env.qual ++ "<lambda>") params body scope (cloFrom X.env.cells scope.names []) dV c') (t' := tk)
      (h' := h1.push (PySem.W.kdv_obj "<lambda>" (X.env.qual ++ "<lambda>") params (.expr body) scope (cloFrom X.env.cells scope.names []) dV doc pm c' ctv)) (fun b o e => Heap.get?_push_of_some _ e) (Nat.le_refl _)
      ⟨⟨doc, pm, ctv, Heap.get?_push_size _ rfl⟩, ⟨_, Heap.get?_push_size _ rfl⟩, fun _ _ ⟨d, p, c, z⟩ st => ⟨d, p, c, st _ z⟩⟩
    have e2 : Ex H1 (upd H1 h1.objs.size (LamO h1.objs.size (X.env.qual ++ "<lambda>") params body scope (cloFrom X.env.cells scope.names []) dV c')) := Ex.new nf
    refine h _ _ _ I2 (e1.trans (ExtN.ofEx e2)) (T1.ext e2) (I.hok.fresh hsz) ⟨dV, c', upd_same, e2 _ _ hc, ?_⟩
    rcases hd with hd | ⟨d, t, a1, a2, a3⟩
    · exact .inl hd
    · exact .inr ⟨d, t, a1, a2, e2 _ _ (e1 _ _ a3 fun _ z => by cases z)⟩
  cases hc : codeAmong pos ps.toList with
  | none =>
    refine PySem.W.kdv_makeTail (mg := X.mg) (c := c) (P := P) (ps := ps) (closure_ok hfree) I.ok.glob (I.mod.glob.keeps I.bk) hcode (TB.code.keeps I.bk) hP' ht hc TB.gP bP fun c' ctv doc h' tk hx hge hlt hrec htb => ?_
    obtain ⟨c2, oc, vs, t, e2, hoc, hd2, hv⟩ := hrec
    cases e2
    have nC : H c' = none := I.hok.fresh hge
    have I1 := inv_table (t' := tk) (more := #[rawInt pos.line, rawInt pos.col, .ref c']) (h' := h') (q := X.env.qual ++ "<lambda>") I hP (fun b o hb e => hx b o hb e) htb hge ⟨oc, vs, t, hoc, hd2, hv⟩
    have hE : ExtN H (upd (upd H P (.tbl (ps ++ #[rawInt pos.line, rawInt pos.col, .ref c']))) c' (CodeO c' (X.env.qual ++ "<lambda>"))) := fun b o e n => by
      have n1 : b ≠ c' := ne_of_none e nC
      have n2 : b ≠ P := fun z => by
        rw [z, hP] at e
        exact n ps (Option.some.inj e).symm
      rw [upd_ne n1, upd_ne n2]
      exact e
    have eL : (ps ++ #[rawInt pos.line, rawInt pos.col, .ref c']).toList = ps.toList ++ [rawInt pos.line, rawInt pos.col, .ref c'] := by simp
    refine lay I1 hE (fun p hp => ?_) (Nat.le_trans hge (Nat.le_of_lt hlt)) upd_same
    by_cases hb : p.1 = P
    · rw [hu p hp hb, hb]
      refine ⟨_, (upd_ne (ne_of_none hP nC)).trans upd_same, by rw [eL]; exact PySem.TriplesOk_snoc _ _ _ _ ht, fun p' cv hcv => ?_⟩
      rw [eL] at hcv
      rcases LamX.among_app _ ht hcv with z | z
      · obtain ⟨c0, y1, y2⟩ := ha p' cv z
        exact ⟨c0, y1, hE _ _ y2 LamX.codeO_ne⟩
      · exact ⟨c', z, upd_same⟩
    · obtain ⟨ps', a1, a2, a3⟩ := hT p hp
      refine ⟨ps', (upd_ne (ne_of_none a1 nC)).trans ((upd_ne hb).trans a1), a2, fun p' cv hcv => ?_⟩
      obtain ⟨c0, y1, y2⟩ := a3 p' cv hcv
      exact ⟨c0, y1, hE _ _ y2 LamX.codeO_ne⟩
  | some cv =>
    obtain ⟨c', e, hco⟩ := ha pos cv hc
    subst e
    refine PySem.W.kdv_makeTailHit (mg := X.mg) (c := c) (P := P) (ps := ps) (closure_ok hfree) I.ok.glob (I.mod.glob.keeps I.bk) hcode (TB.code.keeps I.bk) hP' ht hc bP fun ctv doc h' tk hx hsz => ?_
    have I1 : Inv X pins σ H { s with heap := h', toks := tk } := I.kept hx
    exact lay I1 (ExtN.refl H) hT hsz hco
/-- what a lambda of the def leaves: a new function object, its code object, perhaps a longer table -/
def tLamE (T : List (Addr × Str)) (q : Str) (params : Arguments) (body : Expr) (scope : Scope) (ds : List Int) (cl : List (Str × Addr)) : TE := fun _ H Q =>
  Tabs T H ∧ ∀ f H1, H f = none → ExtN H H1 → Tabs T H1 → LamAt H1 f q params body scope ds cl → Q (.ref f) H1
end
section
variable {X : Cx}
theorem pe_lam0 {T : List (Addr × Str)} {c P : Addr} {params : Arguments} {body : Expr} {scope : Scope} {pos : Pos} (TB : TabB X.base X.mg c P) (hcode : X.env.code = .ref c) (hm : (P, X.env.qual ++ "<lambda>") ∈ T) (hu : ∀ p ∈ T, p.1 = P → p.2 = X.env.qual ++ "<lambda>")
    (hf : ∀ y ∈ scope.names, y.2 = .free → X.env.scope.names.lookup y.1 = some .cell ∨ X.env.scope.names.lookup y.1 = some .free) (hd : defaultsOf params X.env = ([], []) := by rfl) :
    PE X (.Lambda params body scope pos) (tLamE T (X.env.qual ++ "<lambda>") params body scope [] (cloFrom X.env.cells scope.names [])) := by
  refine ⟨fun pins s σ H Q I h => ?_⟩
  obtain ⟨hT, h⟩ := h
  refine PySem.W.kla_eval hd ?_
  rw [makeFunction_eq]
  simp only [List.zip_nil_right, List.filterMap_nil, List.isEmpty_nil, if_true, pure_bind]
  exact lam_tail I TB hcode hm hu hT (fun y hy e => by
    rcases hf y hy e with k | k
    · exact I.ok.has _ (.inl k)
    · exact I.ok.has _ (.inr k)) (.inl ⟨rfl, rfl⟩) fun f H1 s' I1 e1 T1 n1 l1 => ⟨.ref f, H1, I1, rfl, h f H1 n1 e1 T1 l1⟩
theorem pe_lam1 {T : List (Addr × Str)} {c P : Addr} {params : Arguments} {body : Expr} {scope : Scope} {pos dp : Pos} {d : Int} {dk : Nat} (TB : TabB X.base X.mg c P) (hcode : X.env.code = .ref c) (hm : (P, X.env.qual ++ "<lambda>") ∈ T) (hu : ∀ p ∈ T, p.1 = P → p.2 = X.env.qual ++ "<lambda>")
    (hf : ∀ y ∈ scope.names, y.2 = .free → X.env.scope.names.lookup y.1 = some .cell ∨ X.env.scope.names.lookup y.1 = some .free) (hd : params.defaults = [.Constant (.int d) dk dp] := by rfl) (hk : params.kw_defaults = [] := by rfl) :
    PE X (.Lambda params body scope pos) (tLamE T (X.env.qual ++ "<lambda>") params body scope [d] (cloFrom X.env.cells scope.names [])) := by
  refine ⟨fun pins s σ H Q I h => ?_⟩
  obtain ⟨hT, h⟩ := h
  refine PySem.W.kdv_lam (by rw [hd]; rfl) hk ?_
  rw [hd]
  refine PySem.W.kdv_all1 (thn ((pe_int (X := X)).run pins s σ H (fun v H1 => v = .int d ∧ H1 = H) I ⟨rfl, rfl⟩) fun u s1 ⟨v, H1, I1, r1, q1⟩ => PySem.W.kdv_all0 ?_)
  obtain ⟨rfl, rfl⟩ := q1
  rw [makeFunction_eq]
  simp only [List.zip_nil_right, List.filterMap_nil, List.isEmpty_nil, if_true, pure_bind, List.isEmpty_cons, Bool.false_eq_true, if_false]
  refine wpAny_bind (wpAny_newTextTuple ?_)
  have np : H1 s1.heap.objs.size = none := I1.hok.fresh (Nat.le_refl _)
  have I2 := I1.laid (a := s1.heap.objs.size) (o := .tup [.int d]) (t' := s1.toks) (h' := s1.heap.push { cls := .type "tuple", data := .seq [u].toArray }) (fun b o e => Heap.get?_push_of_some _ e) (Nat.le_refl _)
    ⟨sz1000 (show 1 ≤ 1000 by decide), [u], .cons r1 .nil, IsTup.new _ _⟩
  have e2 : Ex H1 (upd H1 s1.heap.objs.size (.tup [.int d])) := Ex.new np
  exact lam_tail I2 TB hcode hm hu (hT.ext e2) (fun y hy e => by
    rcases hf y hy e with k | k
    · exact I.ok.has _ (.inl k)
    · exact I.ok.has _ (.inr k)) (.inr ⟨d, _, rfl, rfl, upd_same⟩) fun f H2 s' I3 e3 T3 n3 l3 => ⟨.ref f, H2, I3, rfl, h f H2 (by
      cases z : H1 f with
      | none => rfl
      | some o => rw [e2 _ _ z] at n3; cases n3) ((ExtN.ofEx e2).trans e3) T3 l3⟩
end
/-! ### the cells of the maker -/
structure CellsOk (h : Heap) (H : Hp) (N : List Str) (σ : L2.St) (cells : List (Str × Addr)) (sc : Scope) : Prop where
  inj : ∀ y z c, cells.lookup y = some c → cells.lookup z = some c → y = z
  has : ∀ y, sc.names.lookup y = some .cell ∨ sc.names.lookup y = some .free → ∃ c, cells.lookup y = some c
  cell : ∀ y c, cells.lookup y = some c → (∃ v, h.IsCell c v) ∧ H c = none
  val : ∀ (i : Nat) y v, N[i]? = some y → σ[i]? = some (some v) → (sc.names.lookup y = some .cell ∨ sc.names.lookup y = some .free) → ∃ c u, cells.lookup y = some c ∧ RelV v u ∧ h.IsCell c (some u)
section
variable {X : Cx} {pins : List (Addr × Obj)} {σ : L2.St} {H H' : Hp} {s : Shared} {h h' : Heap} {N : List Str} {cells : List (Str × Addr)} {sc : Scope}
theorem CellsOk.of (I : Inv X pins σ H s) : CellsOk s.heap H X.N σ X.env.cells X.env.scope where
  inj := I.ok.inj
  has := I.ok.has
  cell := fun y c e => ⟨I.cell y c e, I.freeC y c e⟩
  val := fun i y v e1 e2 e3 => by
    obtain ⟨m, _, hl⟩ := I.loc
    obtain ⟨u, r, q⟩ := hl i y v e1 e2 (.inr e3)
    rcases q with ⟨k, _⟩ | ⟨_, c, e, z⟩
    · have k : X.env.scope.names.lookup y = some .local := k
      rcases e3 with k' | k' <;> rw [k] at k' <;> cases k'
    · exact ⟨c, u, e, r, z⟩
theorem CellsOk.un {fs ex : List Addr} (C : CellsOk h H N σ cells sc) (U : Un fs ex H H' h h') (hx : ∀ y c, cells.lookup y = some c → c ∉ ex) : CellsOk h' H' N σ cells sc := by
  have key : ∀ {c : Addr} {v : Option Value}, H c = none → c ∉ ex → h.IsCell c v → h'.IsCell c v := fun {c v} n nx ⟨o, ho, hd⟩ => by
    obtain ⟨sl, q⟩ := U.any ho n nx
    exact ⟨_, q, hd⟩
  refine ⟨C.inj, C.has, fun y c e => ?_, fun i y v e1 e2 e3 => ?_⟩
  · obtain ⟨⟨v, z⟩, n⟩ := C.cell y c e
    refine ⟨⟨v, key n (hx y c e) z⟩, ?_⟩
    obtain ⟨o, ho, _⟩ := id z
    exact U.free c o ho n (hx y c e)
  · obtain ⟨c, u, e, r, z⟩ := C.val i y v e1 e2 e3
    exact ⟨c, u, e, r, key (C.cell y c e).2 (hx y c e) z⟩
end
/-! ### calling one -/
/-- a lambda's names: captured ones, globals, a parameter that the maker's names do not hold -/
structure LamS (N : List Str) (sc scope : Scope) (ps : List Str) : Prop where
  kind : scope.kind = .function
  co : scope.isCoroutine = false
  gen : scope.isGenerator = false
  noc : ∀ y ∈ scope.names, y.2 ≠ .cell
  own : ∀ y ∈ scope.names, y.2 = .local → y.1 ∉ N
  par : ∀ y ∈ ps, scope.names.lookup y = some .local
  free : ∀ y ∈ scope.names, y.2 = .free → sc.names.lookup y.1 = some .cell ∨ sc.names.lookup y.1 = some .free
def lamSB (N : List Str) (sc scope : Scope) (ps : List Str) : Bool :=
  decide (scope.kind = .function) && !scope.isCoroutine && !scope.isGenerator && (scope.names.all fun y => !decide (y.2 = .cell) && (!decide (y.2 = .local) || !N.contains y.1) && (!decide (y.2 = .free) || decide (sc.names.lookup y.1 = some .cell) || decide (sc.names.lookup y.1 = some .free))) && ps.all fun y => decide (scope.names.lookup y = some .local)
theorem lamS_of {N : List Str} {sc scope : Scope} {ps : List Str} (h : lamSB N sc scope ps = true) : LamS N sc scope ps := by
  unfold lamSB at h
  simp only [Bool.and_eq_true, Bool.or_eq_true, Bool.not_eq_true', decide_eq_true_eq, decide_eq_false_iff_not, List.all_eq_true] at h
  obtain ⟨⟨⟨⟨k1, k2⟩, k3⟩, k4⟩, k5⟩ := h
  refine ⟨k1, k2, k3, fun y hy => (k4 y hy).1.1, fun y hy e => ?_, k5, fun y hy e => ?_⟩
  · rcases (k4 y hy).1.2 with z | z
    · exact absurd e z
    · intro m
      rw [List.contains_iff_mem.mpr m] at z
      cases z
  · rcases (k4 y hy).2 with (z | z) | z
    · exact absurd e z
    · exact .inl z
    · exact .inr z
/-- the frame of a lambda's call -/
abbrev lamE (qual : Str) (scope : Scope) (cells : List (Str × Addr)) (L f c' : Addr) : Env := PySem.W.envX qual scope L f (.ref c') (cloFrom cells scope.names [])
/-- the context of a lambda's body: N, the maker's names; cells, the maker's cells; entered at s -/
def lamX (P : Program) (w : World) (K : PySem.W.Frag) (mg : Str → Option Value) (base : Heap) (N : List Str) (qual : Str) (scope : Scope) (cells : List (Str × Addr)) (A : Around) (outer : List Env) (s : Shared) (H : Hp) (E : XK) (f c' : Addr) : Cx where
  prog := P
  w := w
  K := K
  mg := mg
  base := base
  A := A.deeper (lamE qual scope cells s.heap.objs.size f c')
  N := N
  s_0 := s
  H_0 := H
  env := lamE qual scope cells s.heap.objs.size f c'
  outer := outer
  stack := lamE qual scope cells s.heap.objs.size f c' :: outer
  ex := []
  fn := fun _ => false
  calm := true
  pn := []
  xe := fun e s' => wpAny (model P w) (A.deeper (lamE qual scope cells s.heap.objs.size f c')) (leaving (lamE qual scope cells s.heap.objs.size f c') e) (fun _ s'' => L2.CX P w outer H s E e s'') (fun e' s'' => L2.CX P w outer H s E e' s'') s'
section
variable {P : Program} {w : World} {K : PySem.W.Frag} {mg : Str → Option Value} {base : Heap} {N : List Str} {σ : L2.St} {cells : List (Str × Addr)} {sc scope : Scope} {H : Hp} {s : Shared} {qual : Str} {ps : List Str}
theorem lam_enter {A : Around} {outer : List Env} {E : XK} {f c' : Addr} {h₁ : Heap} {tk : Nat} {m : Str → Option Value} (C : CellsOk s.heap H N σ cells sc) (hl : σ.length = N.length) (L : LamS N sc scope ps) (e0 : Env0 P w K mg base A outer s H) (hd : A.handled = none)
    (hns : h₁.Ns s.heap.objs.size m) (kp : ∀ b o, s.heap.get? b = some o → h₁.get? b = some o) :
    Inv (lamX P w K mg base N qual scope cells A outer s H E f c') [] σ H { s with heap := h₁, toks := tk } := by
  have hfree : ∀ y ∈ scope.names, y.2 = .free → ∃ c, cells.lookup y.1 = some c := fun y hy e => C.has _ (L.free y hy e)
  have cm : ∀ {y c}, (cloFrom cells scope.names []).lookup y = some c → cells.lookup y = some c := fun {y c} e => by
    rcases cloFrom_mem (PySem.mem_of_lookup e) with hm | ⟨h1, h2⟩
    · cases hm
    · obtain ⟨c1, hc⟩ := hfree _ h1 rfl
      have hc : cells.lookup y = some c1 := hc
      rw [hc] at h2
      have e2 : c = c1 := h2
      rw [e2]
      exact hc
  have look : ∀ {y}, scope.names.lookup y = some .free → ∃ c, (cloFrom cells scope.names []).lookup y = some c := fun {y} e => mem_lookup (cloFrom_has (cells := cells) (acc := []) (show (y, NameKind.free) ∈ scope.names from PySem.mem_of_lookup e))
  have ck : ∀ {c : Addr} {v : Option Value}, s.heap.IsCell c v → h₁.IsCell c v := fun {c v} ⟨o, ho, hd⟩ => ⟨_, kp _ _ ho, hd⟩
  have none_in : ∀ b : Addr, b ∉ (lamX P w K mg base N qual scope cells A outer s H E f c').ex := fun b z => absurd (show b ∈ ([] : List Addr) from z) (by simp)
  have okX : (lamX P w K mg base N qual scope cells A outer s H E f c').Ok :=
    ⟨e0.mod, L.kind, rfl, rfl, Nat.le_refl _, fun y z c e1 e2 => C.inj y z c (cm e1) (cm e2), fun y hy => by
      rcases (show scope.names.lookup y = some .cell ∨ scope.names.lookup y = some .free from hy) with k | k
      · exact absurd rfl (L.noc _ (PySem.mem_of_lookup k))
      · exact look k, fun y c z _ => absurd (show false = true from z) Bool.false_ne_true, fun _ => hd, Around.frames_deeper e0.frames, .inr ⟨rfl, rfl⟩, fun b z => absurd z (none_in b), e0.bs, e0.bsz, fun b _ _ => none_in b, fun b z => absurd z (none_in b), e0.funs, e0.frf⟩
  refine ⟨okX, rfl, e0.bare, Un.kept kp, ⟨m, hns, fun i y v e1 e2 e3 => ?_⟩, fun y c e => ?_, e0.hok.fresh (Nat.le_refl _), fun y c e => (C.cell y c (cm e)).2, fun q hq => absurd (show q ∈ ([] : List (Addr × Obj)) ++ [] from hq) (by simp), e0.hok.kept kp, hl⟩
  · rcases (show Vis scope y from e3) with k | k | k
    · exact absurd (List.mem_of_getElem? e1) (L.own _ (PySem.mem_of_lookup k) rfl)
    · exact absurd rfl (L.noc _ (PySem.mem_of_lookup k))
    · obtain ⟨c, u, h1, r, z⟩ := C.val i y v e1 e2 (L.free _ (PySem.mem_of_lookup k) rfl)
      obtain ⟨c2, h2⟩ := look k
      have h3 := cm h2
      rw [h1] at h3
      cases h3
      exact ⟨u, r, .inr ⟨.inr k, c, h2, ck z⟩⟩
  · obtain ⟨⟨v, z⟩, _⟩ := C.cell y c (cm e)
    exact ⟨v, ck z⟩
/-- what the parameters ps are bound to, when nothing is handed over -/
structure LamB (params : Arguments) (ps : List Str) (ds : List Int) : Prop where
  none_ : ds = [] → ps = [] ∧ ∀ (q : Str) (body : FuncBody) (scope : Scope) (cl : List (Str × Addr)) (doc pm cd ct : Value), bindArgs (PySem.W.kdv_fn "<lambda>" q params body scope cl .none doc pm cd ct) ⟨[], []⟩ = pure []
  one : ∀ d, ds = [d] → ∃ a, ps = [a] ∧ ∀ (q : Str) (body : FuncBody) (scope : Scope) (cl : List (Str × Addr)) (dV doc pm cd ct : Value), ∃ k : Option (Array Value) → Sem (List (Str × Value)),
    bindArgs (PySem.W.kdv_fn "<lambda>" q params body scope cl dV doc pm cd ct) ⟨[], []⟩ = seqItems? dV >>= k ∧ ∀ v, k (some #[v]) = pure [(a, v)]
end
section
variable {Z : Cx} {pins : List (Addr × Obj)} {σZ σ : L2.St} {H : Hp} {s : Shared} {N : List Str} {cells : List (Str × Addr)} {sc scope : Scope} {qual : Str} {ps : List Str} {ds : List Int} {params : Arguments} {body : Expr} {f : Addr} {Q : VK} {E : XK} {tb : TE} {k : Nat}
/-- f(), f a lambda that stands -/
theorem lam_run (I : Inv Z pins σZ H s) (C : CellsOk s.heap H N σ cells sc) (hl : σ.length = N.length) (L : LamS N sc scope ps) (B : LamB params ps ds) (hf : LamAt H f qual params body scope ds (cloFrom cells scope.names [])) (hr : Room (k + 1) Z.A)
    (hbody : ∀ (A : Around) (outer : List Env) (s : Shared) (H : Hp) (f c' : Addr), Room k (A.deeper (lamE qual scope cells s.heap.objs.size f c')) → PE (lamX Z.prog Z.w Z.K Z.mg Z.base N qual scope cells A outer s H E f c') body tb)
    (ht : tb σ H Q) (hx : PassesAt (L2.CX Z.prog Z.w) Z σZ E) : wpAny (model Z.prog Z.w) Z.A (call (.ref f) []) (EP Z pins σZ Q) Z.xe s := by
  obtain ⟨dV, c', h1, h2, hD⟩ := hf
  obtain ⟨⟨doc, pm, ctv, of⟩, _, _⟩ := I.hok f _ h1
  obtain ⟨⟨oc, vs, t, hoc, hdc, hvc⟩, _, _⟩ := I.hok c' _ h2
  have hb : ∃ bs : List (Str × Value), (∀ y ∈ bs, scope.names.lookup y.1 = some .local) ∧ BindsTo s (PySem.W.kdv_fn "<lambda>" qual params (.expr body) scope (cloFrom cells scope.names []) dV doc pm (.ref c') ctv) ⟨[], []⟩ bs := by
    rcases hD with ⟨e1, e2⟩ | ⟨d, t, e1, e2, e3⟩
    · subst e1 e2
      obtain ⟨hp, hb⟩ := B.none_ rfl
      exact ⟨[], (fun y hy => absurd hy (by simp)), BindsTo.of_eq (hb _ _ _ _ _ _ _ _)⟩
    · subst e1 e2
      obtain ⟨a, hp, hb⟩ := B.one d rfl
      obtain ⟨kk, hb1, hb2⟩ := hb qual (.expr body) scope (cloFrom cells scope.names []) (.ref t) doc pm (.ref c') ctv
      obtain ⟨_, its, rv, o, ho, hoc, n, hod⟩ := I.hok t _ e3
      obtain ⟨u, hu, _⟩ : ∃ u, its = [u] ∧ RelV (.int d) u := by
        cases rv with
        | cons r rr =>
          cases rr
          exact ⟨_, rfl, r⟩
      subst hu
      refine ⟨[(a, u)], fun y hy => ?_, BindsTo.of_defaults (o := o) rfl ho hod hb1 (hb2 u)⟩
      rw [List.mem_singleton.mp hy]
      exact L.par a (by rw [hp]; exact List.mem_cons_self)
  obtain ⟨bs, hloc, hbind⟩ := hb
  have rc : codeAny (model Z.prog Z.w) Z.A (.call (.ref f) ⟨[], []⟩) (CR (L2.CX Z.prog Z.w) Z.stack Z.prog Z.w H s Q E) s := by
    refine PySem.W.kla_callFunE hr.depth of rfl L.co L.gen rfl ⟨c', oc, vs, t, rfl, hoc, hdc, hvc⟩ (hbind _ _ _ _ ?_)
    refine wpAny_newFunctionEnv L.noc hloc (fun h₁ hns hsb => ⟨I.nolimit.fresh _ hsb, ?_⟩) L.kind
    show codeAny _ _ (.expr body (lamE qual scope cells s.heap.objs.size f c')) _ _
    have kp : ∀ b o, s.heap.get? b = some o → h₁.get? b = some o := fun b o e => hsb.extBut b o (Nat.ne_of_lt (Heap.lt_size e)) (Heap.get?_push_of_some _ e)
    have J := lam_enter (qual := qual) (E := E) (f := f) (c' := c') (tk := s.toks + bs.length) C hl L I.env0 hr.hd hns kp
    refine PySem.W.kla_codeExpr (wpAny_mono ((hbody Z.A Z.stack s H f c' (hr.deeper _)).run [] _ _ H Q J ht) (fun v s' hq => ?_) fun e s' hq => hq)
    obtain ⟨w', H', J', rv, q⟩ := hq
    exact ⟨w', H', J'.os, J'.bare, J'.base, J'.hok, rv, q⟩
  refine wpAny_call (codeAny_mono rc fun r s' hq => ?_)
  cases r with
  | error e => exact hx pins H s e s' I hq
  | ok fl =>
    cases fl with
    | ret u => exact I.after hq
    | next => exact False.elim hq
    | brk => exact False.elim hq
    | cont => exact False.elim hq
end
/-! ### list.count, flat items -/
def rCntF (K : PySem.W.Frag) : V → List V → Hp → VK → Prop := fun x xs H Q => ∃ (p : Addr) (ys : List V) (y : V), x = .ref p ∧ xs = [y] ∧ SqL K H p ys ∧ flatV y = true ∧ ys.all flatV = true ∧ Q (.int (ys.countP fun z => eqV z y : Nat)) H
theorem cnt_vals {x : V} : ∀ {ys : List V} {its : List Value}, Vals ys its → ys.all flatV = true → its.countP (eqU x) = ys.countP fun z => eqV z x
  | [], [], _, _ => rfl
  | y :: ys, v :: its, h, f => by
    cases h with
    | cons r rr =>
      have f' : flatV y = true ∧ ys.all flatV = true := by simpa using f
      rw [List.countP_cons, List.countP_cons, cnt_vals rr f'.2, eqU_of r f'.1]
theorem mt_countF {X : Cx} : MtR X "list.count" (rCntF X.K) := by
  intro pins s σ H x xs v us Q I rx rxs h
  obtain ⟨p, ys, y, rfl, rfl, hs, fy, fys, q⟩ := h
  cases rx
  obtain ⟨u, rfl, ru⟩ := rxs.one
  obtain ⟨its, rv, ⟨⟨cls, dd, data, sl⟩, n, ho, hc, hdn, hd⟩, hlen⟩ := I.list hs
  simp only at hc hd
  subst hc hd
  refine call_meets PySem.F.slot_list_count ⟨_, ho, rfl⟩ PySem.F.entry_list_count (PySem.F.args_list_count_2 _ _)
    (SeqAt.list_countAt p its.toArray n dd sl u (eqU y)) ⟨ho, fun z hz => mem_eqAt ru fy rv fys z (by simpa using hz), ?_⟩
  have e : its.toArray.toList.countP (eqU y) = ys.countP fun z => eqV z y := cnt_vals rv fys
  rw [e]
  exact ⟨.int _, H, I.tok _, ⟨_, rfl⟩, q⟩
/-! ### the lambdas of a def -/
structure LamD where
  params : Arguments
  body : Expr
  scope : Scope
  ps : List Str
  ds : List Int
  t : XK → TE
def LamD.at_ (l : LamD) (H : Hp) (f : Addr) (q : Str) (cells : List (Str × Addr)) : Prop := LamAt H f q l.params l.body l.scope l.ds (cloFrom cells l.scope.names [])
/-- a lambda of the text, its body's reading t -/
structure LamOk (P : Program) (w : World) (K : PySem.W.Frag) (mg : Str → Option Value) (base : Heap) (N : List Str) (sc : Scope) (cells : List (Str × Addr)) (qual : Str) (k : Nat) (l : LamD) : Prop where
  S : LamS N sc l.scope l.ps
  B : LamB l.params l.ps l.ds
  body : ∀ (A : Around) (outer : List Env) (s : Shared) (H : Hp) (E : XK) (f c' : Addr), Room k (A.deeper (lamE qual l.scope cells s.heap.objs.size f c')) → PE (lamX P w K mg base N qual l.scope cells A outer s H E f c') l.body (l.t E)
/-- where the cells of the maker hold σ -/
def Sees (Z : Cx) (N : List Str) (σ : L2.St) (cells : List (Str × Addr)) (sc : Scope) : Prop := ∀ (pins : List (Addr × Obj)) (s : Shared) (σZ : L2.St) (H : Hp), Inv Z pins σZ H s → CellsOk s.heap H N σ cells sc
/-- x(), x a name that holds one of the lambdas -/
def tLamV (i : Nat) (LO : LamD → Prop) (qual : Str) (cells : List (Str × Addr)) (σ : L2.St) (E : L2.St → XK) : TE := fun σZ H Q => ∃ f l, σZ[i]? = some (some (.ref f)) ∧ LO l ∧ l.at_ H f qual cells ∧ l.t (E σZ) σ H Q
theorem pe_lamV {Z : Cx} {N : List Str} {σ : L2.St} {sc : Scope} {cells : List (Str × Addr)} {qual a : Str} {LO : LamD → Prop} {i k : Nat} {E : L2.St → XK} {p1 p2 : Pos} (hC : Sees Z N σ cells sc) (hl : σ.length = N.length) (hL : ∀ l, LO l → LamOk Z.prog Z.w Z.K Z.mg Z.base N sc cells qual k l) (hr : Room (k + 1) Z.A)
    (hx : ∀ σZ, PassesAt (L2.CX Z.prog Z.w) Z σZ (E σZ)) (hN : Z.N[i]? = some a) (hv : Vis Z.env.scope a) (hd : (a == ("__debug__" : Str)) = false := by decide) (hcd : (a == ("__classdict__" : Str)) = false := by decide) : PE Z (.Call (.Name a p1) [] [] p2) (tLamV i LO qual cells σ E) := by
  refine ⟨fun pins s σZ H Q I h => ?_⟩
  obtain ⟨f, l, hi, hm, la, ht⟩ := h
  refine wpAny_Call_Name_kw (thn ((pe_var (pos := p1) (i := i) hN hv hd hcd).run pins s σZ H (fun v H1 => v = .ref f ∧ H1 = H) I ⟨.ref f, hi, rfl, rfl⟩) fun u s1 ⟨v, H1, I1, r1, q1⟩ => ?_)
  obtain ⟨rfl, rfl⟩ := q1
  obtain rfl : u = Value.ref f := r1
  obtain ⟨_, _, h1, _⟩ := id la
  obtain ⟨⟨doc, pm, ctv, of⟩, _, _⟩ := I1.hok f _ h1
  refine PySem.W.callWith_F0 ⟨_, _, _, _, of⟩ ?_
  have O := hL l hm
  exact lam_run I1 (hC pins s1 σZ H1 I1) hl O.S O.B la hr (fun A outer s H f c' hr2 => O.body A outer s H (E σZ) f c' hr2) ht (hx σZ)
/-- a def that calls what it got: a names it; TT: what it makes of the lambda's reading -/
def GivesL (P : Program) (w : World) (K : PySem.W.Frag) (mg : Str → Option Value) (base : Heap) (Ng : List Str) (x : Str) (st : Stmt) (a : Str) (j : Nat) (TT : (XK → Hp → VK → Prop) → Hp → VK → Prop) : Prop :=
  ∀ (g : Addr) (cdg : Value) (A : Around) (outer : List Env) (s : Shared) (H : Hp) (f : Addr) (Q : VK) (LF : Hp → Prop) (tl : XK → Hp → VK → Prop), Room j (A.deeper (envOfC x (defScope st) s.heap.objs.size g cdg)) →
    (∀ (W : WX) (pn : List (Addr × Obj)) (xe : Value → Shared → Prop) (E : L2.St → XK) (p1 p2 : Pos), Takes ((cxOf L2.CX0 P w K mg base Ng x (defScope st) g cdg A outer s H (fun _ _ _ => False)).nox.tr pn xe) W → (∀ σ' cls d H', E σ' cls d H' → W cls d σ' H') →
      PE ((cxOf L2.CX0 P w K mg base Ng x (defScope st) g cdg A outer s H (fun _ _ _ => False)).nox.tr pn xe) (.Call (.Name a p1) [] [] p2) (fun σZ HZ Q => σZ[0]? = some (some (.ref f)) ∧ LF HZ ∧ tl (E σZ) HZ Q)) →
    LF H → TT tl H Q → ∃ t, PSs (cxOf L2.CX0 P w K mg base Ng x (defScope st) g cdg A outer s H (fun _ _ _ => False)).nox (defBody st) t ∧ t { nx := fun _ H' => Q .non H', rt := Q } (L2.start Ng [.ref f]) H
/-- x(e), e one of the lambdas, x the def that calls it -/
def tTold (ta : TA) (LO : LamD → Prop) (qual : Str) (cells : List (Str × Addr)) (sg : L2.St → L2.St) (TT : (XK → Hp → VK → Prop) → Hp → VK → Prop) : TE := fun σ H Q =>
  ta σ H fun vs H1 => ∃ f l, vs = [.ref f] ∧ LO l ∧ l.at_ H1 f qual cells ∧ TT (fun E H' Q' => l.t E (sg σ) H' Q') H1 Q
theorem pe_told {Y : Cx} {N Ng : List Str} {sg : L2.St → L2.St} {sc : Scope} {cells : List (Str × Addr)} {qual x a : Str} {LO : LamD → Prop} {k j : Nat} {TT : (XK → Hp → VK → Prop) → Hp → VK → Prop} {st : Stmt} {ta : TA} {e : Expr} {p pos : Pos}
    (hC : ∀ (pins : List (Addr × Obj)) (s : Shared) (σ : L2.St) (H : Hp), Inv Y pins σ H s → CellsOk s.heap H N (sg σ) cells sc ∧ (sg σ).length = N.length) (hL : ∀ l, LO l → LamOk Y.prog Y.w Y.K Y.mg Y.base N sc cells qual k l) (hr : Room j Y.A)
    (G : GFun Y.K Y.mg x st) (Sg : FnScope Ng [a] (defScope st)) (hb : BindL x x st [a]) (hG : GivesL Y.prog Y.w Y.K Y.mg Y.base Ng x st a (k + 1) TT) (hNg : Ng[0]? = some a) (hva : Vis (defScope st) a) (ha : PA Y [e] ta) (hk : k + 2 ≤ j := by decide) (hg : Gl Y x := by rfl)
    (hdb : (x == ("__debug__" : Str)) = false := by decide) (hd : (a == ("__debug__" : Str)) = false := by decide) (hcd : (a == ("__classdict__" : Str)) = false := by decide)
    (hst : starEach [e] Y.env = (false, eval e Y.env) :: starEach [] Y.env := by rfl) (hpl : (backTo pos (starEach [] Y.env)).any (·.1) = false := by rfl) :
    PE Y (.Call (.Name x p) [e] [] pos) (tTold ta LO qual cells sg TT) := by
  refine ⟨fun pins s σ H Q I h => ?_⟩
  obtain ⟨g, fd, hm, F⟩ := G.ex
  have kp := F.kp
  obtain ⟨oc, od, kV, doc, pm, an, cdv, ct, osl, rfl, lk, hcd2⟩ := F.ex
  refine wpAny_Call_Name_kw (ld_glob I hg hm ?_ hdb)
  refine PySem.W.callWith_K (h₀ := Y.base) I.ok.mod.kin kp (thn (ha.run pos pins s σ H _ I h) fun us s1 hh => ?_) hst hpl
  obtain ⟨vs, H1, I1, r1, f, l, ev, hml, la, ht⟩ := hh
  subst ev
  refine ⟨I1.kIn, ?_⟩
  have hu : us = [.ref f] := by
    cases r1 with
    | cons ru rn =>
      cases rn
      cases ru
      rfl
  subst hu
  have O := hL l hml
  obtain ⟨C1, hl1⟩ := hC pins s1 σ H1 I1
  have r : Room (k + 2) Y.A := hr.mono hk
  have rc : codeAny (model Y.prog Y.w) Y.A (.call (.ref g) ⟨[.ref f], []⟩) (CR L2.CX0 Y.stack Y.prog Y.w H1 s1 Q (fun _ _ _ => False)) s1 := by
    refine LamX.run_ofS (N := Ng) (ps := [a]) (us := [.ref f]) (vs := [.ref f]) lk hcd2 Sg r I1.env0 (BindsTo.of_eq (hb _ _ _ _ _ _ [.ref f] rfl)) (.cons rfl .nil) rfl fun hr' => ?_
    have act : ∀ (W : WX) (pn : List (Addr × Obj)) (xe : Value → Shared → Prop) (E : L2.St → XK) (p1 p2 : Pos), Takes ((cxOf L2.CX0 Y.prog Y.w Y.K Y.mg Y.base Ng x (defScope st) g cdv Y.A Y.stack s1 H1 (fun _ _ _ => False)).nox.tr pn xe) W → (∀ σ' cls d H', E σ' cls d H' → W cls d σ' H') →
        PE ((cxOf L2.CX0 Y.prog Y.w Y.K Y.mg Y.base Ng x (defScope st) g cdv Y.A Y.stack s1 H1 (fun _ _ _ => False)).nox.tr pn xe) (.Call (.Name a p1) [] [] p2) (fun σZ HZ Q => σZ[0]? = some (some (.ref f)) ∧ l.at_ HZ f qual cells ∧ l.t (E σZ) (sg σ) HZ Q) := fun W pn xe E p1 p2 tk hW => by
      have V := pe_lamV (Z := (cxOf L2.CX0 Y.prog Y.w Y.K Y.mg Y.base Ng x (defScope st) g cdv Y.A Y.stack s1 H1 (fun _ _ _ => False)).nox.tr pn xe) (N := N) (σ := sg σ) (sc := sc) (cells := cells) (qual := qual) (a := a) (LO := LO) (i := 0) (k := k) (E := E) (p1 := p1) (p2 := p2)
        (fun pinsZ sZ σZ HZ IZ => C1.un IZ.base fun y c _ z => absurd (show c ∈ ([] : List Addr) from z) (by simp)) hl1 hL hr' (fun σZ pinsZ HZ sZ e s' IZ c => tk e s' (XE.of_call IZ (fun cls d H' h => hW σZ cls d H' h) c)) hNg hva hd hcd
      refine ⟨fun pinsZ sZ σZ HZ Q IZ hh => V.run pinsZ sZ σZ HZ Q IZ ?_⟩
      obtain ⟨a1, a2, a3⟩ := hh
      exact ⟨f, l, a1, hml, a2, a3⟩
    obtain ⟨t', ht', hq'⟩ := hG g cdv Y.A Y.stack s1 H1 f Q (fun H' => l.at_ H' f qual cells) (fun E H' Q' => l.t E (sg σ) H' Q') hr' act la ht
    exact ⟨t', ht'.nox, hq'⟩
  refine wpAny_call (codeAny_mono rc fun r s2 hq => ?_)
  cases r with
  | error e => exact (show False from hq).elim
  | ok fl =>
    cases fl with
    | ret u => exact I1.after hq
    | next => exact False.elim hq
    | brk => exact False.elim hq
    | cont => exact False.elim hq
/-! ### x(lambda: ..) -/
def tToldL (T : List (Addr × Str)) (t : XK → TE) (TT : (XK → Hp → VK → Prop) → Hp → VK → Prop) : TE := fun σ H Q => Tabs T H ∧ ∀ H1, ExtN H H1 → Tabs T H1 → TT (fun E H' Q' => t E σ H' Q') H1 Q
section
variable {X : Cx} {Ng : List Str} {x a : Str} {j : Nat} {TT : (XK → Hp → VK → Prop) → Hp → VK → Prop} {st : Stmt} {T : List (Addr × Str)} {c P : Addr} {params : Arguments} {body : Expr} {scope : Scope} {lpos p pos : Pos} {t : XK → TE} {k : Nat}
theorem pe_toldL0 (TB : TabB X.base X.mg c P) (hcode : X.env.code = .ref c) (hm : (P, X.env.qual ++ "<lambda>") ∈ T) (hu : ∀ p ∈ T, p.1 = P → p.2 = X.env.qual ++ "<lambda>") (hr : Room j X.A)
    (G : GFun X.K X.mg x st) (Sg : FnScope Ng [a] (defScope st)) (hb : BindL x x st [a]) (hG : GivesL X.prog X.w X.K X.mg X.base Ng x st a (k + 1) TT) (hNg : Ng[0]? = some a) (hva : Vis (defScope st) a)
    (S : LamS X.N X.env.scope scope []) (B : LamB params [] [])
    (hbody : ∀ (A : Around) (outer : List Env) (s : Shared) (H : Hp) (E : XK) (f c' : Addr), Room k (A.deeper (lamE (X.env.qual ++ "<lambda>") scope X.env.cells s.heap.objs.size f c')) → PE (lamX X.prog X.w X.K X.mg X.base X.N (X.env.qual ++ "<lambda>") scope X.env.cells A outer s H E f c') body (t E))
    (hk : k + 2 ≤ j := by decide) (hg : Gl X x := by rfl) (hdb : (x == ("__debug__" : Str)) = false := by decide) (hd : (a == ("__debug__" : Str)) = false := by decide) (hcd : (a == ("__classdict__" : Str)) = false := by decide) (hdf : defaultsOf params X.env = ([], []) := by rfl) :
    PE X (.Call (.Name x p) [.Lambda params body scope lpos] [] pos) (tToldL T t TT) := by
  have L := pe_told (Y := X) (N := X.N) (sg := id) (sc := X.env.scope) (cells := X.env.cells) (qual := X.env.qual ++ "<lambda>") (LO := fun l => l = ⟨params, body, scope, [], [], t⟩) (p := p) (pos := pos)
    (fun pins s σ H I => ⟨CellsOk.of I, I.len⟩) (fun l hl => by
      rw [show l = _ from hl]
      exact ⟨S, B, hbody⟩) hr G Sg hb hG hNg hva (pa_cons (pe_lam0 (pos := lpos) (body := body) (T := T) TB hcode hm hu S.free hdf) pa_nil) hk hg hdb hd hcd
  refine ⟨fun pins s σ H Q I h => L.run pins s σ H Q I ?_⟩
  exact ⟨h.1, fun f H1 n1 e1 T1 l1 => ⟨f, _, rfl, rfl, l1, h.2 H1 e1 T1⟩⟩
theorem pe_toldL1 {y : Str} {d : Int} {dk : Nat} {dp : Pos} (TB : TabB X.base X.mg c P) (hcode : X.env.code = .ref c) (hm : (P, X.env.qual ++ "<lambda>") ∈ T) (hu : ∀ p ∈ T, p.1 = P → p.2 = X.env.qual ++ "<lambda>") (hr : Room j X.A)
    (G : GFun X.K X.mg x st) (Sg : FnScope Ng [a] (defScope st)) (hb : BindL x x st [a]) (hG : GivesL X.prog X.w X.K X.mg X.base Ng x st a (k + 1) TT) (hNg : Ng[0]? = some a) (hva : Vis (defScope st) a)
    (S : LamS X.N X.env.scope scope [y]) (B : LamB params [y] [d])
    (hbody : ∀ (A : Around) (outer : List Env) (s : Shared) (H : Hp) (E : XK) (f c' : Addr), Room k (A.deeper (lamE (X.env.qual ++ "<lambda>") scope X.env.cells s.heap.objs.size f c')) → PE (lamX X.prog X.w X.K X.mg X.base X.N (X.env.qual ++ "<lambda>") scope X.env.cells A outer s H E f c') body (t E))
    (hk : k + 2 ≤ j := by decide) (hg : Gl X x := by rfl) (hdb : (x == ("__debug__" : Str)) = false := by decide) (hd : (a == ("__debug__" : Str)) = false := by decide) (hcd : (a == ("__classdict__" : Str)) = false := by decide)
    (hdf : params.defaults = [.Constant (.int d) dk dp] := by rfl) (hkd : params.kw_defaults = [] := by rfl) :
    PE X (.Call (.Name x p) [.Lambda params body scope lpos] [] pos) (tToldL T t TT) := by
  have L := pe_told (Y := X) (N := X.N) (sg := id) (sc := X.env.scope) (cells := X.env.cells) (qual := X.env.qual ++ "<lambda>") (LO := fun l => l = ⟨params, body, scope, [y], [d], t⟩) (p := p) (pos := pos)
    (fun pins s σ H I => ⟨CellsOk.of I, I.len⟩) (fun l hl => by
      rw [show l = _ from hl]
      exact ⟨S, B, hbody⟩) hr G Sg hb hG hNg hva (pa_cons (pe_lam1 (pos := lpos) (body := body) (T := T) TB hcode hm hu S.free hdf hkd) pa_nil) hk hg hdb hd hcd
  refine ⟨fun pins s σ H Q I h => L.run pins s σ H Q I ?_⟩
  exact ⟨h.1, fun f H1 n1 e1 T1 l1 => ⟨f, _, rfl, rfl, l1, h.2 H1 e1 T1⟩⟩
end
theorem lamB0 {params : Arguments} (h : ∀ (q : Str) (body : FuncBody) (scope : Scope) (cl : List (Str × Addr)) (doc pm cd ct : Value), bindArgs (PySem.W.kdv_fn "<lambda>" q params body scope cl .none doc pm cd ct) ⟨[], []⟩ = pure []) : LamB params [] [] := ⟨fun _ => ⟨rfl, h⟩, fun d e => by cases e⟩
/-! ### an own class of errors, what a law's told asks of it -/
def exNames : List Str := ["InvalidRing", "InvalidChain", "UnknownReader", "UnknownBook", "InvalidNumber", "SameBook", "OtherRing"]
def exNm (j : Nat) : Str := exNames.getD j "other"
structure ExcT (K : PySem.W.Frag) (D : Addr) (j : Nat) : Prop where
  ex : PySem.W.excIn K D He.veBase "ValueError.__new__" = true
  kp : PySem.W.keepIn K (.ref D) = true
  sb : PySem.W.subIn K (.ref D) (.type "BaseException") = some true
  ty : PySem.W.typeIn K (.ref D) = some (.type "type")
  c : ExcC K D
  is_ : ∀ i, i < 7 → PySem.W.kitOne K (.ref D) (.ref (He.ga K (exNm i))) = some (decide (i = j))
  ve : PySem.W.kitOne K (.ref D) (.type "ValueError") = some true
  re : PySem.W.exmOne K (.ref D) (.ref (He.ga K "ReadingError")) = some true
def excCB (K : PySem.W.Frag) (D : Addr) : Bool := He.eqO (PySem.W.findIn K (.ref D) "__getattribute__") (some (some (.builtin "BaseException.__getattribute__"))) && (He.eqO (PySem.W.findIn K (.ref D) "__getattr__") (some none) && (decide (PySem.W.subIn K (.ref D) (.type "BaseException") = some true) && (PySem.W.hasDictIn K D &&
  (He.eqO (PySem.W.findIn K (.ref D) "__class__") (some (some (.builtin "object.__class__"))) && (He.eqO (PySem.W.specialIn K (.builtin "object.__class__") "__get__") (some (some (.builtin "getset_descriptor.__get__"))) && (decide (PySem.W.takesIn K (.builtin "object.__class__") = some true) && decide (PySem.W.mroIn K D (.type "object") = some true)))))))
theorem excC_ok {K : PySem.W.Frag} {D : Addr} (h : excCB K D = true) : ExcC K D := by
  obtain ⟨h1, h⟩ := He.ba h
  obtain ⟨h2, h⟩ := He.ba h
  obtain ⟨h3, h⟩ := He.ba h
  obtain ⟨h4, h⟩ := He.ba h
  obtain ⟨h5, h⟩ := He.ba h
  obtain ⟨h6, h⟩ := He.ba h
  obtain ⟨h7, h8⟩ := He.ba h
  exact ⟨He.eqO_ok h1, He.eqO_ok h2, of_decide_eq_true h3, h4, He.eqO_ok h5, He.eqO_ok h6, of_decide_eq_true h7, of_decide_eq_true h8⟩
def excTB (K : PySem.W.Frag) (D : Addr) (j : Nat) : Bool := PySem.W.excIn K D He.veBase "ValueError.__new__" && (PySem.W.keepIn K (.ref D) && (decide (PySem.W.subIn K (.ref D) (.type "BaseException") = some true) && (decide (PySem.W.typeIn K (.ref D) = some (.type "type")) && (excCB K D &&
  ((List.range 7).all (fun i => decide (PySem.W.kitOne K (.ref D) (.ref (He.ga K (exNm i))) = some (decide (i = j)))) && (decide (PySem.W.kitOne K (.ref D) (.type "ValueError") = some true) && decide (PySem.W.exmOne K (.ref D) (.ref (He.ga K "ReadingError")) = some true)))))))
theorem excT_ok {K : PySem.W.Frag} {D : Addr} {j : Nat} (h : excTB K D j = true) : ExcT K D j := by
  obtain ⟨h1, h⟩ := He.ba h
  obtain ⟨h2, h⟩ := He.ba h
  obtain ⟨h3, h⟩ := He.ba h
  obtain ⟨h4, h⟩ := He.ba h
  obtain ⟨h5, h⟩ := He.ba h
  obtain ⟨h6, h⟩ := He.ba h
  obtain ⟨h7, h8⟩ := He.ba h
  exact ⟨h1, h2, of_decide_eq_true h3, of_decide_eq_true h4, excC_ok h5, fun i hi => of_decide_eq_true (List.all_eq_true.mp h6 i (List.mem_range.mpr hi)), of_decide_eq_true h7, of_decide_eq_true h8⟩
/-- raise X('..') -/
theorem psr_own {X : Cx} {C : Addr} {W : WX} {x m : Str} {j n : Nat} {p p2 pos pos' : Pos} (T : ExcT X.K C n) (gC : X.mg x = some (.ref C)) (hc : X.calm = true) (tk : Takes X W) (hg : Gl X x := by rfl) (hdb : (x == ("__debug__" : Str)) = false := by decide) :
    PS X (.Raise (some (.Call (.Name x p) [.Constant (.str m) j p2] [] pos)) none pos') (fun _ σ H => W (.ref C) none σ H) :=
  ps_raise hc tk (pmk_own PySem.F.excBase_ValueError T.ex gC T.kp (raises_own T.sb T.ty) hg hdb)
/-- the suite of an error without a dict: its class is told -/
theorem pss_low {X : Cx} {a : Addr} {oe : Obj} {pn : List (Addr × Obj)} {cls : Value} {d : Option Addr} {body : List Stmt} {t : Addr → TS} (hz : Zc cls d oe) (h : ∀ Dc, Zc (.ref Dc) none oe → ExcC X.K Dc → PSs (X.suite a ((a, oe) :: pn)) body (t Dc)) :
    PSs (X.suite a ((a, oe) :: pn)) body (fun D σ H => ∃ Dc, cls = .ref Dc ∧ d = none ∧ ExcC X.K Dc ∧ t Dc D σ H) := by
  refine ⟨fun pins s σ H D I hh => ?_⟩
  obtain ⟨Dc, e1, e2, hC, q⟩ := hh
  rw [e1, e2] at hz
  exact (h Dc hz hC).run pins s σ H D I q
section
variable {X : Cx}
theorem mt_indexK (K : PySem.W.Frag) (h : X.K = K := by rfl) : MtR X "list.index" (rIndex K) := by subst h; exact mt_index
theorem mt_countFK (K : PySem.W.Frag) (h : X.K = K := by rfl) : MtR X "list.count" (rCntF K) := by subst h; exact mt_countF
theorem pe_bmK (K : PySem.W.Frag) {T : String} {name : Str} {id : String} {r : V → List V → Hp → VK → Prop} {o e : Expr} {es : List Expr} {to : TE} {t : TA} {apos cpos : Pos} (pa : PlainAttrs T) (slot : Slot T name id) (hty : typeOf (.builtin id) = pure (.type "method_descriptor")) (hm : MtR X id r) (ho : PE X o to) (ha : PA X (e :: es) t)
    (hbase : attributeBase o name X.env (eval o X.env) = eval o X.env := by rfl)
    (hfew : ((backTo cpos (starEach (e :: es) X.env)).all (fun x => !x.1) && (backToKw cpos (keywordEach [] X.env)).all (fun x => x.1.isSome) && decide ((e :: es).length + ([] : List Keyword).length + (if ([] : List Keyword).isEmpty then 0 else 1) < 30)) = true := by rfl)
    (hline : (apos.endLine == cpos.line) = true := by rfl) (hs : starEach (e :: es) X.env = (false, eval e X.env) :: starEach es X.env := by rfl) (hplain : (backTo cpos (starEach es X.env)).any (·.1) = false := by rfl) (h : X.K = K := by rfl) :
    PE X (.Call (.Attribute o name apos) (e :: es) [] cpos) (tBM K T r to t) := by
  subst h
  exact pe_bm pa slot hty hm ho ha hbase hfew hline hs hplain
end
end G48
namespace G48
open PySem PySem.Spec PyProof.Rows L2 Evl
open LamX (TabB)
/-! ### the end of a law whose own def makes lambdas: its table is empty at the start, the script is frozen or the module's -/
/-- the script's own form: no plain list -/
def ScrF (K : PySem.W.Frag) (H : Hp) (a : Addr) (xs : List V) : Prop := (∃ o, H a = some (.frz o (.lst xs))) ∨ ∃ (o : Obj) (its : Array Value) (n : Nat), K.lookup a = some o ∧ o.cls = .type "list" ∧ o.dict = none ∧ o.data = .seq its n ∧ its.size ≤ sizeLine ∧ Vals xs its.toList
/-- what is tracked at the start -/
def startH (K : PySem.W.Frag) (P a : Addr) (o : Obj) (xs : List V) : Hp := fun b => if b = P then some (.tbl #[]) else if b = a ∧ (K.lookup a).isNone = true then some (.frz o (.lst xs)) else none
section
variable {P : Program} {w : World} {K : PySem.W.Frag} {mg mb : Str → Option Value} {k : Nat} {fa a c T : Addr} {fd : FuncData} {x : Str} {sp : Sp} {s : Shared} {vs : List Value} {ns : List Int}
theorem law_lam (KX : K.In s.heap) (hG : s.heap.Ns mainGlobals mg) (hB : s.heap.Ns builtinsNs mb) (hbb : ∀ x : Str, x ≠ "__name__" → mb x = bootBuiltins x) (hlim : s.heap.NoLimit) (hg : s.gens = #[])
    (hT : s.heap.get? T = some { cls := .none, data := .fields #[] }) (nT : K.lookup T = none) (C : PySem.W.CodeHd s.heap c T)
    (hbm : ∃ (bm : Addr) (ob : Obj), mg "__builtins__" = some (.ref bm) ∧ bm ≠ builtinsNs ∧ s.heap.get? bm = some ob ∧ ob.cls = .type "module" ∧ ob.dict = some builtinsNs ∧ ob.data = .plain)
    (ha : s.heap.get? a = some { cls := .type "list", data := .seq vs.toArray }) (hi : IntsAre vs ns) (hl : ns.length ≤ sizeLine) (hr : Room k callerA)
    (F : ∀ base : Heap, K.In base → base.Ns mainGlobals mg → TabB base mg c T → FnOk P w K mg base L2.CX0 k fa fd [x] sp) (hbind : ∀ (s : Shared) (u : Value), BindsTo s fd ⟨[u], []⟩ [(x, u)])
    (hsp : ∀ H : Hp, H T = some (.tbl #[]) → ScrF K H a (ns.map V.int) → sp [.ref a] H (fun v _ => v = .bl true) fun _ _ _ => False) :
    codeAny (model P w) callerA (.call (.ref fa) ⟨[.ref a], []⟩) (fun r s' => r = .ok (.ret (.bool true)) ∧ OldK s.heap s'.heap ∧ s'.os = s.os ∧ AllBare s'.gens) s := by
  have rv := vals_ints hi
  have lenV := hi.length
  have hl' : (ns.map V.int).length ≤ sizeLine := by rw [List.length_map]; exact hl
  have neq : a ≠ T := fun z => by
    rw [z, hT] at ha
    cases ha
  have hw : ∃ H0 : Hp, startH K T a { cls := .type "list", data := .seq vs.toArray } (ns.map V.int) = H0 := ⟨_, rfl⟩
  obtain ⟨H0, eH⟩ := hw
  have atT : H0 T = some (.tbl #[]) := by rw [← eH]; exact if_pos rfl
  have atA : K.lookup a = none → H0 a = some (.frz { cls := .type "list", data := .seq vs.toArray } (.lst (ns.map V.int))) := fun z => by
    rw [← eH]
    exact (if_neg neq).trans (if_pos ⟨rfl, by rw [z]; rfl⟩)
  have only : ∀ b u, H0 b = some u → (b = T ∧ u = .tbl #[]) ∨ (b = a ∧ K.lookup a = none ∧ u = .frz { cls := .type "list", data := .seq vs.toArray } (.lst (ns.map V.int))) := fun b u z => by
    rw [← eH] at z
    unfold startH at z
    by_cases h1 : b = T
    · rw [if_pos h1] at z
      exact .inl ⟨h1, (Option.some.inj z).symm⟩
    · rw [if_neg h1] at z
      by_cases h2 : b = a ∧ (K.lookup a).isNone = true
      · rw [if_pos h2] at z
        exact .inr ⟨h2.1, by simpa using h2.2, (Option.some.inj z).symm⟩
      · rw [if_neg h2] at z
        cases z
  have scr : ScrF K H0 a (ns.map V.int) := by
    cases hk : K.lookup a with
    | none => exact .inl ⟨_, atA hk⟩
    | some o =>
      have e := KX a o hk
      rw [ha] at e
      cases e
      exact .inr ⟨_, vs.toArray, _, hk, rfl, rfl, rfl, by rw [List.size_toArray, lenV]; exact hl, by simpa using rv⟩
  have hok : HOk P w H0 s.heap := fun b u z => by
    rcases only b u z with ⟨rfl, rfl⟩ | ⟨rfl, _, rfl⟩
    · exact hT
    · exact ⟨ha, hl', vs, _, rv, ha⟩
  -- an object that is neither a list nor an empty table is not tracked
  have clear : ∀ {b : Addr} {o : Obj}, s.heap.get? b = some o → (∀ us n, o.data ≠ .seq us n) → o.data ≠ .fields #[] → H0 b = none := fun {b o} e d1 d2 => by
    cases z : H0 b with
    | none => rfl
    | some u =>
      rcases only b u z with ⟨rfl, _⟩ | ⟨rfl, _, _⟩
      · rw [hT] at e
        cases e
        exact absurd rfl d2
      · rw [ha] at e
        cases e
        exact absurd rfl (d1 _ _)
  have get : ∀ {b : Addr} {o : Obj}, s.heap.get? b = some o → H0 b = none → (hidT s.heap H0).get? b = some o := fun e n => hidT_get e n
  have nsUp : ∀ {b : Addr} {m : Str → Option Value}, s.heap.Ns b m → (hidT s.heap H0).Ns b m := fun {b m} ⟨o, es, ep, e, d, r⟩ => ⟨o, es, ep, get e (clear e (fun us n z => by rw [d] at z; cases z) fun z => by rw [d] at z; cases z), d, r⟩
  have kIn : K.In (hidT s.heap H0) := fun b o e => get (KX b o e) (by
    cases z : H0 b with
    | none => rfl
    | some u =>
      rcases only b u z with ⟨rfl, _⟩ | ⟨rfl, n, _⟩
      · rw [nT] at e; cases e
      · rw [n] at e; cases e)
  have md : L2.Mod K mg (hidT s.heap H0) := ⟨kIn, nsUp hG, ⟨mb, nsUp hB, hbb⟩, let ⟨mc, h1, h2⟩ := hlim; ⟨mc, nsUp h1, h2⟩⟩
  have tb : TabB (hidT s.heap H0) mg c T := by
    obtain ⟨o, us, file, tf, flags, tg, inF, text, tt, e1, r1, r2, r3, r4, r5, r6, r7, r8, hne⟩ := C
    obtain ⟨bm, ob, b1, b2, b3, b4, b5, b6⟩ := hbm
    obtain ⟨og, es, ep, eg, dg, _⟩ := hG
    have ng : bm ≠ mainGlobals := fun q => by
      rw [q, eg] at b3
      cases b3
      rw [dg] at b6
      cases b6
    have nt : bm ≠ T := fun q => by
      rw [q, hT] at b3
      cases b3
      cases b6
    refine ⟨⟨o, us, file, tf, flags, tg, inF, text, tt, get e1 (clear e1 (fun us n z => ?_) fun z => ?_), r1, r2, r3, r4, r5, r6, r7, r8, hne⟩, ⟨bm, ob, b1, b2, ng, nt, get b3 (clear b3 (fun us n z => ?_) fun z => ?_), b4, b5, b6⟩, fun z => ?_⟩
    · rw [r2] at z
      cases z
    · rw [r2] at z
      cases z
      simp at r3
    · rw [b6] at z
      cases z
    · rw [b6] at z
      cases z
    · rw [z, hT] at eg
      cases eg
      cases dg
  have e0 : Env0 P w K mg (hidT s.heap H0) callerA [] s H0 := ⟨rfl, md, fun b o e => of_hidT e, Nat.le_of_eq (hidT_size _ _), trivial, fun b z => absurd (show b ∈ ([] : List Addr) from z) (by simp), hok, .of_eq hg⟩
  refine codeAny_mono ((F _ kIn (nsUp hG) tb).run callerA [] s H0 ⟨[.ref a], []⟩ [.ref a] [.ref a] _ _ hr e0 (hbind s (.ref a)) (.cons rfl .nil) (hsp H0 atT scr)) fun r s' h => ?_
  cases r with
  | error e => exact False.elim h
  | ok fl =>
    cases fl with
    | next => exact False.elim h
    | brk => exact False.elim h
    | cont => exact False.elim h
    | ret u =>
      obtain ⟨v, H', os, bare, un, hok', r', rfl⟩ := h
      obtain rfl : u = Value.bool true := r'
      have kept : ∀ b o, b ≠ T → s.heap.get? b = some o → s'.heap.get? b = some o := fun b o nb e => by
        cases z : H0 b with
        | none => exact un.keep b o e z (fun z => absurd (show b ∈ ([] : List Addr) from z) (by simp)) (by simp)
        | some u =>
          rcases only b u z with ⟨q, _⟩ | ⟨rfl, n, rfl⟩
          · exact absurd q nb
          · obtain ⟨e2, _⟩ := hok' _ _ (un.frzs _ _ _ z)
            rw [ha] at e
            cases e
            exact e2
      obtain ⟨more, hm⟩ := un.tbls T #[] atT
      have grown : s'.heap.get? T = some { cls := .none, data := .fields (#[] ++ more) } := hok' T _ hm
      refine ⟨rfl, ⟨fun b o e => ?_, fun b o e => ?_⟩, os, bare⟩
      · by_cases hb : b = T
        · subst hb
          rw [hT] at e
          cases e
          exact .inr (.inl ⟨(C.tab hT).isCodeTable, rfl, #[], more, rfl, grown⟩)
        · exact .inl (kept b o hb e)
      · by_cases hb : b = T
        · subst hb
          exact ⟨_, grown⟩
        · exact ⟨o, kept b o hb e⟩
/-- what is known of the law's promise at the head's heap h -/
def LawAtL (l : PySem.W.OpenLaw) (w : World) (K : PySem.W.Frag) (k n : Nat) (x : Str) (mg : Str → Option Value) (fa : Addr) (h : Heap) : Prop :=
  ∃ (fd : FuncData) (c T : Addr) (sp : Sp), h.get? T = some { cls := .none, data := .fields #[] } ∧ K.lookup T = none ∧ PySem.W.CodeHd h c T ∧ (∀ (s : Shared) (u : Value), BindsTo s fd ⟨[u], []⟩ [(x, u)]) ∧
    (∀ (H : Hp) (a : Addr) (ns : List Int), ns.length ≤ n → H T = some (.tbl #[]) → ScrF K H a (ns.map V.int) → sp [.ref a] H (fun v _ => v = .bl true) fun _ _ _ => False) ∧
    ∀ base : Heap, K.In base → base.Ns mainGlobals mg → TabB base mg c T → FnOk l.prog w K mg base L2.CX0 k fa fd [x] sp
theorem walk_lam {l : PySem.W.OpenLaw} {n k : Nat} {q : Program} {loose : List Str} {XP : (Str → Option Value) → Heap → Prop} {YP : World → Heap → Prop} {d : DefRec} {x : Str}
    (hn : l.most = some n) (hn2 : n ≤ sizeLine) (hdf : d.params.defaults = []) (hr : Room k callerA)
    (F : ∀ (w : World) (mg : Str → Option Value) (fa : Addr) (h : Heap), YP w h → h.Ns mainGlobals mg → mg d.name = some (.ref fa) → ∃ K : PySem.W.Frag, K.In h ∧ LawAtL l w K k n x mg fa h) :
    PySem.W.WalkO q loose XP YP l.row.toRowW d [] (fun f vs => PySem.call f vs) := by
  refine Att.attach_callB hn hdf fun w s₀ s₁ mg mb fa o pm cd doc a vs ns G Y ho hd hcd hmg hobj hints hlen hbits hg => ?_
  obtain ⟨K, KX, fd, c, T, sp, hT, nT, C, hb, hsp, hF⟩ := F w mg fa _ Y G.T.g hmg
  exact law_lam KX G.T.g G.T.b G.T.builtins G.T.nolimit hg hT nT C G.T.bmain hobj hints (Nat.le_trans hlen hn2) hr hF hb fun H hH hS => hsp H a ns hlen hH hS
end
/-! ### the Hook: facts of the heap without empty tables, and the law's own table -/
abbrev lawD : He.Defn := ("law", none)
abbrev lamC (K : PySem.W.Frag) : Addr := (He.cT K lawD).1
abbrev lamT (K : PySem.W.Frag) : Addr := (He.cT K lawD).2
abbrev AlL : Type := He.AlD × Bool
def SaysL (fas : List Gp.FB) (fn : List He5.DefA) (h : Heap) (K : PySem.W.Frag) : Prop := Gp.SaysP fas fn K ∧ PySem.W.codeHdIn K (lamC K) (lamT K) = true ∧ K.lookup (lamT K) = none ∧ h.get? (lamT K) = some { cls := .none, data := .fields #[] }
def obsL (n : Nat) (fas : List Gp.FB) (fn : List He5.DefA) (g : Addr → Option Obj) : AlL := (Gp.obsP fas fn (He.frT g (He5.asA g n)), He.tabsB g [lawD] (He.frT g (He5.asA g n)))
theorem saysL_of {n : Nat} {fas : List Gp.FB} {fn : List He5.DefA} {h : Heap} (e : obsL n fas fn h.get? = (He5.valA fn, true)) : SaysL fas fn h (He.frT h.get? (He5.asA h.get? n)) := by
  have e1 : Gp.obsP fas fn (He.frT h.get? (He5.asA h.get? n)) = He5.valA fn := congrArg (fun z : AlL => z.1) e
  have e2 : He.tabsB h.get? [lawD] (He.frT h.get? (He5.asA h.get? n)) = true := congrArg (fun z : AlL => z.2) e
  obtain ⟨h3, h4⟩ := He.ba (List.all_eq_true.mp e2 lawD List.mem_cons_self)
  cases q : h.get? (lamT (He.frT h.get? (He5.asA h.get? n))) with
  | none =>
    rw [show h.get? (He.cT (He.frT h.get? (He5.asA h.get? n)) lawD).2 = none from q] at h4
    cases h4
  | some o =>
    rw [show h.get? (He.cT (He.frT h.get? (He5.asA h.get? n)) lawD).2 = some o from q] at h4
    exact ⟨e1, h3, He.frT_none q h4, by rw [q, He.emptyTab_eq h4]⟩
def hookL (n : Nat) (fas : List Gp.FB) (fn : List He5.DefA) : PySem.W.Hook where
  α := AlL
  obs := fun s => obsL n fas fn s.heap.get?
  val := fun _ => (He5.valA fn, true)
  says := fun _ h => ∃ K : PySem.W.Frag, K.In h ∧ SaysL fas fn h K
  of := fun _ _ e => ⟨_, He.frT_in, saysL_of e⟩
  keeps := fun _ _ _ ⟨K, hK, c1, c2, c3, c4⟩ k => ⟨K, PySem.W.Frag.In.keeps hK k, c1, c2, c3, k _ _ c4⟩
theorem obsL_eq {n : Nat} {fas : List Gp.FB} {fn : List He5.DefA} {g : Addr → Option Obj} {s : Shared} (h : ∀ a, g a = s.heap.get? a) : obsL n fas fn g = (hookL n fas fn).obs s := by
  have e : g = s.heap.get? := funext h
  rw [e] <;> rfl
/-- the body of a law that makes lambdas: its code object and its table are told -/
abbrev BodyT (P : Program) (w : World) (K : PySem.W.Frag) (mg : Str → Option Value) (base : Heap) (N : List Str) (st : Stmt) (k : Nat) (sp : Sp) : Prop :=
  ∀ (f : Addr) (A : Around) (outer : List Env) (s : Shared) (H : Hp) (vs : List V) (Q : VK) (E : XK), TabB base mg (lamC K) (lamT K) → Room k (A.deeper (envOfC "law" (defScope st) s.heap.objs.size f (.ref (lamC K)))) → sp vs H Q E →
      ∃ t, PSs (cxOf L2.CX0 P w K mg base N "law" (defScope st) f (.ref (lamC K)) A outer s H E).nox (defBody st) t ∧ t { nx := fun _ H' => Q .non H', rt := Q } (start N vs) H
theorem fn_lam {P : Program} {w : World} {K : PySem.W.Frag} {mg : Str → Option Value} {base : Heap} {st : Stmt} {fd : FuncData} {N ps : List Str} {k : Nat} {sp : Sp} (F : Fun K "law" "law" st (He.ga K "law") fd) (S : FnScope N ps (defScope st)) (len : ∀ vs H Q E, sp vs H Q E → vs.length = ps.length)
    (body : BodyT P w K mg base N st k sp) (TB : TabB base mg (lamC K) (lamT K)) : FnOk P w K mg base L2.CX0 (k + 1) (He.ga K "law") fd ps sp := by
  obtain ⟨oc, od, kV, doc, pm, an, cdv, ct, osl, rfl, lk, hcd⟩ := F.ex
  obtain ⟨c0, rfl⟩ := He.codeIn_ref hcd
  have e : He.codeOf K lawD = c0 := He.codeOf_eq (p := lawD) lk rfl
  subst e
  refine fn_of lk hcd S len fun A outer s H vs Q E hr hsp => ?_
  obtain ⟨t, ht, q⟩ := body _ A outer s H vs Q E TB hr hsp
  exact ⟨t, ht.nox, q⟩
end G48
namespace G48
open PySem PySem.Spec PyProof.Rows L2 Evl
open LamX (CodeO Tabs TabS ExtN TabB)
/-! ### what stands when a lambda is made -/
section
variable {K : PySem.W.Frag} {H H' : Hp} {a l C dx : Addr} {xs ys : List V} {fs : List (Str × V)}
theorem exn_lst (e : ExtN H H') (h : H a = some (.lst xs)) : H' a = some (.lst xs) := e _ _ h fun _ z => by cases z
theorem exn_ins (e : ExtN H H') (h : H a = some (.ins C dx fs)) : H' a = some (.ins C dx fs) := e _ _ h fun _ z => by cases z
theorem exn_t (e : ExtN H H') (h : SqT K H a xs) : SqT K H' a xs := by
  rcases h with (h | ⟨o, h⟩) | h
  · exact .inl (.inl (e _ _ h fun _ z => by cases z))
  · exact .inl (.inr ⟨o, e _ _ h fun _ z => by cases z⟩)
  · exact .inr h
theorem exn_l (e : ExtN H H') (h : SqL K H a xs) : SqL K H' a xs := by
  rcases h with (h | ⟨o, h⟩) | h
  · exact .inl (.inl (e _ _ h fun _ z => by cases z))
  · exact .inl (.inr ⟨o, e _ _ h fun _ z => by cases z⟩)
  · exact .inr h
theorem tabs_exb {T : List (Addr × Str)} (e : Exb l H H') (hl : H l = some (.lst ys)) (t : Tabs T H) : Tabs T H' := fun p hp => by
  obtain ⟨ps, h1, h2, h3⟩ := t p hp
  refine ⟨ps, e _ _ (ne_of h1 hl (by intro z; cases z)) h1, h2, fun pos cv hc => ?_⟩
  obtain ⟨c, e1, e2⟩ := h3 pos cv hc
  refine ⟨c, e1, e _ _ (ne_of e2 hl fun z => ?_) e2⟩
  unfold CodeO at z
  cases z
end
/-! ### the table of the law's own code object -/
abbrev lamTs (K : PySem.W.Frag) : List (Addr × Str) := [(lamT K, ("law" ++ ".<locals>.") ++ "<lambda>")]
theorem lamTs_m {K : PySem.W.Frag} : (lamT K, (("law" ++ ".<locals>.") ++ "<lambda>" : Str)) ∈ lamTs K := List.mem_cons_self
theorem lamTs_u {K : PySem.W.Frag} : ∀ p ∈ lamTs K, p.1 = lamT K → p.2 = (("law" ++ ".<locals>.") ++ "<lambda>" : Str) := fun p hp _ => by rw [List.mem_singleton.mp hp]
theorem lamTs_0 {K : PySem.W.Frag} {H : Hp} (h : H (lamT K) = some (.tbl #[])) : Tabs (lamTs K) H := fun p hp => by
  rw [List.mem_singleton.mp hp]
  exact TabS.nil h
/-! ### lambdas that are kept: made, handed on, called -/
/-- the maker: its names, its cells, its text's name -/
structure LamM where
  prog : Program
  w : World
  K : PySem.W.Frag
  mg : Str → Option Value
  base : Heap
  N : List Str
  sc : Scope
  cells : List (Str × Addr)
  qual : Str
abbrev lamM (X : Cx) : LamM := ⟨X.prog, X.w, X.K, X.mg, X.base, X.N, X.env.scope, X.env.cells, X.env.qual ++ "<lambda>"⟩
/-- at f stands a lambda that M made, its body's reading is t -/
def LamTo (M : LamM) (k : Nat) (H : Hp) (f : Addr) (t : XK → TE) : Prop := ∃ l : LamD, LamOk M.prog M.w M.K M.mg M.base M.N M.sc M.cells M.qual k l ∧ l.at_ H f M.qual M.cells ∧ l.t = t
section
variable {M : LamM} {k : Nat} {H H' : Hp} {f l : Addr} {t : XK → TE} {ys : List V}
theorem LamTo.ex (e : Ex H H') (h : LamTo M k H f t) : LamTo M k H' f t := let ⟨d, a, b, c⟩ := h; ⟨d, a, LamAt.ex e b, c⟩
theorem LamTo.exn (e : ExtN H H') (h : LamTo M k H f t) : LamTo M k H' f t := let ⟨d, a, b, c⟩ := h; ⟨d, a, LamAt.exn e b, c⟩
theorem LamTo.exb (e : Exb l H H') (hl : H l = some (.lst ys)) (h : LamTo M k H f t) : LamTo M k H' f t := let ⟨d, a, b, c⟩ := h; ⟨d, a, LamAt.exb e hl b, c⟩
end
def tLamT (M : LamM) (k : Nat) (T : List (Addr × Str)) (t : XK → TE) : TE := fun _ H Q => Tabs T H ∧ ∀ f H1, H f = none → ExtN H H1 → Tabs T H1 → LamTo M k H1 f t → Q (.ref f) H1
section
variable {X : Cx} {T : List (Addr × Str)} {c P : Addr} {params : Arguments} {body : Expr} {scope : Scope} {pos : Pos} {t : XK → TE} {k : Nat}
theorem pe_lamT0 (TB : TabB X.base X.mg c P) (hcode : X.env.code = .ref c) (hm : (P, X.env.qual ++ "<lambda>") ∈ T) (hu : ∀ p ∈ T, p.1 = P → p.2 = X.env.qual ++ "<lambda>")
    (S : LamS X.N X.env.scope scope []) (B : LamB params [] [])
    (hbody : ∀ (A : Around) (outer : List Env) (s : Shared) (H : Hp) (E : XK) (f c' : Addr), Room k (A.deeper (lamE (X.env.qual ++ "<lambda>") scope X.env.cells s.heap.objs.size f c')) → PE (lamX X.prog X.w X.K X.mg X.base X.N (X.env.qual ++ "<lambda>") scope X.env.cells A outer s H E f c') body (t E))
    (hd : defaultsOf params X.env = ([], []) := by rfl) : PE X (.Lambda params body scope pos) (tLamT (lamM X) k T t) := by
  have L := pe_lam0 (pos := pos) (body := body) TB hcode hm hu S.free hd
  refine ⟨fun pins s σ H Q I h => L.run pins s σ H Q I ⟨h.1, fun f H1 n1 e1 T1 l1 => h.2 f H1 n1 e1 T1 ⟨⟨params, body, scope, [], [], t⟩, ⟨S, B, hbody⟩, l1, rfl⟩⟩⟩
theorem pe_lamT1 {y : Str} {d : Int} {dk : Nat} {dp : Pos} (TB : TabB X.base X.mg c P) (hcode : X.env.code = .ref c) (hm : (P, X.env.qual ++ "<lambda>") ∈ T) (hu : ∀ p ∈ T, p.1 = P → p.2 = X.env.qual ++ "<lambda>")
    (S : LamS X.N X.env.scope scope [y]) (B : LamB params [y] [d])
    (hbody : ∀ (A : Around) (outer : List Env) (s : Shared) (H : Hp) (E : XK) (f c' : Addr), Room k (A.deeper (lamE (X.env.qual ++ "<lambda>") scope X.env.cells s.heap.objs.size f c')) → PE (lamX X.prog X.w X.K X.mg X.base X.N (X.env.qual ++ "<lambda>") scope X.env.cells A outer s H E f c') body (t E))
    (hd : params.defaults = [.Constant (.int d) dk dp] := by rfl) (hk : params.kw_defaults = [] := by rfl) : PE X (.Lambda params body scope pos) (tLamT (lamM X) k T t) := by
  have L := pe_lam1 (pos := pos) (body := body) TB hcode hm hu S.free hd hk
  refine ⟨fun pins s σ H Q I h => L.run pins s σ H Q I ⟨h.1, fun f H1 n1 e1 T1 l1 => h.2 f H1 n1 e1 T1 ⟨⟨params, body, scope, [y], [d], t⟩, ⟨S, B, hbody⟩, l1, rfl⟩⟩⟩
theorem lamB1 {params : Arguments} {a : Str} {d : Int} (h : ∀ (q : Str) (body : FuncBody) (scope : Scope) (cl : List (Str × Addr)) (dV doc pm cd ct : Value), ∃ k : Option (Array Value) → Sem (List (Str × Value)),
    bindArgs (PySem.W.kdv_fn "<lambda>" q params body scope cl dV doc pm cd ct) ⟨[], []⟩ = seqItems? dV >>= k ∧ ∀ v, k (some #[v]) = pure [(a, v)]) : LamB params [a] [d] := ⟨(fun e => by cases e), fun d' e => ⟨a, rfl, h⟩⟩
end
/-! ### x(e) and x(), x a name of a comprehension over lambdas of the maker -/
def tToldT (M : LamM) (k : Nat) (ta : TA) (σ0 : L2.St) (TT : (XK → Hp → VK → Prop) → Hp → VK → Prop) : TE := fun σ H Q =>
  ta σ H fun vs H1 => ∃ f t, vs = [.ref f] ∧ LamTo M k H1 f t ∧ TT (fun E H' Q' => t E σ0 H' Q') H1 Q
def tLamC (M : LamM) (k : Nat) (i : Nat) (σ0 : L2.St) : TE := fun σZ H Q => ∃ f t, σZ[i]? = some (some (.ref f)) ∧ LamTo M k H f t ∧ t (fun _ _ _ => False) σ0 H Q
section
variable {X : Cx} {pins : List (Addr × Obj)} {σ : L2.St} {H : Hp} {s : Shared} {scope : Scope} {C : Addr} {cl : List (Str × Addr)} {fp : List Addr}
/-- the block of a comprehension that starts at s sees the maker's cells -/
theorem sees_blk (I : Inv X pins σ H s) (hfp : ∀ b ∈ fp, FpOk X pins H b) : Sees (X.blk s H scope (compEnvC scope cl C X.env) fp) X.N σ X.env.cells X.env.scope := fun pins' s' σZ H' J =>
  (CellsOk.of I).un J.base fun y c e hc => (hfp c hc).2.2.2.2.1 y c e rfl
theorem pe_toldT {Ng : List Str} {x a : Str} {k j : Nat} {TT : (XK → Hp → VK → Prop) → Hp → VK → Prop} {st : Stmt} {ta : TA} {e : Expr} {p pos : Pos} (I : Inv X pins σ H s) (hfp : ∀ b ∈ fp, FpOk X pins H b) (hr : Room j X.A)
    (G : GFun X.K X.mg x st) (Sg : FnScope Ng [a] (defScope st)) (hb : BindL x x st [a]) (hG : GivesL X.prog X.w X.K X.mg X.base Ng x st a (k + 1) TT) (hNg : Ng[0]? = some a) (hva : Vis (defScope st) a) (ha : PA (X.blk s H scope (compEnvC scope cl C X.env) fp) [e] ta) (hk : k + 2 ≤ j := by decide) (hg : Gl (X.blk s H scope (compEnvC scope cl C X.env) fp) x := by rfl)
    (hdb : (x == ("__debug__" : Str)) = false := by decide) (hd : (a == ("__debug__" : Str)) = false := by decide) (hcd : (a == ("__classdict__" : Str)) = false := by decide)
    (hst : starEach [e] (compEnvC scope cl C X.env) = (false, eval e (compEnvC scope cl C X.env)) :: starEach [] (compEnvC scope cl C X.env) := by rfl) (hpl : (backTo pos (starEach [] (compEnvC scope cl C X.env))).any (·.1) = false := by rfl) :
    PE (X.blk s H scope (compEnvC scope cl C X.env) fp) (.Call (.Name x p) [e] [] pos) (tToldT (lamM X) k ta σ TT) := by
  have L := pe_told (Y := X.blk s H scope (compEnvC scope cl C X.env) fp) (N := X.N) (sg := fun _ => σ) (sc := X.env.scope) (cells := X.env.cells) (qual := X.env.qual ++ "<lambda>") (LO := LamOk X.prog X.w X.K X.mg X.base X.N X.env.scope X.env.cells (X.env.qual ++ "<lambda>") k) (p := p) (pos := pos)
    (fun pins' s' σ' H' J => ⟨sees_blk I hfp pins' s' σ' H' J, I.len⟩) (fun l hl => hl) hr G Sg hb hG hNg hva ha hk hg hdb hd hcd hst hpl
  refine ⟨fun pins' s' σ' H' Q J h => L.run pins' s' σ' H' Q J ?_⟩
  have e : (fun (vs : List V) (H1 : Hp) => ∃ f t, vs = [.ref f] ∧ LamTo (lamM X) k H1 f t ∧ TT (fun E H' Q' => t E σ H' Q') H1 Q) = fun vs H1 => ∃ f l, vs = [.ref f] ∧ LamOk X.prog X.w X.K X.mg X.base X.N X.env.scope X.env.cells (X.env.qual ++ "<lambda>") k l ∧ LamD.at_ l H1 f (X.env.qual ++ "<lambda>") X.env.cells ∧ TT (fun E H' Q' => l.t E σ H' Q') H1 Q := by
    funext vs H1
    refine propext ⟨?_, ?_⟩
    · rintro ⟨f, t, e1, ⟨l, a1, a2, rfl⟩, q⟩
      exact ⟨f, l, e1, a1, a2, q⟩
    · rintro ⟨f, l, e1, a1, a2, q⟩
      exact ⟨f, l.t, e1, ⟨l, a1, a2, rfl⟩, q⟩
  show ta σ' H' _
  rw [← e]
  exact h
theorem pe_lamC {a : Str} {i k j : Nat} {p1 p2 : Pos} (I : Inv X pins σ H s) (hfp : ∀ b ∈ fp, FpOk X pins H b) (hr : Room j X.A) (hN : X.N[i]? = some a) (hv : Vis (compEnvC scope cl C X.env).scope a) (hk : k + 1 ≤ j := by decide)
    (hd : (a == ("__debug__" : Str)) = false := by decide) (hcd : (a == ("__classdict__" : Str)) = false := by decide) : PE (X.blk s H scope (compEnvC scope cl C X.env) fp) (.Call (.Name a p1) [] [] p2) (tLamC (lamM X) k i σ) := by
  have L := pe_lamV (Z := X.blk s H scope (compEnvC scope cl C X.env) fp) (E := fun _ _ _ _ => False) (p1 := p1) (p2 := p2) (LO := LamOk X.prog X.w X.K X.mg X.base X.N X.env.scope X.env.cells (X.env.qual ++ "<lambda>") k) (sees_blk I hfp) I.len (fun l hl => hl) (hr.mono hk) (fun σZ pinsZ H s e s' I' c => by
    obtain ⟨_, _, _, _, _, _, _, _, _, _, _, _, z⟩ := c
    exact z.elim) hN hv hd hcd
  refine ⟨fun pins' s' σ' H' Q J h => L.run pins' s' σ' H' Q J ?_⟩
  obtain ⟨f, t, h1, ⟨l, a1, a2, rfl⟩, q⟩ := h
  exact ⟨f, l, h1, a1, a2, q⟩
end
/-! ### a comprehension whose element calls what the maker's cells hold: the start's facts are handed to the element -/
section
variable {X : Cx} {sB : Shared} {HB : Hp} {scope : Scope} {ce : Env} {fp : List Addr}
/-- the block's turns, from where it stands -/
theorem lc_turns {elt tg iter : Expr} {sc2 : Scope} {pos : Pos} {g : TG} {te : TE} {J : It} {it D : Addr} {tn : Nat → Heap → Prop} {vs : List Nat} {σ : L2.St} {H0 : Hp} {s0 : Shared} {R : Result → Shared → Prop} {W : Nat → Nat → Hp → Prop} {Qd : Hp → Prop}
    (hc : X.calm = true) (T : Turn X.prog X.w X.K tg J fp it tn) (I0 : Inv (X.blk sB HB scope ce fp) [] (wipe σ vs) H0 s0) (t0 : tn 0 s0.heap) (n0 : ∀ b ∈ fp, H0 b = none)
    (pg : PG (X.blk sB HB scope ce fp) tg g) (pe : PE (X.blk sB HB scope ce fp) elt te) (w0 : ∃ m, W 0 m H0)
    (turn : ∀ i m H, W i m H → (J.stop i H ∧ Qd H) ∨ (J.go i H ∧ ∃ Nx : Hp → Prop, (∀ H', Nx H' → ∃ m', m' < m ∧ W (i + 1) m' H') ∧ ∀ x H', J.yld i H x H' → g x (wipe σ vs) H' fun σ2 H2 => wipe σ2 vs = wipe σ vs ∧ te σ2 H2 fun y H4 => ∃ acc, H4 D = some (.lst acc) ∧ acc.length < sizeLine ∧ Nx (upd H4 D (.lst (acc ++ [y])))))
    (out : ∀ s' H', Inv (X.blk sB HB scope ce fp) [] (wipe σ vs) H' s' → Qd H' → R (.ok .next) s') :
    codeAny (model X.prog X.w) X.A (.compLoop (.ListComp elt [⟨tg, iter, [], 0⟩] sc2 pos) 0 (.ref it) (.ref D) ce) R s0 := by
  have own : ∀ {σ' : L2.St} {H' : Hp} {s' : Shared}, Inv (X.blk sB HB scope ce fp) [] σ' H' s' → (∀ b ∈ fp, H' b = none) → ∀ b ∈ fp, FpOk (X.blk sB HB scope ce fp) [] H' b := fun J' hn b hb =>
    ⟨hn b hb, (J'.ok.exf b hb).1, J'.ok.exfs b hb, .inl hb, (J'.ok.exf b hb).2, fun p hp => by cases hp⟩
  obtain ⟨m0, w0⟩ := w0
  refine compLoop_any (fun n s' => ∃ i H', Inv (X.blk sB HB scope ce fp) [] (wipe σ vs) H' s' ∧ tn i s'.heap ∧ (∀ b ∈ fp, H' b = none) ∧ W i n H') (fun n s1 hI => ?_) m0 ⟨0, H0, I0, t0, n0, w0⟩
  obtain ⟨i, H1, I1, t1, n1, w1⟩ := hI
  rcases turn i n H1 w1 with ⟨e, q⟩ | ⟨e, Nx, hNx, step⟩
  · refine thnF (T.done (X.blk sB HB scope ce fp) rfl rfl rfl hc i [] s1 _ H1 _ I1 (own I1 n1) t1 e) fun r s2 hr => ?_
    rw [hr.1]
    exact out s2 H1 hr.2 q
  · refine thnF (T.item (X.blk sB HB scope ce fp) rfl rfl rfl hc i [] s1 _ H1 _ I1 (own I1 n1) t1 e) fun r s2 hr => ?_
    obtain ⟨u, rfl, hr⟩ := hr
    refine thnF hr fun _ s3 h3 => ?_
    obtain ⟨x, H3, I3, r3, y3, t3, n3⟩ := h3
    refine thnF (pg.run _ s3 _ H3 x u _ (I3.pinned (own I3 n3) (T.obj _ _ t3)) r3 (step x H3 y3)) fun _ s4 h4 => ?_
    obtain ⟨σ4, H4, I4, e4, q4⟩ := h4
    refine wpAny_tests_nil ?_
    show wpAny _ _ _ _ _ _
    refine thnF (pe.run _ s4 σ4 H4 _ I4 q4) fun z s5 h5 => ?_
    obtain ⟨y, H5, I5, r5, acc, hD, hz, nx⟩ := h5
    refine app_ok (X := X.blk sB HB scope ce fp) I5 hD hz r5 fun s6 I6 => ?_
    obtain ⟨m', hm, w'⟩ := hNx _ nx
    have kept : ∀ b ∈ fp, ∀ o, s3.heap.get? b = some o → s6.heap.get? b = some o ∧ (upd H5 D (.lst (acc ++ [y]))) b = none := fun b hb o eo => by
      have z := I6.pin (b, o) (List.mem_append_right _ (List.mem_append_right _ (mem_pinsAt hb eo)))
      exact ⟨z.1, z.2.1⟩
    refine ⟨m', hm, i + 1, _, (I6.unpinned (pins := [])).weak (by rw [← e4, wipe_length]) (fun j v ej => ?_), T.keep _ _ _ t3 fun b hb o eo => (kept b hb o eo).1, fun b hb => ?_, w'⟩
    · rw [← e4] at ej
      exact (wipe_some ej).1
    · obtain ⟨o, eo, _⟩ := T.obj _ _ t3 b hb
      exact (kept b hb o eo).2
def tLcS (wi : TI) (i : Nat) (te : L2.St → TE) : TE := fun σ H Q => tLc wi (gName i) tYes (te σ) [i] σ H Q
theorem lcS_run {pins : List (Addr × Obj)} {s : Shared} {σ : L2.St} {H : Hp} {Q : VK} {elt iter : Expr} {y : Str} {py pos pos' : Pos} {i : Nat} {wi : TI} {te : L2.St → TE} {use : Option (Value → Sem Unit)} {Qf : Value → Shared → Prop} (hc : X.calm = true) (hN : X.N.Nodup) (I : Inv X pins σ H s) (hi : PI X (.Name y py) iter wi) (ok : BlkOk X.N X.env.scope scope [(y, i)])
    (hg : ∀ (s : Shared) (H : Hp) (C : Addr) (cl : List (Str × Addr)) (fp : List Addr), PG (X.blk s H scope (compEnvC scope cl C X.env) fp) (.Name y py) (gName i))
    (he : ∀ (pins : List (Addr × Obj)) (s : Shared) (σ : L2.St) (H : Hp), Inv X pins σ H s → ∀ (C : Addr) (cl : List (Str × Addr)) (fp : List Addr), (∀ b ∈ fp, FpOk X pins H b) → PE (X.blk s H scope (compEnvC scope cl C X.env) fp) elt (te σ))
    (hs : ∀ x, foldedSetIterable iter X.env x = pure x) (h : tLcS wi i te σ H Q)
    (fin : ∀ D C s' m H', Inv X pins σ H' s' → Q (.ref D) H' → s'.heap.Ns C m → FpOk X pins H' C → compPost (model X.prog X.w) X.A X.xe use Qf (.ref D) C (.ok .next) s') :
    wpAny (model X.prog X.w) X.A (comprehension (.ListComp elt [⟨.Name y py, iter, [], 0⟩] scope pos) scope X.env pos' (newList []) false (eval iter X.env) use) Qf X.xe s := by
  have free : ∀ z ∈ scope.names, z.2 = .free → ∃ c, X.env.cells.lookup z.1 = some c := fun z hz e => (ok.free z hz e).elim (fun k => I.ok.has _ (.inl k)) fun k => I.ok.has _ (.inr k)
  refine wpAny_comprehension_free (use := use) rfl hs (closure_ok free) ok.kind (fun z hz e => by rw [ok.uniq z hz, e]) (thn (hi.run pins s σ H _ I h) fun v1 s1 h1 => thn h1 fun v2 s2 h2 => ?_)
  obtain ⟨it, fp, tn, J, H2, rfl, I2, T, t2, f2, q⟩ := h2
  refine wpAny_newObj_type (newEnv_comp ?_) (Nat.zero_le _)
  have nD : H2 s2.heap.objs.size = none := I2.hok.fresh (Nat.le_refl _)
  obtain ⟨W, w0, turn⟩ := q _ nD
  have grow : ∀ b o, s2.heap.get? b = some o → (s2.heap.push { cls := .type "list", data := .seq ([] : List Value).toArray }).get? b = some o := fun b o e => Heap.get?_push_of_some _ e
  obtain ⟨s3, e3⟩ : ∃ s3 : Shared, s3 = { s2 with heap := s2.heap.push { cls := .type "list", data := .seq ([] : List Value).toArray } } := ⟨_, rfl⟩
  have I3 : Inv X pins σ (upd H2 s2.heap.objs.size (.lst [])) s3 := by
    rw [e3]
    exact I2.laid (t' := s2.toks) grow (Nat.le_refl _) ⟨Nat.zero_le _, [], 0, .nil, Heap.get?_push_size _ rfl⟩
  have lt : ∀ b ∈ fp, b < s2.heap.objs.size := fun b hb => let ⟨o, e, _⟩ := T.obj _ _ t2 b hb; Heap.lt_size e
  have f3 : ∀ b ∈ fp, FpOk X pins (upd H2 s2.heap.objs.size (.lst [])) b := fun b hb => by
    refine ⟨?_, (f2 b hb).2⟩
    rw [upd_ne (Nat.ne_of_lt (lt b hb))]
    exact (f2 b hb).1
  have l3 : ∀ b ∈ fp, FpOk X pins (upd H2 s2.heap.objs.size (.lst [])) b ∧ b < s3.heap.objs.size := fun b hb => ⟨f3 b hb, by rw [e3, Heap.size_push]; exact Nat.lt_succ_of_lt (lt b hb)⟩
  have I4 := block_start I3 ok hN l3
  have pg := hg s3 (upd H2 s2.heap.objs.size (.lst [])) s3.heap.objs.size (cellsFrom (s3.heap.objs.size + 1) scope.names (cloFrom X.env.cells scope.names [])) fp
  have pe := he pins s3 σ _ I3 s3.heap.objs.size (cellsFrom (s3.heap.objs.size + 1) scope.names (cloFrom X.env.cells scope.names [])) fp f3
  have t4 : tn 0 (pushCells (s3.heap.push { cls := .type "dict", data := .dict #[] }) scope.names) := T.keep _ _ _ t2 fun b _ o e => pushCells_keeps _ _ _ _ (Heap.get?_push_of_some _ (by rw [e3]; exact grow b o e))
  have L := lc_turns (iter := iter) (sc2 := scope) (pos := pos) (R := compPost (model X.prog X.w) X.A X.xe use Qf (.ref s2.heap.objs.size) s3.heap.objs.size) hc T I4 t4 (fun b hb => (f3 b hb).1) pg pe w0 (fun i m H' w => (turn i m H' w).imp id fun z => z) (fun s' H' J' hQ => ?_)
  · subst e3
    exact codeAny_compStart_list L (T.self X.A 0 _ _ _ t4 L)
  · have n5 : H' s3.heap.objs.size = none := J'.free
    obtain ⟨m5, hn, _⟩ := J'.loc
    have I5 : Inv X pins σ H' s' := I3.call' (ch := fp) J'.os J'.base J'.hok J'.bare fun b hb => ⟨(f3 b hb).2.2.2.1, (f3 b hb).2.1, (f3 b hb).2.2.2.2.1, (f3 b hb).2.2.2.2.2⟩
    exact fin _ _ s' m5 H' I5 hQ hn (I3.fpOk (Nat.le_refl _) n5)
theorem pe_lcS {elt iter : Expr} {y : Str} {py pos : Pos} {i : Nat} {wi : TI} {te : L2.St → TE} (hc : X.calm = true) (hN : X.N.Nodup) (hi : PI X (.Name y py) iter wi) (ok : BlkOk X.N X.env.scope scope [(y, i)])
    (hg : ∀ (s : Shared) (H : Hp) (C : Addr) (cl : List (Str × Addr)) (fp : List Addr), PG (X.blk s H scope (compEnvC scope cl C X.env) fp) (.Name y py) (gName i))
    (he : ∀ (pins : List (Addr × Obj)) (s : Shared) (σ : L2.St) (H : Hp), Inv X pins σ H s → ∀ (C : Addr) (cl : List (Str × Addr)) (fp : List Addr), (∀ b ∈ fp, FpOk X pins H b) → PE (X.blk s H scope (compEnvC scope cl C X.env) fp) elt (te σ))
    (hs : ∀ x, foldedSetIterable iter X.env x = pure x := by intro _; rfl) : PE X (.ListComp elt [⟨.Name y py, iter, [], 0⟩] scope pos) (tLcS wi i te) := by
  refine ⟨fun pins s σ H Q I h => ?_⟩
  rw [eval_ListComp]
  refine lcS_run (Qf := EP X pins σ Q) hc hN I hi ok hg he hs h fun D C s' m H' I5 hQ hn f => ⟨m, hn, fun h'' sb => ?_⟩
  obtain ⟨a0, a1, a2, a3, a4, a5⟩ := f
  exact ⟨.ref D, H', I5.turned (t' := s'.toks) (fun b o hb e => (sb.2 b hb).trans e) a0 a1 a3 a4 a5, rfl, hQ⟩
/-- z = [..], z a local -/
theorem ps_setLcS {j : Nat} {z : Str} {pz spos : Pos} {elt iter : Expr} {y : Str} {py pos : Pos} {i : Nat} {wi : TI} {te : L2.St → TE} (hz : X.N[j]? = some z) (hzl : X.env.scope.names.lookup z = some .local)
    (hsw : swapsWith (.ListComp elt [⟨.Name y py, iter, [], 0⟩] scope pos) (some (.Name z pz)) spos.line X.env = pure true) (hc : X.calm = true) (hN : X.N.Nodup) (hi : PI X (.Name y py) iter wi) (ok : BlkOk X.N X.env.scope scope [(y, i)])
    (hg : ∀ (s : Shared) (H : Hp) (C : Addr) (cl : List (Str × Addr)) (fp : List Addr), PG (X.blk s H scope (compEnvC scope cl C X.env) fp) (.Name y py) (gName i))
    (he : ∀ (pins : List (Addr × Obj)) (s : Shared) (σ : L2.St) (H : Hp), Inv X pins σ H s → ∀ (C : Addr) (cl : List (Str × Addr)) (fp : List Addr), (∀ b ∈ fp, FpOk X pins H b) → PE (X.blk s H scope (compEnvC scope cl C X.env) fp) elt (te σ))
    (hs : ∀ x, foldedSetIterable iter X.env x = pure x := by intro _; rfl) : PS X (.Assign [.Name z pz] (.ListComp elt [⟨.Name y py, iter, [], 0⟩] scope pos) spos) (tAsg (tLcS wi i te) (gName j)) := by
  refine ⟨fun pins s σ H D I h => ?_⟩
  rw [exec_Assign_Name_used _ _ _ _ hsw]
  have h : tLcS wi i te σ H fun x H1 => gName j x σ H1 D.nx := h
  have run := lcS_run (pos' := firstIterPos [⟨.Name y py, iter, [], 0⟩] pos) (pos := pos) (use := some (assign (.Name z pz) X.env)) (Qf := fun _ s' => SP X pins D .next s') hc hN I hi ok hg he hs h fun L C s' m H' I' q hn f => by
    obtain ⟨a0, a1, a2, a3, a4, a5⟩ := f
    refine wpAny_assign_Name (store_ok2 (v := V.ref L) I' hN hz (.inl hzl) rfl (fun s2 I2 ⟨c, sb, hcc⟩ => ?_) (.inr hzl))
    have apart : C ≠ c := by
      rcases hcc with w | w
      · rw [w]
        exact a1
      · exact fun e => a4 z c w e.symm
    exact ⟨m, hn.sameBut sb apart, fun h3 sb3 => ⟨_, H', I2.turned (t' := s2.toks) (fun b o hb e => (sb3.2 b hb).trans e) a0 a1 a3 a4 a5, q⟩⟩
  exact wpAny_bind (wpAny_standAt (wpAny_bind (wpAny_bind (thn run fun _ s' hq => wpAny_pure (wpAny_pure hq)))))
theorem g_lcS {wi : TI} {i : Nat} {te : L2.St → TE} {σ : L2.St} {H : Hp} {Q : VK} (q : tLc wi (gName i) tYes (te σ) [i] σ H Q) : tLcS wi i te σ H Q := q
end
theorem cr_maxTK {X : Cx} (K : PySem.W.Frag) (hc : X.calm = true) (hu : X.A.units + 64 < cLine) (h : X.K = K := by rfl) : CallR X (.builtin "max") (rMaxT K) := by subst h; exact cr_maxT hc hu
theorem cr_sumTK {X : Cx} (K : PySem.W.Frag) (hc : X.calm = true) (h : X.K = K := by rfl) : CallR X (.builtin "sum") (rSumT K) := by subst h; exact cr_sumT hc
theorem op_eqDK {X : Cx} (K : PySem.W.Frag) (hu : X.A.units + 64 < cLine) (h : X.K = K := by rfl) : OpR X (compareOp .Eq) (rEqD K) := by subst h; exact op_eqD hu
theorem op_neDK {X : Cx} (K : PySem.W.Frag) (hu : X.A.units + 64 < cLine) (h : X.K = K := by rfl) : OpR X (compareOp .NotEq) (rNeD K) := by subst h; exact op_neD hu
theorem c_list_ofK {X : Cx} (K : PySem.W.Frag) (h : X.K = K := by rfl) : CallR X (.type "list") (rListOf K) := by subst h; exact c_list_of
theorem c_tuple_ofK {X : Cx} (K : PySem.W.Frag) (h : X.K = K := by rfl) : CallR X (.type "tuple") (rTupD K) := by subst h; exact c_tuple_of
theorem op_catAK {X : Cx} (K : PySem.W.Frag) (h : X.K = K := by rfl) : OpR X (binaryOp .Add) (rCatA K) := by subst h; exact op_catA
theorem sl_tupAK {X : Cx} (K : PySem.W.Frag) (h : X.K = K := by rfl) : SlR X (rSlA K) := by subst h; exact sl_tupA
end G48
/-! errors of the text that have an own __init__: made, raised, told with their fields -/
namespace G48
open PySem PySem.Spec PyProof.Rows L2 Evl
/-! ### what the head tells of such a class -/
def oexB (K : PySem.W.Frag) (C : Addr) : Bool :=
  match K.lookup C with
  | some ⟨.type "type", _, .cls cd, sl⟩ => (match cd.mro, sl.toList with
    | .ref Cm :: below, [_, _, _, _, some (.builtin nid), _] => decide (Cm = C) && (decide (nid = "ValueError.__new__") && (!cd.hasDel && (cd.hasDict && HandSPX.refsVE below)))
    | _, _ => false)
  | _ => false
theorem oexB_ok {K : PySem.W.Frag} {C : Addr} (h : oexB K C = true) :
    ∃ nm q N bs bm sn sub ab col dd k0 k1 k2 k3 k5, K.lookup C = some (excClassObj nm q C N bs bm true sn sub ab col dd k0 k1 k2 k3 k5 "ValueError.__new__") ∧ HandSPX.refsVE bm = true := by
  unfold oexB at h
  split at h
  · rename_i dd cd sl hl
    split at h
    · rename_i Cm below z0 z1 z2 z3 nid z5 em es
      obtain ⟨a1, h⟩ := He.ba h
      obtain ⟨a2, h⟩ := He.ba h
      obtain ⟨a3, h⟩ := He.ba h
      obtain ⟨a4, a5⟩ := He.ba h
      have a1 := of_decide_eq_true a1
      have a2 := of_decide_eq_true a2
      obtain ⟨cn, cb, cm, cs, cq, ch, c7, c8, c9, c10, c11⟩ := cd
      have em : cm = _ := em
      have a3 : (!c11) = true := a3
      have a4 : ch = true := a4
      obtain ⟨sl⟩ := sl
      have es : sl = _ := es
      subst em es a1 a2 a4
      cases c11 with
      | true => cases a3
      | false => exact ⟨_, _, _, _, _, _, _, _, _, _, _, _, _, _, _, hl, a5⟩
    · cases h
  · cases h
/-- a class of errors with fields: j its place among the names -/
structure ErrC (K : PySem.W.Frag) (D : Addr) (j : Nat) (fs : List Str) : Prop where
  ox : OexC K D
  c : ExcC K D
  is_ : ∀ i, i < 7 → PySem.W.kitOne K (.ref D) (.ref (He.ga K (exNm i))) = some (decide (i = j))
  ve : PySem.W.kitOne K (.ref D) (.type "ValueError") = some true
  re : PySem.W.exmOne K (.ref D) (.ref (He.ga K "ReadingError")) = some true
  no : ∀ f ∈ fs, PySem.W.findIn K (.ref D) f = some none
def errB (K : PySem.W.Frag) (D : Addr) (j : Nat) (fs : List Str) : Bool := oexB K D && (He.eqO (PySem.W.findIn K (.ref D) "__setattr__") (some (some (.builtin "object.__setattr__"))) && (PySem.W.keepIn K (.ref D) && (decide (PySem.W.typeIn K (.ref D) = some (.type "type")) && (excCB K D &&
  ((List.range 7).all (fun i => decide (PySem.W.kitOne K (.ref D) (.ref (He.ga K (exNm i))) = some (decide (i = j)))) && (decide (PySem.W.kitOne K (.ref D) (.type "ValueError") = some true) && (decide (PySem.W.exmOne K (.ref D) (.ref (He.ga K "ReadingError")) = some true) && fs.all fun f => He.eqO (PySem.W.findIn K (.ref D) f) (some none))))))))
theorem err_ok {K : PySem.W.Frag} {D : Addr} {j : Nat} {fs : List Str} (h : errB K D j fs = true) : ErrC K D j fs := by
  obtain ⟨b1, h⟩ := He.ba h
  obtain ⟨b2, h⟩ := He.ba h
  obtain ⟨b3, h⟩ := He.ba h
  obtain ⟨b4, h⟩ := He.ba h
  obtain ⟨b5, h⟩ := He.ba h
  obtain ⟨b6, h⟩ := He.ba h
  obtain ⟨b7, h⟩ := He.ba h
  obtain ⟨b8, b9⟩ := He.ba h
  have c := excC_ok b5
  exact ⟨⟨oexB_ok b1, He.eqO_ok b2, c.hs, of_decide_eq_true b4, b3⟩, c, fun i hi => of_decide_eq_true (List.all_eq_true.mp b6 i (List.mem_range.mpr hi)), of_decide_eq_true b7, of_decide_eq_true b8, fun f hf => He.eqO_ok (List.all_eq_true.mp b9 f hf)⟩
/-! ### an own __init__ that keeps a promise -/
structure Ef (P : Program) (w : World) (K : PySem.W.Frag) (mg : Str → Option Value) (base : Heap) (x : Str) (C : Addr) (k : Nat) (ps : List Str) (sp : Sp) : Prop where
  ex : ∃ f fd, Meth K C "__init__" f ∧ mg x = some (.ref C) ∧ Binds K fd ps [] ∧ FnOk P w K mg base (L2.CX P w) k f fd ps sp
section
variable {P : Program} {w : World} {K : PySem.W.Frag} {mg : Str → Option Value} {base : Heap}
theorem Ef.of {C : Addr} {x q : Str} {st : Stmt} {N ps : List Str} {k : Nat} {sp : Sp} (G : CFun K C "__init__" q st) (hm : mg x = some (.ref C)) (S : FnScope N ps (defScope st)) (hb : BindL q "__init__" st ps)
    (len : ∀ vs H Q E, sp vs H Q E → vs.length = ps.length) (body : ∀ f, Body P w K mg base q N st f k sp) : Ef P w K mg base x C (k + 1) ps sp := by
  obtain ⟨f, fd, hg, F⟩ := G.ex
  exact ⟨f, fd, hg, hm, F.binds hb, F.okX S len (body f)⟩
end
section
variable {X : Cx} {k j : Nat} {x : Str} {ps : List Str} {sp : Sp} {p pos pos' apos : Pos} {e : Expr} {es : List Expr} {ta : TA} {te : TE} {C : Addr} {W : WX}
/-- raise C(e, ..) -/
theorem psr_err (T : OexC X.K C) (D : Ef X.prog X.w X.K X.mg X.base x C k ps sp) (hr : Room j X.A) (ha : PA X (e :: es) ta) (hc : X.calm = true) (tk : Takes X W) (hk : k + 1 ≤ j := by decide) (hg : Gl X x := by rfl) (hdb : (x == ("__debug__" : Str)) = false := by decide)
    (he : starEach (e :: es) X.env = (false, eval e X.env) :: starEach es X.env := by rfl) (hpl : (backTo pos (starEach es X.env)).any (·.1) = false := by rfl) :
    PS X (.Raise (some (.Call (.Name x p) (e :: es) [] pos)) none pos') (fun _ σ H => tMkO C sp [] ta σ H fun cls d H' => W cls d σ H') := by
  obtain ⟨f, fd, M, hm, b, F⟩ := D.ex
  exact ps_raise hc tk (pmk_oex T M.at_ (beq_iff_eq.mp M.fn) F (hr.mono hk) b .nil (passL (X := X)) hg hm ha hdb he hpl)
/-- ReadingError.__init__(self, e), ReadingError an own class over ValueError -/
structure RinC (K : PySem.W.Frag) (C : Addr) : Prop where
  ga : PySem.W.specialIn K (.ref C) "__getattribute__" = some (some (.builtin "type.__getattribute__"))
  ty : ∃ mc, PySem.W.typeIn K (.ref C) = some mc ∧ PySem.W.readsIn K C mc = true ∧ PySem.W.findCls K (.ref C) mc "__init__" = some (.val (.builtin "ValueError.__init__"))
def rinB (K : PySem.W.Frag) (C : Addr) : Bool := He.eqO (PySem.W.specialIn K (.ref C) "__getattribute__") (some (some (.builtin "type.__getattribute__"))) && (match PySem.W.typeIn K (.ref C) with
  | some mc => PySem.W.readsIn K C mc && (match PySem.W.findCls K (.ref C) mc "__init__" with
    | some (.val (.builtin n)) => decide (n = "ValueError.__init__")
    | _ => false)
  | none => false)
theorem rin_ok {K : PySem.W.Frag} {C : Addr} (h : rinB K C = true) : RinC K C := by
  obtain ⟨b1, h⟩ := He.ba h
  refine ⟨He.eqO_ok b1, ?_⟩
  split at h
  · rename_i mc hm
    obtain ⟨b2, h⟩ := He.ba h
    refine ⟨mc, hm, b2, ?_⟩
    split at h
    · rename_i n hn
      rw [hn, of_decide_eq_true h]
    · cases h
  · cases h
theorem pe_rinit {CR : Addr} {y : Str} {p1 p2 : Pos} {pl : Sem Bool} (RN : RinC X.K CR) (gR : X.mg y = some (.ref CR)) (ha : PA X (e :: es) ta) (hg : Gl X y := by rfl) (hdb : (y == ("__debug__" : Str)) = false := by decide)
    (hc : eval (.Call (.Attribute (.Name y p1) "__init__" p2) (e :: es) [] pos) X.env = (do
      let ov ← eval (.Name y p1) X.env
      standAt p2.atName
      let (f, first) ← holding [ov] (getMethod ov "__init__" pl)
      callWith pos f first (backTo pos (starEach (e :: es) X.env)) (backToKw pos (keywordEach [] X.env))) := by rfl)
    (he : starEach (e :: es) X.env = (false, eval e X.env) :: starEach es X.env := by rfl) (hpl : (backTo pos (starEach es X.env)).any (·.1) = false := by rfl) :
    PE X (.Call (.Attribute (.Name y p1) "__init__" p2) (e :: es) [] pos) (tVeI X.K ta) := by
  obtain ⟨mc, hmc, hrd, hfc⟩ := RN.ty
  refine ⟨fun pins s σ H Q I hq => ?_⟩
  refine PySem.W.methodCall_KW (ld_glob I hg gR ?_ hdb) hc
  refine PySem.W.method_cls I.kIn RN.ga (PySem.W.cls_value I.kIn hrd hfc rfl ?_)
  show wpAny _ _ (callWith pos (.builtin "ValueError.__init__") [] (backTo pos (starEach (e :: es) X.env)) []) _ _ _
  refine PyProof.Rows.callWith_method1 (thn (ha.run pos pins _ σ H _ (I.tok _) hq) fun ws s' got => ?_) he hpl
  obtain ⟨vs, G, J, rs, a, C, ys, rfl, hlen, T, ex, q⟩ := got
  cases rs with
  | @cons _ w0 _ wr r0 r1 =>
    cases r0
    exact oinit_ok T J ex (by rw [← Paired.length r1, sizeLine_eq]; omega) fun s'' L => ⟨.non, G, L, rfl, q⟩
end
/-! ### such an error that a suite holds -/
section
variable {X : Cx} {a : Addr} {oe : Obj} {pn : List (Addr × Obj)} {cls : Value} {d : Option Addr} {body : List Stmt}
theorem pss_err {t : Addr → TS} (hz : Zc cls d oe) (h : ∀ Dc, Zc (.ref Dc) d oe → ExcC X.K Dc → PSs (X.suite a ((a, oe) :: pn)) body (t Dc)) :
    PSs (X.suite a ((a, oe) :: pn)) body (fun D σ H => ∃ Dc, cls = .ref Dc ∧ ExcC X.K Dc ∧ t Dc D σ H) := by
  refine ⟨fun pins s σ H D I hh => ?_⟩
  obtain ⟨Dc, e1, hC, q⟩ := hh
  subst e1
  exact (h Dc hz hC).run pins s σ H D I q
/-- the dict of the error: none, or one with fields -/
def DicA (H : Hp) (d : Option Addr) : Prop := d = none ∨ ∃ dd fs, d = some dd ∧ H dd = some (.xd fs)
theorem excAt {pins : List (Addr × Obj)} {σ : L2.St} {H : Hp} {s : Shared} {Dc : Addr} (I : Inv (X.suite a ((a, oe) :: pn)) pins σ H s) (hz : Zc (.ref Dc) d oe) (hf : ∃ vs, oe.data = .fields vs) (hd : DicA H d) :
    ∃ od, PySem.W.InstAt s.heap a oe Dc od ∧ ∀ dd fs, d = some dd → H dd = some (.xd fs) → ∃ mA o, s.heap.Ns1 dd mA ∧ (∀ f, RelO (fs.lookup f) (mA f)) ∧ od = some o ∧ s.heap.get? dd = some o := by
  obtain ⟨here, _⟩ := I.pin (a, oe) (List.mem_append_left _ List.mem_cons_self)
  obtain ⟨vs, hv⟩ := hf
  have hnc : PySem.W.notCls oe = true := by
    unfold PySem.W.notCls
    rw [hv]
  rcases hd with rfl | ⟨dd, fs, rfl, hx⟩
  · exact ⟨none, ⟨here, hz.1, hnc, by rw [hz.2]; trivial⟩, fun _ _ z => by cases z⟩
  · obtain ⟨mA, hns, rel⟩ : ∃ mA, s.heap.Ns1 dd mA ∧ ∀ f, RelO (fs.lookup f) (mA f) := I.hok dd _ hx
    obtain ⟨o, ho, _⟩ := lookIn_ns hns
    refine ⟨some o, ⟨here, hz.1, hnc, by rw [hz.2]; exact ho⟩, fun dd' fs' e1 e2 => ?_⟩
    cases e1
    rw [hx] at e2
    cases e2
    exact ⟨mA, o, hns, rel, rfl, ho⟩
/-- isinstance(e, c) -/
def rIsX (K : PySem.W.Frag) (Dc : Addr) (d : Option Addr) (a : Addr) : List V → Hp → VK → Prop := fun xs H Q => DicA H d ∧ rIsE K Dc a xs H Q
theorem call_isX {Dc : Addr} (C : ExcC X.K Dc) (hz : Zc (.ref Dc) d oe) (hf : ∃ vs, oe.data = .fields vs) : CallR (X.suite a ((a, oe) :: pn)) (.builtin "isinstance") (rIsX X.K Dc d a) := by
  intro pins s σ H xs us Q I r h
  obtain ⟨hd, c, cv, b, rfl, hcv, hk, q⟩ := h
  obtain ⟨od, J, _⟩ := excAt I hz hf hd
  cases r with
  | cons rx rr =>
    cases rr with
    | cons rt rr =>
      cases rr
      cases rx
      obtain rfl := hcv _ rt
      have hcl : (PySem.W.clsIn X.K Dc).isSome = true := by
        obtain ⟨cd, z, _⟩ := PySem.W.any_some C.hd
        rw [z]
        rfl
      exact PySem.W.kia_one (PySem.W.kitx_exc hcl C.hg C.hk C.hs C.ha C.hn C.ht C.hm) I.kIn J hk (fun z => nomatch z) fun tk => ⟨.bl b, H, I.kept (t' := tk) fun _ _ z => z, rfl, q⟩
/-- e.f -/
def tErrF (K : PySem.W.Frag) (Dc : Addr) (a : Addr) (d : Option Addr) (f : Str) (te : TE) : TE := fun σ H Q => te σ H fun x H1 => x = .ref a ∧ PySem.W.findIn K (.ref Dc) f = some none ∧ ∃ dd fs v, d = some dd ∧ H1 dd = some (.xd fs) ∧ fs.lookup f = some v ∧ Q v H1
theorem pe_errF {Dc : Addr} {e : Expr} {te : TE} {pos : Pos} {f : Str} (C : ExcC X.K Dc) (hz : Zc (.ref Dc) d oe) (hf : ∃ vs, oe.data = .fields vs) (he : PE (X.suite a ((a, oe) :: pn)) e te) (hb : attributeBase e f X.env (eval e X.env) = eval e X.env := by rfl) :
    PE (X.suite a ((a, oe) :: pn)) (.Attribute e f pos) (tErrF X.K Dc a d f te) := by
  refine ⟨fun pins s σ H Q I hq => ?_⟩
  refine attr_of hb (thn (he.run pins s σ H _ I hq) fun u s' got => ?_)
  obtain ⟨x, G, L, rx, rfl, hno, dd, fs, v, rfl, hx, hl, q⟩ := got
  cases rx
  obtain ⟨od, J, more⟩ := excAt L hz hf (.inr ⟨dd, fs, rfl, hx⟩)
  obtain ⟨mA, o, hns, rel, rfl, ho⟩ := more dd fs rfl hx
  obtain ⟨o', ho', hlk⟩ := lookIn_ns hns
  rw [ho] at ho'
  obtain rfl := Option.some.inj ho'
  obtain ⟨w, hw, rw_⟩ := RelO.some_of (v := v) (o := mA f) (by rw [← hl]; exact rel f)
  exact HandSPX.exc_get L.kIn J C.hg C.hk C.hs (PySem.W.findObj_own C.hd hno rfl (by rw [hlk, hw])) (handed_of rw_) ⟨v, G, L.tok _, rw_, q⟩
end
end G48
/-! match of a sequence of two names, a guard, then anything: values of any shape -/
namespace G48
open PySem PySem.Spec PyProof.Rows L2 Evl
section
variable {prog : Program} {w : World} {A : Around} {E : Value → Shared → Prop} {s : Shared}
theorem draw2L {it l : Addr} {u1 u2 : Value} {Q : List Value → Shared → Prop} (hne : l ≠ it) (hit : s.heap.IsListIter it l 0) (hl : s.heap.IsList l [u1, u2].toArray)
    (hQ : ∀ h', h'.IsListIter it l 2 → Heap.SameBut it s.heap h' → Q [u1, u2] { s with heap := h' }) : wpAny (model prog w) A (draw (.ref it) 2) Q E s := by
  show wpAny _ _ (pyNext (.ref it) >>= _) Q E s
  refine wpAny_bind (wpAny_pyNext_list_item hit hl (x := u1) rfl fun g1 i1 b1 => ?_)
  refine wpAny_bind (wpAny_holding ?_)
  show wpAny _ _ (pyNext (.ref it) >>= _) _ E _
  refine wpAny_bind (wpAny_pyNext_list_item (i := 1) i1 (hl.extBut b1.extBut hne) (x := u2) rfl fun g2 i2 b2 => ?_)
  refine wpAny_bind (wpAny_holding (wpAny_pure (wpAny_pure (wpAny_pure ?_))))
  exact hQ g2 i2 (b1.trans b2)
theorem unpack2L {a : Addr} {u1 u2 : Value} {Q : List Value → Shared → Prop} (hh : A.handled = none) (hl : s.heap.IsList a [u1, u2].toArray)
    (h : ∀ h', Heap.ExtBut s.heap.objs.size s.heap h' → Q [u1, u2] { s with heap := h' }) : wpAny (model prog w) A (unpackItems (.ref a) 2 none) Q E s := by
  have hlt : a ≠ s.heap.objs.size := by obtain ⟨o, ho, _⟩ := hl; exact Nat.ne_of_lt (Heap.lt_size ho)
  unfold unpackItems
  refine wpAny_bind ?_
  unfold notIterableAtAll
  refine wpAny_bind (wpAny_specialOf hl.typeIs slot_list_iter.lookup (wpAny_pure ?_))
  simp only [Bool.false_eq_true, if_false]
  refine wpAny_bind (wpAny_holding (wpAny_pyIter_list hl ?_))
  refine wpAny_bind (wpAny_holding (draw2L hlt ⟨_, Heap.get?_push_size _ rfl, rfl, rfl⟩ (hl.push _) fun g i b => ?_))
  rw [if_neg (by simp)]
  refine wpAny_bind (wpAny_holding (wpAny_pyNext_list_end hh i ((hl.push _).extBut b.extBut hlt) (by simp) fun g2 e2 => ?_))
  simp only [Option.isSome_none, Bool.false_eq_true, if_false]
  exact wpAny_pure (h g2 fun c o hc e => e2 c o hc (b.extBut c o hc (Heap.get?_push_of_some _ e)))
end
/-- match e: case [x, y] if g: .. case _: .. -/
def sM2X (K : PySem.W.Frag) (te : TE) (i j : Nat) (tt : TT) (t1 t2 : TS) : TS := fun D σ H => te σ H fun x H1 =>
  (∃ a v w, x = .ref a ∧ (SqT K H1 a [v, w] ∨ SqL K H1 a [v, w]) ∧ tt ((σ.set i (some v)).set j (some w)) H1 (kIfS t1 t2 D ((σ.set i (some v)).set j (some w)))) ∨
  ((x = .non ∨ ∃ a xs, x = .ref a ∧ SqT K H1 a xs ∧ xs.length ≠ 2 ∧ xs.length ≤ 1000) ∧ t2 D σ H1)
theorem ps_match2X {X : Cx} {i j : Nat} {x1 x2 : Str} {e g : Expr} {b1 b2 : List Stmt} {te : TE} {tt : TT} {t1 t2 : TS} {p1 p2 p3 p4 pos : Pos} (hc : X.calm = true) (hN : X.N.Nodup) (hi : X.N[i]? = some x1) (hj : X.N[j]? = some x2) (hx : Loc X.env.scope x1) (hy : Loc X.env.scope x2)
    (he : PE X e te) (hg : PT X g tt) (h1 : PSs X b1 t1) (h2 : PSs X b2 t2) (hf1 : X.fn x1 = true ∨ X.env.scope.names.lookup x1 = some .local := by first | exact .inl rfl | exact .inr rfl) (hf2 : X.fn x2 = true ∨ X.env.scope.names.lookup x2 = some .local := by first | exact .inl rfl | exact .inr rfl) :
    PS X (.Match e [⟨.MatchSequence [.MatchAs none (some x1) p1, .MatchAs none (some x2) p2] p3, some g, b1⟩, ⟨.MatchAs none none p4, none, b2⟩] pos) (sM2X X.K te i j tt t1 t2) := by
  refine ⟨fun pins s σ H D I h => ?_⟩
  refine wpAny_Match (thn (he.run pins s σ H _ I h) fun u s1 ⟨x, H1, I1, r1, hh⟩ => ?_)
  rcases hh with ⟨a, v, w, rfl, hq, q⟩ | ⟨hm, q⟩
  · cases r1
    rcases hq with hq | hq
    · obtain ⟨its, rv, ht, hz⟩ := I1.tuple hq
      cases rv with
      | cons rv1 rr =>
      cases rr with
      | cons rv2 rn =>
      cases rn
      refine wpAny_matchCases_cons (matchSeq_tuple_hit (show s1.heap.IsTuple a _ from ht) (by simp) rfl ?_)
      refine unpack2 (I1.ok.hd hc) (a := a) (s := { s1 with toks := s1.toks + 1 + 1 }) ht fun h' hx' => ?_
      have I2 : Inv X pins σ H1 { s1 with heap := h', toks := s1.toks + 1 + 1 } := I1.kept (t' := s1.toks + 1 + 1) fun b o e => hx' b o (Nat.ne_of_lt (Heap.lt_size e)) e
      refine wpAny_matchEach_cons (wpAny_matchPattern_Capture (wpAny_matchEach_cons (wpAny_matchPattern_Capture (wpAny_matchEach_nil ?_))))
      refine wpAny_assignInOrder_more (wpAny_bindName (store_ok I2 hN hi hx rv1 (fun s3 I3 => ?_) hf1))
      refine wpAny_assignInOrder_more (wpAny_bindName (store_ok I3 hN hj hy rv2 (fun s4 I4 => ?_) hf2))
      refine wpAny_assignInOrder_none ?_
      refine thn (hg.run pins s4 _ H1 _ I4 q) fun c s5 ⟨H5, I5, q5⟩ => ?_
      cases c with
      | true => exact h1.run pins s5 _ H5 D I5 q5
      | false =>
        refine wpAny_matchCases_cons (wpAny_matchPattern_Capture (wpAny_assignInOrder_none ?_))
        exact h2.run pins s5 _ H5 D I5 q5
    · obtain ⟨its, rv, hpl, hz⟩ := I1.list hq
      cases rv with
      | cons rv1 rr =>
      cases rr with
      | cons rv2 rn =>
      cases rn
      obtain ⟨ol, nl, g1, g2, g3, g4⟩ := hpl
      refine wpAny_matchCases_cons (matchSeq_list_hit ⟨ol, g1, g2, nl, g4⟩ (by simp) rfl ?_)
      refine unpack2L (I1.ok.hd hc) (a := a) (s := { s1 with toks := s1.toks + 1 + 1 }) ⟨ol, g1, g2, nl, g4⟩ fun h' hx' => ?_
      have I2 : Inv X pins σ H1 { s1 with heap := h', toks := s1.toks + 1 + 1 } := I1.kept (t' := s1.toks + 1 + 1) fun b o e => hx' b o (Nat.ne_of_lt (Heap.lt_size e)) e
      refine wpAny_matchEach_cons (wpAny_matchPattern_Capture (wpAny_matchEach_cons (wpAny_matchPattern_Capture (wpAny_matchEach_nil ?_))))
      refine wpAny_assignInOrder_more (wpAny_bindName (store_ok I2 hN hi hx rv1 (fun s3 I3 => ?_) hf1))
      refine wpAny_assignInOrder_more (wpAny_bindName (store_ok I3 hN hj hy rv2 (fun s4 I4 => ?_) hf2))
      refine wpAny_assignInOrder_none ?_
      refine thn (hg.run pins s4 _ H1 _ I4 q) fun c s5 ⟨H5, I5, q5⟩ => ?_
      cases c with
      | true => exact h1.run pins s5 _ H5 D I5 q5
      | false =>
        refine wpAny_matchCases_cons (wpAny_matchPattern_Capture (wpAny_assignInOrder_none ?_))
        exact h2.run pins s5 _ H5 D I5 q5
  · rcases hm with rfl | ⟨a, xs, rfl, hq, hne, hle⟩
    · cases r1
      refine wpAny_matchCases_cons (wpAny_matchPattern_Sequence (wpAny_collectionFlag (T := "NoneType") (b := false) (typeIs_none _) flag_seq_None ?_))
      refine wpAny_matchCases_cons (wpAny_matchPattern_Capture (wpAny_assignInOrder_none ?_))
      exact h2.run pins s1 _ H1 D I1 q
    · cases r1
      obtain ⟨its, rv, ht, hz⟩ := I1.tuple hq
      have hl := rv.length
      refine wpAny_matchCases_cons (matchSeq_tuple_miss (show s1.heap.IsTuple a _ from ht) (by simp; omega) (by simp; omega) ?_)
      refine wpAny_matchCases_cons (wpAny_matchPattern_Capture (wpAny_assignInOrder_none ?_))
      exact h2.run pins _ _ H1 D (I1.kept (t' := s1.toks + 1 + 1) fun _ _ z => z) q
end G48
namespace G48
open PySem PySem.Spec PyProof.Rows L2 Evl
open LamX (TabB)
/-! ### the end of a law that makes lambdas in several defs: all their tables are empty at the start -/
def startHs (K : PySem.W.Frag) (ts : List Addr) (a : Addr) (o : Obj) (xs : List V) : Hp := fun b => if b ∈ ts then some (.tbl #[]) else if b = a ∧ (K.lookup a).isNone = true then some (.frz o (.lst xs)) else none
section
variable {P : Program} {w : World} {K : PySem.W.Frag} {mg mb : Str → Option Value} {k : Nat} {fa a : Addr} {ts : List (Addr × Addr)} {fd : FuncData} {x : Str} {sp : Sp} {s : Shared} {vs : List Value} {ns : List Int}
theorem law_lams (KX : K.In s.heap) (hG : s.heap.Ns mainGlobals mg) (hB : s.heap.Ns builtinsNs mb) (hbb : ∀ x : Str, x ≠ "__name__" → mb x = bootBuiltins x) (hlim : s.heap.NoLimit) (hg : s.gens = #[])
    (hT : ∀ p ∈ ts, s.heap.get? p.2 = some { cls := .none, data := .fields #[] }) (nT : ∀ p ∈ ts, K.lookup p.2 = none) (C : ∀ p ∈ ts, PySem.W.CodeHd s.heap p.1 p.2)
    (hbm : ∃ (bm : Addr) (ob : Obj), mg "__builtins__" = some (.ref bm) ∧ bm ≠ builtinsNs ∧ s.heap.get? bm = some ob ∧ ob.cls = .type "module" ∧ ob.dict = some builtinsNs ∧ ob.data = .plain)
    (ha : s.heap.get? a = some { cls := .type "list", data := .seq vs.toArray }) (hi : IntsAre vs ns) (hl : ns.length ≤ sizeLine) (hr : Room k callerA)
    (F : ∀ base : Heap, K.In base → base.Ns mainGlobals mg → (∀ p ∈ ts, TabB base mg p.1 p.2) → FnOk P w K mg base L2.CX0 k fa fd [x] sp) (hbind : ∀ (s : Shared) (u : Value), BindsTo s fd ⟨[u], []⟩ [(x, u)])
    (hsp : ∀ H : Hp, (∀ p ∈ ts, H p.2 = some (.tbl #[])) → ScrF K H a (ns.map V.int) → sp [.ref a] H (fun v _ => v = .bl true) fun _ _ _ => False) :
    codeAny (model P w) callerA (.call (.ref fa) ⟨[.ref a], []⟩) (fun r s' => r = .ok (.ret (.bool true)) ∧ OldK s.heap s'.heap ∧ s'.os = s.os ∧ AllBare s'.gens) s := by
  have rv := vals_ints hi
  have lenV := hi.length
  have hl' : (ns.map V.int).length ≤ sizeLine := by rw [List.length_map]; exact hl
  have hTm : ∀ T ∈ ts.map (·.2), s.heap.get? T = some { cls := .none, data := .fields #[] } ∧ K.lookup T = none := fun T hm => by
    obtain ⟨p, hp, rfl⟩ := List.mem_map.mp hm
    exact ⟨hT p hp, nT p hp⟩
  have neq : a ∉ ts.map (·.2) := fun z => by
    rw [(hTm a z).1] at ha
    cases ha
  obtain ⟨H0, eH⟩ : ∃ H0 : Hp, startHs K (ts.map (·.2)) a { cls := .type "list", data := .seq vs.toArray } (ns.map V.int) = H0 := ⟨_, rfl⟩
  have atT : ∀ p ∈ ts, H0 p.2 = some (.tbl #[]) := fun p hp => by
    rw [← eH]
    exact if_pos (List.mem_map.mpr ⟨p, hp, rfl⟩)
  have atA : K.lookup a = none → H0 a = some (.frz { cls := .type "list", data := .seq vs.toArray } (.lst (ns.map V.int))) := fun z => by
    rw [← eH]
    exact (if_neg neq).trans (if_pos ⟨rfl, by rw [z]; rfl⟩)
  have only : ∀ b u, H0 b = some u → (b ∈ ts.map (·.2) ∧ u = .tbl #[]) ∨ (b = a ∧ K.lookup a = none ∧ u = .frz { cls := .type "list", data := .seq vs.toArray } (.lst (ns.map V.int))) := fun b u z => by
    rw [← eH] at z
    unfold startHs at z
    by_cases h1 : b ∈ ts.map (·.2)
    · rw [if_pos h1] at z
      exact .inl ⟨h1, (Option.some.inj z).symm⟩
    · rw [if_neg h1] at z
      by_cases h2 : b = a ∧ (K.lookup a).isNone = true
      · rw [if_pos h2] at z
        exact .inr ⟨h2.1, by simpa using h2.2, (Option.some.inj z).symm⟩
      · rw [if_neg h2] at z
        cases z
  have scr : ScrF K H0 a (ns.map V.int) := by
    cases hk : K.lookup a with
    | none => exact .inl ⟨_, atA hk⟩
    | some o =>
      have e := KX a o hk
      rw [ha] at e
      cases e
      exact .inr ⟨_, vs.toArray, _, hk, rfl, rfl, rfl, by rw [List.size_toArray, lenV]; exact hl, by simpa using rv⟩
  have hok : HOk P w H0 s.heap := fun b u z => by
    rcases only b u z with ⟨hb, rfl⟩ | ⟨rfl, _, rfl⟩
    · exact (hTm b hb).1
    · exact ⟨ha, hl', vs, _, rv, ha⟩
  have clear : ∀ {b : Addr} {o : Obj}, s.heap.get? b = some o → (∀ us n, o.data ≠ .seq us n) → o.data ≠ .fields #[] → H0 b = none := fun {b o} e d1 d2 => by
    cases z : H0 b with
    | none => rfl
    | some u =>
      rcases only b u z with ⟨hb, _⟩ | ⟨rfl, _, _⟩
      · rw [(hTm b hb).1] at e
        cases e
        exact absurd rfl d2
      · rw [ha] at e
        cases e
        exact absurd rfl (d1 _ _)
  have get : ∀ {b : Addr} {o : Obj}, s.heap.get? b = some o → H0 b = none → (hidT s.heap H0).get? b = some o := fun e n => hidT_get e n
  have nsUp : ∀ {b : Addr} {m : Str → Option Value}, s.heap.Ns b m → (hidT s.heap H0).Ns b m := fun {b m} ⟨o, es, ep, e, d, r⟩ => ⟨o, es, ep, get e (clear e (fun us n z => by rw [d] at z; cases z) fun z => by rw [d] at z; cases z), d, r⟩
  have kIn : K.In (hidT s.heap H0) := fun b o e => get (KX b o e) (by
    cases z : H0 b with
    | none => rfl
    | some u =>
      rcases only b u z with ⟨hb, _⟩ | ⟨rfl, n, _⟩
      · rw [(hTm b hb).2] at e; cases e
      · rw [n] at e; cases e)
  have md : L2.Mod K mg (hidT s.heap H0) := ⟨kIn, nsUp hG, ⟨mb, nsUp hB, hbb⟩, let ⟨mc, h1, h2⟩ := hlim; ⟨mc, nsUp h1, h2⟩⟩
  have tb : ∀ p ∈ ts, TabB (hidT s.heap H0) mg p.1 p.2 := fun p hp => by
    obtain ⟨o, us, file, tf, flags, tg, inF, text, tt, e1, r1, r2, r3, r4, r5, r6, r7, r8, hne⟩ := C p hp
    obtain ⟨bm, ob, b1, b2, b3, b4, b5, b6⟩ := hbm
    obtain ⟨og, es, ep, eg, dg, _⟩ := hG
    have ng : bm ≠ mainGlobals := fun q => by
      rw [q, eg] at b3
      cases b3
      rw [dg] at b6
      cases b6
    have nt : bm ≠ p.2 := fun q => by
      rw [q, hT p hp] at b3
      cases b3
      cases b6
    refine ⟨⟨o, us, file, tf, flags, tg, inF, text, tt, get e1 (clear e1 (fun us n z => ?_) fun z => ?_), r1, r2, r3, r4, r5, r6, r7, r8, hne⟩, ⟨bm, ob, b1, b2, ng, nt, get b3 (clear b3 (fun us n z => ?_) fun z => ?_), b4, b5, b6⟩, fun z => ?_⟩
    · rw [r2] at z
      cases z
    · rw [r2] at z
      cases z
      simp at r3
    · rw [b6] at z
      cases z
    · rw [b6] at z
      cases z
    · rw [z, hT p hp] at eg
      cases eg
      cases dg
  have e0 : Env0 P w K mg (hidT s.heap H0) callerA [] s H0 := ⟨rfl, md, fun b o e => of_hidT e, Nat.le_of_eq (hidT_size _ _), trivial, fun b z => absurd (show b ∈ ([] : List Addr) from z) (by simp), hok, .of_eq hg⟩
  refine codeAny_mono ((F _ kIn (nsUp hG) tb).run callerA [] s H0 ⟨[.ref a], []⟩ [.ref a] [.ref a] _ _ hr e0 (hbind s (.ref a)) (.cons rfl .nil) (hsp H0 atT scr)) fun r s' h => ?_
  cases r with
  | error e => exact False.elim h
  | ok fl =>
    cases fl with
    | next => exact False.elim h
    | brk => exact False.elim h
    | cont => exact False.elim h
    | ret u =>
      obtain ⟨v, H', os, bare, un, hok', r', rfl⟩ := h
      obtain rfl : u = Value.bool true := r'
      have kept : ∀ b o, b ∉ ts.map (·.2) → s.heap.get? b = some o → s'.heap.get? b = some o := fun b o nb e => by
        cases z : H0 b with
        | none => exact un.keep b o e z (fun z => absurd (show b ∈ ([] : List Addr) from z) (by simp)) (by simp)
        | some u =>
          rcases only b u z with ⟨q, _⟩ | ⟨rfl, n, rfl⟩
          · exact absurd q nb
          · obtain ⟨e2, _⟩ := hok' _ _ (un.frzs _ _ _ z)
            rw [ha] at e
            cases e
            exact e2
      have grown : ∀ b, b ∈ ts.map (·.2) → ∃ c more, (c, b) ∈ ts ∧ s'.heap.get? b = some { cls := .none, data := .fields (#[] ++ more) } := fun b hb => by
        obtain ⟨p, hp, rfl⟩ := List.mem_map.mp hb
        obtain ⟨more, hm⟩ := un.tbls p.2 #[] (atT p hp)
        exact ⟨p.1, more, hp, hok' p.2 _ hm⟩
      refine ⟨rfl, ⟨fun b o e => ?_, fun b o e => ?_⟩, os, bare⟩
      · by_cases hb : b ∈ ts.map (·.2)
        · obtain ⟨c, more, hp, hgr⟩ := grown b hb
          rw [(hTm b hb).1] at e
          cases e
          exact .inr (.inl ⟨((C _ hp).tab (hT _ hp)).isCodeTable, rfl, #[], more, rfl, hgr⟩)
        · exact .inl (kept b o hb e)
      · by_cases hb : b ∈ ts.map (·.2)
        · obtain ⟨c, more, hp, hgr⟩ := grown b hb
          exact ⟨_, hgr⟩
        · exact ⟨o, kept b o hb e⟩
/-- what is known of the law's promise at the head's heap h -/
def LawAtLs (l : PySem.W.OpenLaw) (w : World) (K : PySem.W.Frag) (k n : Nat) (x : Str) (mg : Str → Option Value) (fa : Addr) (h : Heap) : Prop :=
  ∃ (fd : FuncData) (ts : List (Addr × Addr)) (sp : Sp), (∀ p ∈ ts, h.get? p.2 = some { cls := .none, data := .fields #[] } ∧ K.lookup p.2 = none ∧ PySem.W.CodeHd h p.1 p.2) ∧ (∀ (s : Shared) (u : Value), BindsTo s fd ⟨[u], []⟩ [(x, u)]) ∧
    (∀ (H : Hp) (a : Addr) (ns : List Int), ns.length ≤ n → (∀ p ∈ ts, H p.2 = some (.tbl #[])) → ScrF K H a (ns.map V.int) → sp [.ref a] H (fun v _ => v = .bl true) fun _ _ _ => False) ∧
    ∀ base : Heap, K.In base → base.Ns mainGlobals mg → (∀ p ∈ ts, TabB base mg p.1 p.2) → FnOk l.prog w K mg base L2.CX0 k fa fd [x] sp
theorem walk_lams {l : PySem.W.OpenLaw} {n k : Nat} {q : Program} {loose : List Str} {XP : (Str → Option Value) → Heap → Prop} {YP : World → Heap → Prop} {d : DefRec} {x : Str}
    (hn : l.most = some n) (hn2 : n ≤ sizeLine) (hdf : d.params.defaults = []) (hr : Room k callerA)
    (F : ∀ (w : World) (mg : Str → Option Value) (fa : Addr) (h : Heap), YP w h → h.Ns mainGlobals mg → mg d.name = some (.ref fa) → ∃ K : PySem.W.Frag, K.In h ∧ LawAtLs l w K k n x mg fa h) :
    PySem.W.WalkO q loose XP YP l.row.toRowW d [] (fun f vs => PySem.call f vs) := by
  refine Att.attach_callB hn hdf fun w s₀ s₁ mg mb fa o pm cd doc a vs ns G Y ho hd hcd hmg hobj hints hlen hbits hg => ?_
  obtain ⟨K, KX, fd, ts, sp, hts, hb, hsp, hF⟩ := F w mg fa _ Y G.T.g hmg
  exact law_lams KX G.T.g G.T.b G.T.builtins G.T.nolimit hg (fun p hp => (hts p hp).1) (fun p hp => (hts p hp).2.1) (fun p hp => (hts p hp).2.2) G.T.bmain hobj hints (Nat.le_trans hlen hn2) hr hF hb fun H hH hS => hsp H a ns hlen hH hS
end
/-! ### the Hook: facts of the heap without empty tables, and the tables of these defs -/
def SaysLs (fas : List Gp.FB) (fn : List He5.DefA) (dfs : List He.Defn) (h : Heap) (K : PySem.W.Frag) : Prop := Gp.SaysP fas fn K ∧ ∀ d ∈ dfs, PySem.W.codeHdIn K (He.cT K d).1 (He.cT K d).2 = true ∧ K.lookup (He.cT K d).2 = none ∧ h.get? (He.cT K d).2 = some { cls := .none, data := .fields #[] }
def obsLs (n : Nat) (fas : List Gp.FB) (fn : List He5.DefA) (dfs : List He.Defn) (g : Addr → Option Obj) : AlL := (Gp.obsP fas fn (He.frT g (He5.asA g n)), He.tabsB g dfs (He.frT g (He5.asA g n)))
theorem saysLs_of {n : Nat} {fas : List Gp.FB} {fn : List He5.DefA} {dfs : List He.Defn} {h : Heap} (e : obsLs n fas fn dfs h.get? = (He5.valA fn, true)) : SaysLs fas fn dfs h (He.frT h.get? (He5.asA h.get? n)) := by
  have e1 : Gp.obsP fas fn (He.frT h.get? (He5.asA h.get? n)) = He5.valA fn := congrArg (fun z : AlL => z.1) e
  have e2 : He.tabsB h.get? dfs (He.frT h.get? (He5.asA h.get? n)) = true := congrArg (fun z : AlL => z.2) e
  refine ⟨e1, fun d hd => ?_⟩
  obtain ⟨h3, h4⟩ := He.ba (List.all_eq_true.mp e2 d hd)
  cases q : h.get? (He.cT (He.frT h.get? (He5.asA h.get? n)) d).2 with
  | none =>
    rw [q] at h4
    cases h4
  | some o =>
    rw [q] at h4
    exact ⟨h3, He.frT_none q h4, by rw [He.emptyTab_eq h4]⟩
def hookLs (n : Nat) (fas : List Gp.FB) (fn : List He5.DefA) (dfs : List He.Defn) : PySem.W.Hook where
  α := AlL
  obs := fun s => obsLs n fas fn dfs s.heap.get?
  val := fun _ => (He5.valA fn, true)
  says := fun _ h => ∃ K : PySem.W.Frag, K.In h ∧ SaysLs fas fn dfs h K
  of := fun _ _ e => ⟨_, He.frT_in, saysLs_of e⟩
  keeps := fun _ _ _ ⟨K, hK, c1, c2⟩ k => ⟨K, PySem.W.Frag.In.keeps hK k, c1, fun d hd => ⟨(c2 d hd).1, (c2 d hd).2.1, k _ _ (c2 d hd).2.2⟩⟩
theorem obsLs_eq {n : Nat} {fas : List Gp.FB} {fn : List He5.DefA} {dfs : List He.Defn} {g : Addr → Option Obj} {s : Shared} (h : ∀ a, g a = s.heap.get? a) : obsLs n fas fn dfs g = (hookLs n fas fn dfs).obs s := by
  have e : g = s.heap.get? := funext h
  rw [e] <;> rfl
/-! ### a def below the law whose own text makes lambdas -/
abbrev BodyTd (P : Program) (w : World) (K : PySem.W.Frag) (mg : Str → Option Value) (base : Heap) (x : Str) (N : List Str) (st : Stmt) (k : Nat) (sp : Sp) : Prop :=
  ∀ (f : Addr) (A : Around) (outer : List Env) (s : Shared) (H : Hp) (vs : List V) (Q : VK) (E : XK), TabB base mg (He.cT K (x, none)).1 (He.cT K (x, none)).2 → Room k (A.deeper (envOfC x (defScope st) s.heap.objs.size f (.ref (He.cT K (x, none)).1))) → sp vs H Q E →
      ∃ t, PSs (cxOf (L2.CX P w) P w K mg base N x (defScope st) f (.ref (He.cT K (x, none)).1) A outer s H E) (defBody st) t ∧ t { nx := fun _ H' => Q .non H', rt := Q } (start N vs) H
theorem Df.lam {P : Program} {w : World} {K : PySem.W.Frag} {mg : Str → Option Value} {base : Heap} {x : Str} {st : Stmt} {fd : FuncData} {N ps : List Str} {k : Nat} {sp : Sp} (hm : mg x = some (.ref (He.ga K x))) (F : Fun K x x st (He.ga K x) fd) (S : FnScope N ps (defScope st)) (hb : BindL x x st ps)
    (len : ∀ vs H Q E, sp vs H Q E → vs.length = ps.length) (body : BodyTd P w K mg base x N st k sp) (TB : TabB base mg (He.cT K (x, none)).1 (He.cT K (x, none)).2) : Df P w K mg base (k + 1) x ps sp := by
  refine ⟨_, fd, hm, F.kp, F.binds hb, ?_⟩
  obtain ⟨oc, od, kV, doc, pm, an, cdv, ct, osl, rfl, lk, hcd⟩ := F.ex
  obtain ⟨c0, rfl⟩ := He.codeIn_ref hcd
  have e : He.codeOf K (x, none) = c0 := He.codeOf_eq (p := (x, none)) lk rfl
  subst e
  exact fn_of lk hcd S len fun A outer s H vs Q E hr hsp => body _ A outer s H vs Q E TB hr hsp
/-! ### two tables, told side by side -/
abbrev tabOf (K : PySem.W.Frag) (x : Str) : Addr × Str := ((He.cT K (x, none)).2, (x ++ ".<locals>.") ++ "<lambda>")
abbrev twoTs (K : PySem.W.Frag) (x y : Str) : List (Addr × Str) := [tabOf K x, tabOf K y]
section
variable {K : PySem.W.Frag} {x y : Str} {H : Hp}
theorem two_m1 : ((He.cT K (x, none)).2, ((x ++ ".<locals>.") ++ "<lambda>" : Str)) ∈ twoTs K x y := List.mem_cons_self
theorem two_m2 : ((He.cT K (y, none)).2, ((y ++ ".<locals>.") ++ "<lambda>" : Str)) ∈ twoTs K x y := List.mem_cons_of_mem _ List.mem_cons_self
theorem two_u1 (ne : (He.cT K (x, none)).2 ≠ (He.cT K (y, none)).2) : ∀ p ∈ twoTs K x y, p.1 = (He.cT K (x, none)).2 → p.2 = ((x ++ ".<locals>.") ++ "<lambda>" : Str) := fun p hp e => by
  rcases List.mem_cons.mp hp with rfl | hp
  · rfl
  · rw [List.mem_singleton.mp hp] at e
    exact absurd e.symm ne
theorem two_u2 (ne : (He.cT K (x, none)).2 ≠ (He.cT K (y, none)).2) : ∀ p ∈ twoTs K x y, p.1 = (He.cT K (y, none)).2 → p.2 = ((y ++ ".<locals>.") ++ "<lambda>" : Str) := fun p hp e => by
  rcases List.mem_cons.mp hp with rfl | hp
  · exact absurd e ne
  · rw [List.mem_singleton.mp hp]
theorem twoTs_0 (h1 : H (He.cT K (x, none)).2 = some (.tbl #[])) (h2 : H (He.cT K (y, none)).2 = some (.tbl #[])) : LamX.Tabs (twoTs K x y) H := fun p hp => by
  rcases List.mem_cons.mp hp with rfl | hp
  · exact LamX.TabS.nil h1
  · rw [List.mem_singleton.mp hp]
    exact LamX.TabS.nil h2
end
/-! ### a tuple times an int of at least one -/
theorem tuple_mulW1 (l : Addr) (items : Array Value) (n : Nat) (sl : Array (Option Value)) (u : Tok) :
    Meets (Builtin.«tuple.__mul__» ⟨[.ref l, .int 1 u], []⟩) (fun _ R s => (∃ dd, s.heap.get? l = some { cls := .type "tuple", dict := dd, data := .seq items n, slots := sl }) ∧ R (.ok (.ret (Value.ref l))) s) :=
  .of_wp fun prog w A R s h => by
    obtain ⟨hp, g, d, tk, os⟩ := s
    obtain ⟨⟨dd, hl⟩, h⟩ := h
    have f1 := AutoSeq1.idx_int
    have c1 : (items.isEmpty || (1 : Int) == 1) = true := by rw [Bool.or_comm]; rfl
    wp_walk using wpAny_loadPart' hl
    repeat (first
      | (refine wpAny_ite_false (by decide) ?_; wp_walk using wpAny_loadPart' hl)
      | (refine wpAny_ite_true (decide_eq_true c1) ?_; wp_walk using wpAny_loadPart' hl))
    exact ⟨_, rfl, h⟩
def rRepU (K : PySem.W.Frag) : R2 := fun x y H Q => (∃ l xs, x = .ref l ∧ y = .int 1 ∧ SqT K H l xs ∧ Q (.ref l) H) ∨ rRepT K x y H Q
theorem op_repU {X : Cx} : OpR X (binaryOp .Mult) (rRepU X.K) := by
  intro pins s σ H x y v u Q I rx ry h
  rcases h with ⟨l, xs, rfl, rfl, hT, q⟩ | h
  · cases rx
    obtain ⟨t, rfl⟩ := ry
    obtain ⟨its, r, ⟨⟨cls, dd, data, sl⟩, ho, hc, n, hd⟩, hs⟩ := I.tuple hT
    simp only at hc hd
    subst hc hd
    exact wpAny_binaryOp_repeat_ref (T := "tuple") (U := "int") (by decide) ⟨_, ho, rfl⟩ (fun s' => typeIs_int s' 1 t) noFill_tuple_mul F.fills_int_mul F.slot_int_rmul repeat_tuple F.slot_int_index.lookup
      (call_meets F.slot_int_rmul (typeIs_int s 1 t) F.entry_int_rmul (F.args_int_rmul_2 _ _) (int_rmul_tuple 1 t l its.toArray n dd sl)
        ⟨ho, rfl, ⟨_, ho, rfl⟩, call_meets F.slot_tuple_mul ⟨_, ho, rfl⟩ F.entry_tuple_mul (F.args_tuple_mul_2 _ _) (tuple_mulW1 l its.toArray n sl t) ⟨⟨dd, ho⟩, .ref l, H, I, rfl, q⟩⟩)
  · exact op_repT pins s σ H x y v u Q I rx ry h
theorem g_repU {K : PySem.W.Frag} {H : Hp} {Q : VK} {l : Addr} {xs : List V} {k : Nat} (h : SqT K H l xs) (hn : xs ≠ []) (hl : xs.length ≤ 1000) (h1 : 1 ≤ k) (h2 : k ≤ 1000) (q : ∀ p H2, Ex H H2 → SqT K H2 p (List.replicate k xs).flatten → Q (.ref p) H2) : rRepU K (.ref l) (.int (k : Int)) H Q := by
  by_cases z : k = 1
  · subst z
    exact .inl ⟨l, xs, rfl, rfl, h, q l H (Ex.refl _) (by rw [show (List.replicate 1 xs).flatten = xs by simp]; exact h)⟩
  · exact .inr ⟨l, k, xs, rfl, rfl, h, hn, by omega, by omega, hl, fun p hp => q p _ (Ex.new hp) (SqT.of upd_same)⟩
/-! ### facts that a head tells of own classes -/
/-- what a head must tell of a class whose instances stand left of >> with an int -/
structure ShrC (K : PySem.W.Frag) (C : Addr) : Prop where
  hc : PySem.W.selfFirst K C = true
  hr : PySem.W.findIn K (.ref C) (dunderR (Operator.info .RShift).2) = some none
  h1 : ∃ fo, PySem.W.findIn K (.type "int") (PySem.dunder (Operator.info .RShift).2) = some fo
  h2 : ∃ ro, PySem.W.findIn K (.type "int") (dunderR (Operator.info .RShift).2) = some ro
  hsub : PySem.W.subIn K (.type "int") (.ref C) = some false
def shrB (K : PySem.W.Frag) (C : Addr) : Bool := PySem.W.selfFirst K C && (decide (PySem.W.findIn K (.ref C) (dunderR (Operator.info .RShift).2) = some none) && ((PySem.W.findIn K (.type "int") (PySem.dunder (Operator.info .RShift).2)).isSome &&
  ((PySem.W.findIn K (.type "int") (dunderR (Operator.info .RShift).2)).isSome && decide (PySem.W.subIn K (.type "int") (.ref C) = some false))))
theorem shr_ok {K : PySem.W.Frag} {C : Addr} (h : shrB K C = true) : ShrC K C := by
  obtain ⟨h1, h⟩ := He.ba h
  obtain ⟨h2, h⟩ := He.ba h
  obtain ⟨h3, h⟩ := He.ba h
  obtain ⟨h4, h5⟩ := He.ba h
  exact ⟨h1, of_decide_eq_true h2, Option.isSome_iff_exists.mp h3, Option.isSome_iff_exists.mp h4, of_decide_eq_true h5⟩
def shrT : List String := ["NoneType", "bool", "int", "str"]
structure ShrV (K : PySem.W.Frag) (C : Addr) : Prop where
  hc : PySem.W.selfFirst K C = true
  hr : PySem.W.findIn K (.ref C) (dunderR (Operator.info .RShift).2) = some none
  hT : ∀ T ∈ shrT, (∃ fo, PySem.W.findIn K (.type T) (PySem.dunder (Operator.info .RShift).2) = some fo) ∧ (∃ ro, PySem.W.findIn K (.type T) (dunderR (Operator.info .RShift).2) = some ro) ∧ PySem.W.subIn K (.type T) (.ref C) = some false
def shrvB (K : PySem.W.Frag) (C : Addr) : Bool := PySem.W.selfFirst K C && (decide (PySem.W.findIn K (.ref C) (dunderR (Operator.info .RShift).2) = some none) && shrT.all fun T => (PySem.W.findIn K (.type T) (PySem.dunder (Operator.info .RShift).2)).isSome &&
  ((PySem.W.findIn K (.type T) (dunderR (Operator.info .RShift).2)).isSome && decide (PySem.W.subIn K (.type T) (.ref C) = some false)))
theorem shrv_ok {K : PySem.W.Frag} {C : Addr} (h : shrvB K C = true) : ShrV K C := by
  obtain ⟨h1, h⟩ := He.ba h
  obtain ⟨h2, h⟩ := He.ba h
  refine ⟨h1, of_decide_eq_true h2, fun T hT => ?_⟩
  have := List.all_eq_true.mp h T hT
  obtain ⟨h3, h⟩ := He.ba this
  obtain ⟨h4, h5⟩ := He.ba h
  exact ⟨Option.isSome_iff_exists.mp h3, Option.isSome_iff_exists.mp h4, of_decide_eq_true h5⟩
structure EqtC (K : PySem.W.Frag) (C : Addr) : Prop where
  nf : PySem.W.notFirst K C (.type "tuple") = true
  ki : PySem.W.kitOne K (.type "tuple") (.ref C) = some false
def eqtB (K : PySem.W.Frag) (C : Addr) : Bool := PySem.W.notFirst K C (.type "tuple") && decide (PySem.W.kitOne K (.type "tuple") (.ref C) = some false)
theorem eqt_ok {K : PySem.W.Frag} {C : Addr} (h : eqtB K C = true) : EqtC K C := by
  obtain ⟨h1, h2⟩ := He.ba h
  exact ⟨h1, of_decide_eq_true h2⟩
/-- where the class method's def stands -/
abbrev cmA (K : PySem.W.Frag) (C : Addr) (m : Str) : Addr := He5.wf K C "classmethod" m
structure CmC (K : PySem.W.Frag) (C : Addr) (m : Str) : Prop where
  rd : ClX.CRead K C (.type "type")
  wr : PySem.W.findCls K (.ref C) (.type "type") m = some (.get (.builtin "classmethod.__get__") (.ref (He.ma K C m)) .none (.ref C)) ∧ ∃ rest, PySem.W.recIn K (He.ma K C m) "classmethod" = some (.ref (cmA K C m) :: rest)
def cmB (K : PySem.W.Frag) (C : Addr) (m : Str) : Bool := PySem.W.readsIn K C (.type "type") && He5.wrapB K C "classmethod" "classmethod.__get__" m
theorem cm_ok {K : PySem.W.Frag} {C : Addr} {m : Str} (h : cmB K C m = true) : CmC K C m := by
  obtain ⟨h0, hw⟩ := He.ba h
  refine ⟨⟨h0, ?_⟩, He5.wrapB_ok hw⟩
  have h := h0
  unfold PySem.W.readsIn at h
  obtain ⟨h, _⟩ := He.ba h
  obtain ⟨h, _⟩ := He.ba h
  obtain ⟨h, h3⟩ := He.ba h
  obtain ⟨_, h2⟩ := He.ba h
  unfold PySem.W.specialIn
  rw [beq_iff_eq.mp h2, Option.bind_some]
  exact beq_iff_eq.mp h3
end G48
namespace G48
open PySem PySem.Spec PyProof.Rows L2 Evl
def top (i : Nat) : Stmt := PySem.Challenge.pw_readingring_k01_rings_and_their_signs.main.body.getD i (.Pass ⟨0, 0, 0, 0⟩)

end G48
namespace G48
open PySem PySem.Spec PyProof.Rows L2 Evl
def gd (x : Str) (st : Stmt) : He5.DefA := ⟨fun K => He.ga K x, x, x, defArgs st, defBody st, defScope st, [], []⟩
def md (C x q : Str) (st : Stmt) : He5.DefA := ⟨fun K => He.ma K (He.ga K C) x, x, q, defArgs st, defBody st, defScope st, [], []⟩
def prd (C x q : Str) (st : Stmt) : He5.DefA := ⟨fun K => Gp.pga K (He.ga K C) x, x, q, defArgs st, defBody st, defScope st, [], []⟩
def cmd (C x q : Str) (st : Stmt) : He5.DefA := ⟨fun K => cmA K (He.ga K C) x, x, q, defArgs st, defBody st, defScope st, [], []⟩
abbrev s_is_integer : Stmt := top 15
abbrev s_check_number : Stmt := top 16
abbrev s_check_days : Stmt := top 17
abbrev s_check_starts : Stmt := top 18
abbrev s_lowest_terms : Stmt := top 19
abbrev s_pace_of : Stmt := top 20
abbrev s_Ring___init__ : Stmt := inClass (top 21) 0
abbrev s_Ring_books : Stmt := inClass (top 21) 4
abbrev s_Ring_pace : Stmt := inClass (top 21) 5
abbrev s_Ring___len__ : Stmt := inClass (top 21) 6
abbrev s_Ring_need_reader : Stmt := inClass (top 21) 12
abbrev s_Ring_with_days : Stmt := inClass (top 21) 13
abbrev s__law_dice : Stmt := top 24
abbrev s__law_next : Stmt := top 25
abbrev s__law_ring : Stmt := top 29
abbrev s_Course_next_row : Stmt := inClass (top 22) 1
abbrev s_Course_is_shifted : Stmt := inClass (top 22) 2
abbrev s_Course_is_settled : Stmt := inClass (top 22) 3
abbrev s_Course___init__ : Stmt := inClass (top 22) 0
abbrev s_Course_end : Stmt := inClass (top 22) 4
abbrev s_Ring_days : Stmt := inClass (top 21) 2
abbrev s_Ring_starts : Stmt := inClass (top 21) 3
abbrev s_Ring___getitem__ : Stmt := inClass (top 21) 7
abbrev s_Ring___call__ : Stmt := inClass (top 21) 11
abbrev s_Ring___rshift__ : Stmt := inClass (top 21) 10
abbrev s_Ring___eq__ : Stmt := inClass (top 21) 9
abbrev s__law_like : Stmt := top 26
abbrev s__law_terms : Stmt := top 30
abbrev s__law_pace : Stmt := top 31
abbrev s_InvalidChain___init__ : Stmt := inClass (top 9) 0
abbrev s__law_told : Stmt := top 28
abbrev s_InvalidRing___init__ : Stmt := inClass (top 3) 0
abbrev s__law_pick : Stmt := top 27
abbrev s__law_bad_rings : Stmt := top 32
abbrev s_Ring_single : Stmt := inClass (top 21) 1
abbrev s_law : Stmt := top 33
def fnL : List He5.DefA := [gd "is_integer" s_is_integer, gd "check_number" s_check_number, gd "check_days" s_check_days, gd "check_starts" s_check_starts, gd "lowest_terms" s_lowest_terms, gd "pace_of" s_pace_of, md "Ring" "__init__" "Ring.__init__" s_Ring___init__, prd "Ring" "books" "Ring.books" s_Ring_books, prd "Ring" "pace" "Ring.pace" s_Ring_pace, md "Ring" "__len__" "Ring.__len__" s_Ring___len__, md "Ring" "need_reader" "Ring.need_reader" s_Ring_need_reader, md "Ring" "with_days" "Ring.with_days" s_Ring_with_days, gd "_law_dice" s__law_dice, gd "_law_next" s__law_next, gd "_law_ring" s__law_ring, md "Course" "next_row" "Course.next_row" s_Course_next_row, md "Course" "is_shifted" "Course.is_shifted" s_Course_is_shifted, md "Course" "is_settled" "Course.is_settled" s_Course_is_settled, md "Course" "__init__" "Course.__init__" s_Course___init__, md "Course" "end" "Course.end" s_Course_end, prd "Ring" "days" "Ring.days" s_Ring_days, prd "Ring" "starts" "Ring.starts" s_Ring_starts, md "Ring" "__getitem__" "Ring.__getitem__" s_Ring___getitem__, md "Ring" "__call__" "Ring.__call__" s_Ring___call__, md "Ring" "__rshift__" "Ring.__rshift__" s_Ring___rshift__, md "Ring" "__eq__" "Ring.__eq__" s_Ring___eq__, gd "_law_like" s__law_like, gd "_law_terms" s__law_terms, gd "_law_pace" s__law_pace, md "InvalidChain" "__init__" "InvalidChain.__init__" s_InvalidChain___init__, gd "_law_told" s__law_told, md "InvalidRing" "__init__" "InvalidRing.__init__" s_InvalidRing___init__, gd "_law_pick" s__law_pick, gd "_law_bad_rings" s__law_bad_rings, cmd "Ring" "single" "Ring.single" s_Ring_single, gd "law" s_law]
def fasL : List Gp.FB := [fun K => (He.Fa.free "len").ok K,
  fun K => (He.Fa.free "isinstance").ok K,
  fun K => (He.Fa.free "int").ok K,
  fun K => (He.Fa.free "bool").ok K,
  fun K => (He.Fa.free "tuple").ok K,
  fun K => (He.Fa.free "list").ok K,
  fun K => (He.Fa.free "max").ok K,
  fun K => (He.Fa.free "min").ok K,
  fun K => (He.Fa.free "sum").ok K,
  fun K => (He.Fa.free "range").ok K,
  fun K => (He.Fa.free "enumerate").ok K,
  fun K => (He.Fa.free "zip").ok K,
  fun K => (He.Fa.free "all").ok K,
  fun K => (He.Fa.free "any").ok K,
  fun K => (He.Fa.free "sorted").ok K,
  fun K => (He.Fa.free "str").ok K,
  fun K => (He.Fa.free "set").ok K,
  fun K => (He.Fa.free "abs").ok K,
  fun K => (He.Fa.free "divmod").ok K,
  fun K => (He.Fa.free "bytes").ok K,
  fun K => (He.Fa.free "dict").ok K,
  fun K => (He.Fa.free "ValueError").ok K,
  fun K => (He.Fa.glo "is_integer").ok K,
  fun K => (He.Fa.glo "check_number").ok K,
  fun K => (He.Fa.glo "check_days").ok K,
  fun K => (He.Fa.glo "check_starts").ok K,
  fun K => (He.Fa.glo "lowest_terms").ok K,
  fun K => (He.Fa.glo "pace_of").ok K,
  fun K => (He.Fa.mkr "Ring").ok K,
  fun K => (He.Fa.glo "Ring").ok K,
  fun K => Gp.ppB K (He.ga K "Ring") "books",
  fun K => Gp.ppB K (He.ga K "Ring") "pace",
  fun K => (He.Fa.meth "Ring" "__len__").ok K,
  fun K => (He.Fa.meth "Ring" "need_reader").ok K,
  fun K => (He.Fa.meth "Ring" "with_days").ok K,
  fun K => (He.Fa.glo "_law_dice").ok K,
  fun K => (He.Fa.glo "_law_next").ok K,
  fun K => (He.Fa.glo "_law_ring").ok K,
  fun K => (He.Fa.meth "Course" "next_row").ok K,
  fun K => (He.Fa.meth "Course" "is_shifted").ok K,
  fun K => (He.Fa.meth "Course" "is_settled").ok K,
  fun K => (He.Fa.mkr "Course").ok K,
  fun K => (He.Fa.glo "Course").ok K,
  fun K => (He.Fa.meth "Course" "end").ok K,
  fun K => Gp.ppB K (He.ga K "Ring") "days",
  fun K => Gp.ppB K (He.ga K "Ring") "starts",
  fun K => (He.Fa.meth "Ring" "__getitem__").ok K,
  fun K => (He.Fa.meth "Ring" "__call__").ok K,
  fun K => (He.Fa.meth "Ring" "__rshift__").ok K,
  fun K => (He.Fa.meth "Ring" "__eq__").ok K,
  fun K => (He.Fa.glo "_law_like").ok K,
  fun K => (He.Fa.glo "_law_terms").ok K,
  fun K => (He.Fa.glo "_law_pace").ok K,
  fun K => (He.Fa.meth "InvalidChain" "__init__").ok K,
  fun K => (He.Fa.glo "_law_told").ok K,
  fun K => (He.Fa.meth "InvalidRing" "__init__").ok K,
  fun K => (He.Fa.glo "_law_pick").ok K,
  fun K => (He.Fa.glo "_law_bad_rings").ok K,
  fun K => cmB K (He.ga K "Ring") "single",
  fun K => (He.Fa.glo "law").ok K,
  fun K => (He.Fa.cls "Ring").ok K,
  fun K => (He.Fa.noat "Ring" "spans").ok K,
  fun K => (He.Fa.noat "Ring" "heaps").ok K,
  fun K => (He.Fa.noat "Ring" "total").ok K,
  fun K => (He.Fa.cls "Course").ok K,
  fun K => (He.Fa.noat "Course" "ring").ok K,
  fun K => (He.Fa.noat "Course" "size").ok K,
  fun K => (He.Fa.noat "Course" "every").ok K,
  fun K => (He.Fa.noat "Course" "shift").ok K,
  fun K => (He.Fa.noat "Course" "rows").ok K,
  fun K => (He.Fa.noat "Course" "first").ok K,
  fun K => (He.Fa.int "MAX_READERS" 8).ok K,
  fun K => (He.Fa.int "MAX_DAYS" 30).ok K,
  fun K => (He.Fa.int "MAX_BOOKS" 12).ok K,
  fun K => (He.Fa.int "MAX_NUMBER" 1000000000000000000).ok K,
  fun K => excTB K (He.ga K "InvalidNumber") 4,
  fun K => (He.Fa.glo "InvalidNumber").ok K,
  fun K => isiB K (He.ga K "Ring"),
  fun K => errB K (He.ga K "InvalidChain") 1 ["index"],
  fun K => rinB K (He.ga K "ReadingError"),
  fun K => (He.Fa.glo "ReadingError").ok K,
  fun K => (He.Fa.glo "InvalidChain").ok K,
  fun K => (He.Fa.glo "InvalidRing").ok K,
  fun K => (He.Fa.glo "UnknownReader").ok K,
  fun K => (He.Fa.glo "UnknownBook").ok K,
  fun K => (He.Fa.glo "SameBook").ok K,
  fun K => (He.Fa.glo "OtherRing").ok K,
  fun K => excTB K (He.ga K "UnknownReader") 2,
  fun K => errB K (He.ga K "InvalidRing") 0 ["part", "index"],
  fun K => decide ((He.cT K ("law", none)).2 ≠ (He.cT K ("_law_bad_rings", none)).2),
  fun K => eqtB K (He.ga K "Ring"),
  fun K => shrB K (He.ga K "Ring"),
  fun K => shrvB K (He.ga K "Ring")]
abbrev tsL (K : PySem.W.Frag) : List (Addr × Addr) := [He.cT K ("law", none), He.cT K ("_law_bad_rings", none)]
abbrev RW := PySem.Challenge.rw_readingring_k01_rings_and_their_signs
abbrev hk : PySem.W.Hook := hookLs 6 fasL fnL [("law", none), ("_law_bad_rings", none)]
def ob (s : PySem.W.SharedT) : AlL := obsLs 6 fasL fnL [("law", none), ("_law_bad_rings", none)] (HandSHeadRun.getT s)
theorem ob_eq (s : PySem.W.SharedT) : ob s = hk.obs s.abs := obsLs_eq (HandSHeadRun.getT_eq s)
abbrev RR : PySem.W.OpenRow := PySem.W.OpenLaw.row RW
def loose : List Str := [("_wall" : Str), ("ReadingError" : Str), ("InvalidRing" : Str), ("UnknownReader" : Str), ("UnknownBook" : Str), ("InvalidNumber" : Str), ("SameBook" : Str), ("OtherRing" : Str), ("InvalidChain" : Str), ("MAX_READERS" : Str), ("MAX_DAYS" : Str), ("MAX_BOOKS" : Str), ("MAX_NUMBER" : Str), ("is_integer" : Str), ("check_number" : Str), ("check_days" : Str), ("check_starts" : Str), ("lowest_terms" : Str), ("pace_of" : Str), ("Ring" : Str), ("Course" : Str), ("_law_dice" : Str), ("_law_next" : Str), ("_law_like" : Str), ("_law_pick" : Str), ("_law_told" : Str), ("_law_ring" : Str), ("_law_terms" : Str), ("_law_pace" : Str), ("_law_bad_rings" : Str)]
set_option maxHeartbeats 0 in
theorem run (w : World) : HandSHeadRun.RunEq RR (PySem.W.view RR.prog [33]) hk ob 4000 loose w := by
  intro os
  kernel_rfl
end G48
namespace G48
open PySem PySem.Spec PyProof.Rows L2 Evl
abbrev N_is_integer : List Str := ["value", "low", "high"]
theorem sc_is_integer : FnScope N_is_integer ["value", "low", "high"] (defScope s_is_integer) := ⟨rfl, rfl, rfl, by decide +kernel, rfl, by decide +kernel, by decide +kernel⟩
theorem b_is_integer : BindL "is_integer" "is_integer" s_is_integer ["value", "low", "high"] := fun _ _ _ _ _ _ us hl => match us, hl with | [_, _, _], _ => rfl
abbrev N_check_number : List Str := ["number", "low", "high"]
theorem sc_check_number : FnScope N_check_number ["number", "low", "high"] (defScope s_check_number) := ⟨rfl, rfl, rfl, by decide +kernel, rfl, by decide +kernel, by decide +kernel⟩
theorem b_check_number : BindL "check_number" "check_number" s_check_number ["number", "low", "high"] := fun _ _ _ _ _ _ us hl => match us, hl with | [_, _, _], _ => rfl
abbrev N_check_days : List Str := ["days", "index", "number"]
theorem sc_check_days : FnScope N_check_days ["days"] (defScope s_check_days) := ⟨rfl, rfl, rfl, by decide +kernel, rfl, by decide +kernel, by decide +kernel⟩
theorem b_check_days : BindL "check_days" "check_days" s_check_days ["days"] := fun _ _ _ _ _ _ us hl => match us, hl with | [_], _ => rfl
abbrev N_check_starts : List Str := ["days", "starts", "index", "number"]
theorem sc_check_starts : FnScope N_check_starts ["days", "starts"] (defScope s_check_starts) := ⟨rfl, rfl, rfl, by decide +kernel, rfl, by decide +kernel, by decide +kernel⟩
theorem b_check_starts : BindL "check_starts" "check_starts" s_check_starts ["days", "starts"] := fun _ _ _ _ _ _ us hl => match us, hl with | [_, _], _ => rfl
abbrev N_lowest_terms : List Str := ["one", "other", "first", "second"]
theorem sc_lowest_terms : FnScope N_lowest_terms ["one", "other"] (defScope s_lowest_terms) := ⟨rfl, rfl, rfl, by decide +kernel, rfl, by decide +kernel, by decide +kernel⟩
theorem b_lowest_terms : BindL "lowest_terms" "lowest_terms" s_lowest_terms ["one", "other"] := fun _ _ _ _ _ _ us hl => match us, hl with | [_, _], _ => rfl
abbrev N_pace_of : List Str := ["spans", "total", "slowest", "whole"]
theorem sc_pace_of : FnScope N_pace_of ["spans", "total"] (defScope s_pace_of) := ⟨rfl, rfl, rfl, by decide +kernel, rfl, by decide +kernel, by decide +kernel⟩
theorem b_pace_of : BindL "pace_of" "pace_of" s_pace_of ["spans", "total"] := fun _ _ _ _ _ _ us hl => match us, hl with | [_, _], _ => rfl
abbrev N_Ring___init__ : List Str := ["self", "days", "starts"]
theorem sc_Ring___init__ : FnScope N_Ring___init__ ["self", "days", "starts"] (defScope s_Ring___init__) := ⟨rfl, rfl, rfl, by decide +kernel, rfl, by decide +kernel, by decide +kernel⟩
theorem b_Ring___init__ : BindL "Ring.__init__" "__init__" s_Ring___init__ ["self", "days", "starts"] := fun _ _ _ _ _ _ us hl => match us, hl with | [_, _, _], _ => rfl
abbrev N_Ring_books : List Str := ["self"]
theorem sc_Ring_books : FnScope N_Ring_books ["self"] (defScope s_Ring_books) := ⟨rfl, rfl, rfl, by decide +kernel, rfl, by decide +kernel, by decide +kernel⟩
theorem b_Ring_books : BindL "Ring.books" "books" s_Ring_books ["self"] := fun _ _ _ _ _ _ us hl => match us, hl with | [_], _ => rfl
abbrev N_Ring_pace : List Str := ["self"]
theorem sc_Ring_pace : FnScope N_Ring_pace ["self"] (defScope s_Ring_pace) := ⟨rfl, rfl, rfl, by decide +kernel, rfl, by decide +kernel, by decide +kernel⟩
theorem b_Ring_pace : BindL "Ring.pace" "pace" s_Ring_pace ["self"] := fun _ _ _ _ _ _ us hl => match us, hl with | [_], _ => rfl
abbrev N_Ring___len__ : List Str := ["self"]
theorem sc_Ring___len__ : FnScope N_Ring___len__ ["self"] (defScope s_Ring___len__) := ⟨rfl, rfl, rfl, by decide +kernel, rfl, by decide +kernel, by decide +kernel⟩
theorem b_Ring___len__ : BindL "Ring.__len__" "__len__" s_Ring___len__ ["self"] := fun _ _ _ _ _ _ us hl => match us, hl with | [_], _ => rfl
abbrev N_Ring_need_reader : List Str := ["self", "reader"]
theorem sc_Ring_need_reader : FnScope N_Ring_need_reader ["self", "reader"] (defScope s_Ring_need_reader) := ⟨rfl, rfl, rfl, by decide +kernel, rfl, by decide +kernel, by decide +kernel⟩
theorem b_Ring_need_reader : BindL "Ring.need_reader" "need_reader" s_Ring_need_reader ["self", "reader"] := fun _ _ _ _ _ _ us hl => match us, hl with | [_, _], _ => rfl
abbrev N_Ring_with_days : List Str := ["self", "reader", "days"]
theorem sc_Ring_with_days : FnScope N_Ring_with_days ["self", "reader", "days"] (defScope s_Ring_with_days) := ⟨rfl, rfl, rfl, by decide +kernel, rfl, by decide +kernel, by decide +kernel⟩
theorem b_Ring_with_days : BindL "Ring.with_days" "with_days" s_Ring_with_days ["self", "reader", "days"] := fun _ _ _ _ _ _ us hl => match us, hl with | [_, _, _], _ => rfl
end G48
/-! the ring's own defs -/
namespace G48
open PySem PySem.Spec PyProof.Rows L2 Evl
/-! the steps -/
local macro_rules | `(tactic| walk_at "as") => `(tactic| with_reducible assumption)
local macro_rules | `(tactic| walk_at "hp") => `(tactic| first
  | with_reducible assumption
  | ((with_reducible apply SqT.of); walk_at "as")
  | ((with_reducible apply SqL.of); walk_at "as")
  | ((with_reducible apply ex_at); (focus walk_at "as"); walk_at "hp")
  | ((with_reducible apply ex_t); (focus walk_at "as"); walk_at "hp")
  | ((with_reducible apply ex_l); (focus walk_at "as"); walk_at "hp")
  | ((with_reducible apply exb_ins); (focus walk_at "as"); (focus walk_at "hp"); walk_at "hp")
  | ((with_reducible apply exb_t); (focus walk_at "as"); (focus walk_at "hp"); walk_at "hp")
  | ((with_reducible apply exb_at); (focus walk_at "as"); (focus walk_at "ne"); walk_at "hp")
  | ((with_reducible apply exb_l); (focus walk_at "as"); (focus walk_at "ne"); walk_at "hp"))
local macro_rules | `(tactic| walk_at "ne") => `(tactic| first
  | with_reducible assumption
  | exact Ne.symm (by with_reducible assumption)
  | exact ne_of_none (by with_reducible assumption) (by with_reducible assumption)
  | exact Ne.symm (ne_of_none (by with_reducible assumption) (by with_reducible assumption)))
local macro_rules | `(tactic| walk_at "tr") => `(tactic| first
  | rfl
  | with_reducible assumption
  | exact decide_eq_true (by first | with_reducible assumption | omega)
  | exact decide_eq_false (by first | with_reducible assumption | omega)
  | (rw [Bool.not_eq_true']; exact decide_eq_false (by first | with_reducible assumption | omega))
  | (rw [Bool.not_eq_false']; exact decide_eq_true (by first | with_reducible assumption | omega)))
local macro_rules | `(tactic| walk_at "nn") => `(tactic| first | with_reducible assumption | (exact List.cons_ne_nil _ _))
local macro_rules | `(tactic| walk_at "sz") => `(tactic| first | (exact sz1000 (Nat.le_of_ble_eq_true rfl)) | (refine sz1000 ?_; simp only [List.length_map, List.length_cons, List.length_nil, List.length_append]; omega) | with_reducible assumption)
local macro_rules | `(tactic| walk_at "sl") => `(tactic| first | with_reducible assumption | (refine lt1000 ?_; simp only [List.length_map, List.length_cons, List.length_nil, List.length_append]; omega) | (refine lt1000 ?_; omega))
local macro_rules | `(tactic| walk_at "ix") => `(tactic| first | rfl | with_reducible assumption)
local macro_rules | `(tactic| walk_at "rg") => `(tactic| exact RgOk.of_le (by omega) (by omega) (by omega) (by omega))
local macro_rules | `(tactic| walk_at "sp") => `(tactic| fail "sp")
local macro_rules | `(tactic| walk_at "cl") => `(tactic| with_reducible assumption)
local macro_rules | `(tactic| walk_at "lk") => `(tactic| with_reducible assumption)
local macro_rules | `(tactic| walk_at "it") => `(tactic| first | rfl | with_reducible assumption | exact atI_nat (by with_reducible assumption))
local macro_rules | `(tactic| walk_at "g1") => `(tactic| first
  | (with_reducible apply g_var); (focus rfl)
  | with_reducible apply g_c
  | with_reducible apply g_seq
  | with_reducible apply g_asg
  | with_reducible apply gg_name
  | with_reducible apply g_op
  | with_reducible apply g_cons
  | with_reducible apply g_nil
  | with_reducible apply g_cb
  | with_reducible apply g_fld
  | ((with_reducible apply g_kFld); (focus walk_at "hp"); (focus walk_at "cl"); (focus walk_at "cl"); (focus walk_at "lk"))
  | with_reducible apply g_call
  | walk_at "sp"
  | with_reducible apply g_ret
  | with_reducible apply g_drop
  | with_reducible apply g_test
  | with_reducible apply g_B
  | with_reducible apply g_kTest
  | with_reducible apply g_ifS
  | with_reducible apply g_kIfST
  | with_reducible apply g_kIfSF
  | with_reducible apply g_add
  | with_reducible apply g_sub
  | with_reducible apply g_lt
  | with_reducible apply g_le
  | with_reducible apply g_gt
  | with_reducible apply g_ge
  | with_reducible apply g_eqI
  | with_reducible apply g_neI
  | ((with_reducible apply g_mod); (focus first | decide | omega))
  | ((with_reducible apply g_mul); (focus first | (left; constructor <;> omega) | (right; constructor <;> omega)))
  | ((with_reducible apply g_fdiv); (focus (constructor <;> omega)))
  | ((with_reducible apply g_ixT); (focus walk_at "hp"); (focus walk_at "it"))
  | ((with_reducible apply g_ixL); (focus walk_at "hp"); (focus walk_at "it"))
  | with_reducible apply g_and
  | with_reducible apply g_or
  | with_reducible apply g_not
  | with_reducible apply g_kNotT
  | with_reducible apply g_kNotF
  | with_reducible apply g_if
  | with_reducible apply g_kAndT
  | with_reducible apply g_kAndF
  | with_reducible apply g_kOrT
  | with_reducible apply g_kOrF
  | with_reducible apply g_kIfT
  | with_reducible apply g_kIfF
  | with_reducible apply g_next
  | with_reducible apply g_andV
  | with_reducible apply g_orV
  | with_reducible apply g_notV
  | with_reducible apply g_kNotV
  | with_reducible apply g_kAndVT
  | with_reducible apply g_kAndVF
  | with_reducible apply g_chain
  | with_reducible apply g_kChainT
  | with_reducible apply g_kChainF
  | with_reducible apply g_tup
  | with_reducible apply g_lst
  | ((with_reducible apply g_kT); (focus walk_at "sz"); intro _ _ _ _ _)
  | ((with_reducible apply g_kL); (focus walk_at "sz"); intro _ _ _ _ _)
  | with_reducible apply g_un
  | with_reducible apply g_neg
  | with_reducible apply g_meth
  | ((with_reducible apply g_kMeth); (focus walk_at "hp"); (focus walk_at "lk"))
  | with_reducible apply g_prop
  | ((with_reducible apply g_kProp); (focus walk_at "hp"))
  | with_reducible apply g_make
  | with_reducible apply g_par
  | with_reducible apply g_kPar
  | ((with_reducible apply g_lenLM); (focus walk_at "hp"))
  | ((with_reducible apply g_lenTM); (focus walk_at "hp"))
  | ((with_reducible apply g_lenL); (focus walk_at "hp"))
  | ((with_reducible apply g_lenT); (focus walk_at "hp"))
  | with_reducible apply g_int1
  | with_reducible apply g_max2
  | with_reducible apply g_min2
  | ((with_reducible apply g_listL); (focus walk_at "hp"); intro _ _ _ _ _)
  | ((with_reducible apply g_listT); (focus walk_at "hp"); intro _ _ _ _ _)
  | ((with_reducible apply g_tupL); (focus walk_at "hp"); intro _ _ _ _ _)
  | ((with_reducible apply g_sum); (focus walk_at "hp"))
  | with_reducible apply g_sfld
  | with_reducible apply g_sl
  | with_reducible apply g_nopart
  | with_reducible apply g_part
  | with_reducible apply g_kPart
  | with_reducible apply g_lstRg
  | with_reducible apply g_rg1
  | with_reducible apply g_kRg1
  | with_reducible apply g_bm
  | with_reducible apply gg_sub
  | ((with_reducible apply gg_tup); (focus walk_at "hp"); (focus rfl))
  | with_reducible apply gg_cons
  | with_reducible apply gg_nil
  | with_reducible apply g_forL
  | with_reducible apply g_forT
  | with_reducible apply g_forR1
  | with_reducible apply g_forR2
  | with_reducible apply g_forE
  | with_reducible apply g_forEL
  | ((with_reducible apply g_maxT); (focus walk_at "hp"); (focus walk_at "nn"))
  | ((with_reducible apply g_maxL); (focus walk_at "hp"); (focus walk_at "nn"))
  | ((with_reducible apply g_catA); (focus walk_at "hp"); (focus walk_at "hp"); (focus walk_at "sz"); intro _ _ _ _)
  | ((with_reducible apply g_slA); (focus walk_at "hp"); intro _ _ _ _)
  | ((with_reducible apply g_tupD); (focus walk_at "hp"); intro _ _ _ _ _)
  | ((with_reducible apply g_setL); (focus walk_at "hp"); (focus walk_at "ix"); intro _ _ _)
  | ((with_reducible apply g_append); (focus walk_at "hp"); (focus walk_at "sl"); intro _ _ _)
  | ((with_reducible apply g_aug); (focus rfl))
  | with_reducible apply g_ipI
  | with_reducible apply g_retN
  | with_reducible apply g_lcR1
  | with_reducible apply g_lcR2
  | with_reducible apply g_lcL
  | with_reducible apply g_lcU
  | with_reducible apply g_lcN
  | ((with_reducible apply g_kLcG); (focus rfl))
  | with_reducible apply g_yes
  | with_reducible apply g_kLcTT
  | with_reducible apply g_kLcTF
  | ((with_reducible apply g_kLcE); (focus walk_at "hp"); (focus walk_at "sl"); intro _ _ _)
  | ((with_reducible apply g_pow); (focus (constructor <;> (try constructor) <;> decide)))
  | ((with_reducible apply g_kLRg); (focus walk_at "rg"); intro _ _ _ _ _)
  | ((with_reducible apply g_cat); (focus walk_at "hp"); (focus walk_at "hp"); (focus walk_at "sz"); intro _ _ _ _ _)
  | ((with_reducible apply g_slL); (focus walk_at "hp"); intro _ _ _ _ _)
  | with_reducible apply g_bmT
  | with_reducible apply g_break
  | with_reducible apply g_cont)
local macro_rules | `(tactic| walk_at "g0") => `(tactic| try dsimp only [L2.cxOf, L2.Cx.nox, L2.Cx.wish])
local macro_rules | `(tactic| walk_at "yn") => `(tactic| first
  | ((with_reducible apply y_kIfS); (focus walk_at "tr"))
  | ((with_reducible apply n_kIfS); (focus walk_at "tr"))
  | ((with_reducible apply y_kOr); (focus walk_at "tr"))
  | ((with_reducible apply n_kOr); (focus walk_at "tr"))
  | ((with_reducible apply y_kAnd); (focus walk_at "tr"))
  | ((with_reducible apply n_kAnd); (focus walk_at "tr"))
  | ((with_reducible apply y_kNot); (focus walk_at "tr"))
  | ((with_reducible apply n_kNot); (focus walk_at "tr"))
  | ((with_reducible apply y_kIf); (focus walk_at "tr"))
  | ((with_reducible apply n_kIf); (focus walk_at "tr"))
  | ((with_reducible apply y_kAndV); (focus walk_at "tr"))
  | ((with_reducible apply n_kAndV); (focus walk_at "tr"))
  | ((with_reducible apply y_kOrV); (focus walk_at "tr"))
  | ((with_reducible apply n_kOrV); (focus walk_at "tr"))
  | ((with_reducible apply y_kChain); (focus walk_at "tr"))
  | ((with_reducible apply n_kChain); (focus walk_at "tr"))
  | ((with_reducible apply y_kLcT); (focus walk_at "tr"))
  | ((with_reducible apply n_kLcT); (focus walk_at "tr"))
  | ((with_reducible apply y_kWh); (focus walk_at "tr"))
  | ((with_reducible apply n_kWh); (focus walk_at "tr")))
local macro_rules | `(tactic| walk_at "go") => `(tactic| repeat (first | walk_at "g1" | walk_at "yn"))

/-! ### rings as data -/
structure RingOk (ds hs : List Int) : Prop where
  two : 2 ≤ ds.length
  eight : ds.length ≤ 8
  len : hs.length = ds.length
  dd : ∀ d ∈ ds, 1 ≤ d ∧ d ≤ 30
  hh : ∀ h ∈ hs, 0 ≤ h ∧ h ≤ 12
  one : 1 ≤ hs.sum
  twelve : hs.sum ≤ 12
def rf (a b : Addr) (B : Int) : List (Str × V) := [("spans", .ref a), ("heaps", .ref b), ("total", .int B)]
theorem s_sh : ¬ ("spans" : Str) = "heaps" := by decide +kernel
theorem s_st : ¬ ("spans" : Str) = "total" := by decide +kernel
theorem s_ht : ¬ ("heaps" : Str) = "total" := by decide +kernel
theorem s_hs : ¬ ("heaps" : Str) = "spans" := by decide +kernel
theorem rf_eq (a b : Addr) (B : Int) : putF "total" (.int B) (putF "heaps" (.ref b) (putF "spans" (.ref a) [])) = rf a b B := by
  show (if ("spans" : Str) = "total" then _ else _) = _
  unfold rf
  have e1 : putF "heaps" (.ref b) [(("spans" : Str), V.ref a)] = [(("spans" : Str), V.ref a), (("heaps" : Str), V.ref b)] := by
    show (if ("spans" : Str) = "heaps" then _ else _) = _
    rw [if_neg s_sh]
    rfl
  show putF "total" (.int B) (putF "heaps" (.ref b) [(("spans" : Str), V.ref a)]) = _
  rw [e1]
  show (if ("spans" : Str) = "total" then _ else (("spans" : Str), V.ref a) :: (if ("heaps" : Str) = "total" then _ else _)) = _
  rw [if_neg s_st, if_neg s_ht]
  rfl
theorem rf_look (a b : Addr) (B : Int) (f : Str) : (rf a b B).lookup f = if f = "total" then some (.int B) else if f = "heaps" then some (.ref b) else if f = "spans" then some (.ref a) else none := by
  rw [← rf_eq, lookup_putF, lookup_putF, lookup_putF]
  rfl
theorem rf_spans {a b : Addr} {B : Int} : (rf a b B).lookup ("spans" : Str) = some (.ref a) := by rw [rf_look, if_neg s_st, if_neg s_sh, if_pos rfl]
theorem rf_heaps {a b : Addr} {B : Int} : (rf a b B).lookup ("heaps" : Str) = some (.ref b) := by rw [rf_look, if_neg s_ht, if_pos rfl]
theorem rf_total {a b : Addr} {B : Int} : (rf a b B).lookup ("total" : Str) = some (.int B) := by rw [rf_look, if_pos rfl]
theorem rf_no {a b : Addr} {B : Int} {f : Str} (h1 : ¬ f = "total") (h2 : ¬ f = "heaps") (h3 : ¬ f = "spans") : (rf a b B).lookup f = none := by rw [rf_look, if_neg h1, if_neg h2, if_neg h3]
theorem rf_nr {a b : Addr} {B : Int} : (rf a b B).lookup ("need_reader" : Str) = none := rf_no (by decide +kernel) (by decide +kernel) (by decide +kernel)
theorem rf_wd {a b : Addr} {B : Int} : (rf a b B).lookup ("with_days" : Str) = none := rf_no (by decide +kernel) (by decide +kernel) (by decide +kernel)
structure RingC (K : PySem.W.Frag) (C : Addr) : Prop where
  cl : Cls K C
  nS : NoAttr K C "spans"
  nH : NoAttr K C "heaps"
  nT : NoAttr K C "total"
/-- the ring at r -/
structure RingIn (K : PySem.W.Frag) (C : Addr) (H : Hp) (r a b : Addr) (ds hs : List Int) : Prop where
  obj : ∃ dx, H r = some (.ins C dx (rf a b hs.sum))
  sp : SqT K H a (ds.map V.int)
  hp : SqT K H b (hs.map V.int)
  ok : RingOk ds hs
def RingAt (K : PySem.W.Frag) (C : Addr) (H : Hp) (r : Addr) (ds hs : List Int) : Prop := ∃ a b, RingIn K C H r a b ds hs
section
variable {K : PySem.W.Frag} {C : Addr} {H H' : Hp} {r a b l : Addr} {ds hs : List Int} {ys : List V}
theorem RingIn.ex (e : Ex H H') (R : RingIn K C H r a b ds hs) : RingIn K C H' r a b ds hs :=
  ⟨let ⟨dx, h⟩ := R.obj; ⟨dx, e _ _ h⟩, ex_t e R.sp, ex_t e R.hp, R.ok⟩
theorem RingIn.exb (e : Exb l H H') (hl : H l = some (.lst ys)) (R : RingIn K C H r a b ds hs) : RingIn K C H' r a b ds hs :=
  ⟨let ⟨dx, h⟩ := R.obj; ⟨dx, exb_ins e hl h⟩, exb_t e hl R.sp, exb_t e hl R.hp, R.ok⟩
theorem RingAt.ex (e : Ex H H') (R : RingAt K C H r ds hs) : RingAt K C H' r ds hs := let ⟨a, b, R⟩ := R; ⟨a, b, R.ex e⟩
theorem RingAt.exb (e : Exb l H H') (hl : H l = some (.lst ys)) (R : RingAt K C H r ds hs) : RingAt K C H' r ds hs := let ⟨a, b, R⟩ := R; ⟨a, b, R.exb e hl⟩
end
local macro_rules | `(tactic| walk_at "hp") => `(tactic| first
  | ((with_reducible apply RingIn.ex); (focus walk_at "as"); walk_at "hp")
  | ((with_reducible apply RingAt.ex); (focus walk_at "as"); walk_at "hp")
  | ((with_reducible apply RingIn.exb); (focus walk_at "as"); (focus walk_at "hp"); walk_at "hp")
  | ((with_reducible apply RingAt.exb); (focus walk_at "as"); (focus walk_at "hp"); walk_at "hp"))
local macro_rules | `(tactic| walk_at "lk") => `(tactic| first | with_reducible exact rf_spans | with_reducible exact rf_heaps | with_reducible exact rf_total | with_reducible exact rf_nr | with_reducible exact rf_wd)
/-! ### what isinstance says of plain values -/
def isI : V → Bool
  | .int _ => true
  | .bl _ => true
  | _ => false
def isB : V → Bool
  | .bl _ => true
  | _ => false
def inB (lo hi : Int) : V → Bool
  | .int i => decide (lo ≤ i) && decide (i ≤ hi)
  | _ => false
inductive Pl (K : PySem.W.Frag) (H : Hp) : V → Prop where
  | non : Pl K H .non
  | bl (b : Bool) : Pl K H (.bl b)
  | int (i : Int) : Pl K H (.int i)
  | str (x : Str) : Pl K H (.str x)
  | lst {a : Addr} {xs : List V} (h : H a = some (.lst xs)) : Pl K H (.ref a)
  | tup {a : Addr} {xs : List V} (h : H a = some (.tup xs)) : Pl K H (.ref a)
theorem kit_ii : kitB "int" "int" = some true := by decide +kernel
theorem kit_ib : kitB "int" "bool" = some false := by decide +kernel
theorem kit_bi : kitB "bool" "int" = some true := by decide +kernel
theorem kit_bb : kitB "bool" "bool" = some true := by decide +kernel
theorem kit_si : kitB "str" "int" = some false := by decide +kernel
theorem kit_sb : kitB "str" "bool" = some false := by decide +kernel
theorem kit_ni : kitB "NoneType" "int" = some false := by decide +kernel
theorem kit_nb : kitB "NoneType" "bool" = some false := by decide +kernel
theorem kit_li : kitB "list" "int" = some false := by decide +kernel
theorem kit_lb : kitB "list" "bool" = some false := by decide +kernel
theorem kit_ti : kitB "tuple" "int" = some false := by decide +kernel
theorem kit_tb : kitB "tuple" "bool" = some false := by decide +kernel
theorem kit_tt : kitB "tuple" "tuple" = some true := by decide +kernel
theorem kit_ll : kitB "list" "list" = some true := by decide +kernel
theorem Pl.ty {K : PySem.W.Frag} {H : Hp} {v : V} (h : Pl K H v) : ∃ u, TyX K H v u ∧ PySem.W.kitOne K u (.type "int") = some (isI v) ∧ PySem.W.kitOne K u (.type "bool") = some (isB v) := by
  cases h with
  | non => exact ⟨_, .base .non, kit_ty kit_ni, kit_ty kit_nb⟩
  | bl b => exact ⟨_, .base (.bl b), kit_ty kit_bi, kit_ty kit_bb⟩
  | int i => exact ⟨_, .base (.int i), kit_ty kit_ii, kit_ty kit_ib⟩
  | str x => exact ⟨_, .base (.str x), kit_ty kit_si, kit_ty kit_sb⟩
  | lst h => exact ⟨_, .base (.lst h), kit_ty kit_li, kit_ty kit_lb⟩
  | tup h => exact ⟨_, .base (.tup h), kit_ty kit_ti, kit_ty kit_tb⟩
theorem sqT_ty {K : PySem.W.Frag} {H : Hp} {a : Addr} {xs : List V} (h : SqT K H a xs) : TyX K H (.ref a) (.type "tuple") := by
  rcases h with (h | ⟨o, h⟩) | ⟨o, its, n, h, hc, _⟩
  · exact .base (.tup h)
  · exact .fTuple h
  · exact .kTuple h hc
theorem sqL_ty {K : PySem.W.Frag} {H : Hp} {a : Addr} {xs : List V} (h : SqL K H a xs) : TyX K H (.ref a) (.type "list") := by
  rcases h with (h | ⟨o, h⟩) | ⟨o, its, n, h, hc, _⟩
  · exact .base (.lst h)
  · exact .base (.frz h)
  · exact .kList h hc
theorem g_isiTup {K : PySem.W.Frag} {H : Hp} {a : Addr} {xs : List V} {Q : VK} (h : SqT K H a xs) (q : Q (.bl true) H) : rIsi K [.ref a, .ty "tuple"] H Q := g_isi (.ty _) (sqT_ty h) (kit_ty kit_tt) q
theorem g_isiLst {K : PySem.W.Frag} {H : Hp} {a : Addr} {xs : List V} {Q : VK} (h : SqL K H a xs) (q : Q (.bl true) H) : rIsi K [.ref a, .ty "list"] H Q := g_isi (.ty _) (sqL_ty h) (kit_ty kit_ll) q
local macro_rules | `(tactic| walk_at "sp") => `(tactic| first
  | ((with_reducible apply g_isiTup); (focus walk_at "hp"))
  | ((with_reducible apply g_isiLst); (focus walk_at "hp")))
section
variable {P : Program} {w : World} {K : PySem.W.Frag} {mg : Str → Option Value} {base : Heap} {C : Addr}
/-! ### is_integer, check_number -/
def sp_is_integer (K : PySem.W.Frag) : Sp := fun vs H Q _ => ∃ v lo hi, vs = [v, .int lo, .int hi] ∧ Pl K H v ∧ Q (.bl (inB lo hi v)) H
theorem ok_is_integer (Z : Blt mg) (G : GFun K mg "is_integer" s_is_integer) : Df P w K mg base 1 "is_integer" ["value", "low", "high"] (sp_is_integer K) := by
  refine Df.of G sc_is_integer b_is_integer (fun vs H Q E h => ?_) (fun f cdv A outer s H vs Q E hr h => ?_)
  · obtain ⟨v, lo, hi, rfl, _⟩ := h
    rfl
  · obtain ⟨v, lo, hi, rfl, hp, q⟩ := h
    obtain ⟨u, ty, k1, k2⟩ := hp.ty
    refine ⟨_, PSs.nox (pss_one (ps_ret (pe_and (pe_callB call_isi (by rfl) Z.zisinstance (by decide +kernel) (pa_cons (pv 0) (pa_cons (pe_bltn rfl Z.zint (v := .ty "int") (by decide +kernel) rfl) pa_nil))) (pe_and (pe_not (pe_callB call_isi (by rfl) Z.zisinstance (by decide +kernel) (pa_cons (pv 0) (pa_cons (pe_bltn rfl Z.zbool (v := .ty "bool") (by decide +kernel) rfl) pa_nil)))) (pe_one (pe_chain op_le op_le (pv 1) (pv 0) (pv 2))))))), ?_⟩
    walk_at "g0"
    walk_at "go"
    refine g_isi (.ty _) ty k1 ?_
    cases v with
    | int i =>
      refine g_kAndVT ?_
      walk_at "go"
      refine g_isi (.ty _) ty k2 ?_
      walk_at "go"
      refine g_kChain (fun h2 => ?_) (fun h2 => ?_)
      · walk_at "go"
        show Q _ _
        have e : inB lo hi (.int i) = decide (i ≤ hi) := by simp [inB, h2]
        rw [e] at q
        exact q
      · have e : inB lo hi (.int i) = false := by simp [inB, h2]
        rw [e] at q
        exact q
    | bl b =>
      refine g_kAndVT ?_
      walk_at "go"
      refine g_isi (.ty _) ty k2 ?_
      walk_at "go"
      exact q
    | _ => exact g_kAndVF q
theorem g_isint {H : Hp} {Q : VK} {E : XK} {i lo hi : Int} (h1 : lo ≤ i) (h2 : i ≤ hi) (q : Q (.bl true) H) : sp_is_integer K [.int i, .int lo, .int hi] H Q E :=
  ⟨_, lo, hi, rfl, .int i, by
    show Q (.bl (decide (lo ≤ i) && decide (i ≤ hi))) H
    rw [decide_eq_true h1, decide_eq_true h2]
    exact q⟩
local macro_rules | `(tactic| walk_at "sp") => `(tactic| ((with_reducible apply g_isint); (focus omega); (focus omega)))
def sp_check_number : Sp := fun vs H Q _ => ∃ i lo hi, vs = [.int i, .int lo, .int hi] ∧ (lo ≤ i ∧ i ≤ hi) ∧ Q .non H
theorem ok_check_number (Z : Blt mg) (D_is_integer : Df P w K mg base 1 "is_integer" ["value", "low", "high"] (sp_is_integer K)) (G : GFun K mg "check_number" s_check_number) : Df P w K mg base 2 "check_number" ["number", "low", "high"] sp_check_number := by
  refine Df.of G sc_check_number b_check_number (fun vs H Q E h => ?_) (fun f cdv A outer s H vs Q E hr h => ?_)
  · obtain ⟨i, lo, hi, rfl, _⟩ := h
    rfl
  · obtain ⟨i, lo, hi, rfl, ⟨h1, h2⟩, q⟩ := h
    refine ⟨_, PSs.nox (pss_one (ps_if (pt_not (pt_val (pg D_is_integer hr (pa_cons (pv 0) (pa_cons (pv 1) (pa_cons (pv 2) pa_nil)))))) (pss_one ps_never) pss_nil)), ?_⟩
    walk_at "g0"
    walk_at "go"
    exact q
theorem g_checkn {H : Hp} {Q : VK} {E : XK} {i lo hi : Int} (h1 : lo ≤ i) (h2 : i ≤ hi) (q : Q .non H) : sp_check_number [.int i, .int lo, .int hi] H Q E := ⟨i, lo, hi, rfl, ⟨h1, h2⟩, q⟩
local macro_rules | `(tactic| walk_at "sp") => `(tactic| ((with_reducible apply g_checkn); (focus omega); (focus omega)))
/-! ### check_days, check_starts -/
def sp_check_days (K : PySem.W.Frag) : Sp := fun vs H Q _ => ∃ (a : Addr) (ds : List Int), vs = [.ref a] ∧ SqT K H a (ds.map V.int) ∧ (2 ≤ ds.length ∧ ds.length ≤ 8) ∧ (∀ d ∈ ds, 1 ≤ d ∧ d ≤ 30) ∧ ∀ H', Ex H H' → Q .non H'
theorem at_int {ns : List Int} {i : Nat} {x : V} (h : (ns.map V.int)[i]? = some x) : ∃ n, x = .int n ∧ ns[i]? = some n ∧ n ∈ ns ∧ i < ns.length := by
  rw [List.getElem?_map] at h
  cases e : ns[i]? with
  | none => rw [e] at h; cases h
  | some n =>
    rw [e] at h
    exact ⟨n, (Option.some.inj h).symm, rfl, List.mem_of_getElem? e, (List.getElem?_eq_some_iff.mp e).1⟩
theorem ok_check_days (Z : Blt mg) (c_MAX_READERS : ∃ t, mg "MAX_READERS" = some (.int 8 t)) (c_MAX_DAYS : ∃ t, mg "MAX_DAYS" = some (.int 30 t))
    (D_is_integer : Df P w K mg base 1 "is_integer" ["value", "low", "high"] (sp_is_integer K)) (G : GFun K mg "check_days" s_check_days) : Df P w K mg base 2 "check_days" ["days"] (sp_check_days K) := by
  refine Df.of G sc_check_days b_check_days (fun vs H Q E h => ?_) (fun f cdv A outer s H vs Q E hr h => ?_)
  · obtain ⟨a, ds, rfl, _⟩ := h
    rfl
  · obtain ⟨a, ds, rfl, hS, ⟨h2, h8⟩, hd, q⟩ := h
    refine ⟨_, PSs.nox (pss_cons (ps_if (pt_not (pt_val (pe_callB call_isi (by rfl) Z.zisinstance (by decide +kernel) (pa_cons (pv 0) (pa_cons (pe_bltn rfl Z.ztuple (v := .ty "tuple") (by decide +kernel) rfl) pa_nil))))) (pss_one ps_never) pss_nil)
      (pss_cons (ps_for PassesOwn.never rfl (pi_enumT (by rfl) Z.zenumerate (pa_cons (pv 0) pa_nil)) (pg_tup (by rfl) (pgs_cons (pg_name (i := 1) sc_check_days.nd rfl (by first | exact Or.inl rfl | exact Or.inr rfl)) (pgs_cons (pg_name (i := 2) sc_check_days.nd rfl (by first | exact Or.inl rfl | exact Or.inr rfl)) pgs_nil))) (pss_one (ps_if (PW.pt (pw_or (pt_cmpR op_eq (pv 1) (pint c_MAX_READERS) (nomark _)) (pw_or1 (pt_not (pt_val (pg D_is_integer hr (pa_cons (pv 2) (pa_cons pe_int (pa_cons (pint c_MAX_DAYS) pa_nil))))))))) (pss_one ps_never) pss_nil)))
      (pss_one (ps_if (pt_cmpR op_lt (pe_callB c_len (by rfl) Z.zlen PySem.boot_len (pa_cons (pv 0) pa_nil)) pe_int (nomark _)) (pss_one ps_never) pss_nil)))), ?_⟩
    walk_at "g0"
    walk_at "go"
    refine g_kForE hS (fun i σ H' => ∃ v1 v2, σ = [some (.ref a), v1, v2] ∧ Ex H H') ⟨none, none, rfl, Ex.refl _⟩ (fun i σ H' _ ⟨_, _, _, e⟩ => ex_t e hS) ?_ ?_
    · rintro i x σ H' T H2 hx ⟨v1, v2, rfl, e1⟩ e2 nT hT
      obtain ⟨n, rfl, hn, hm, hi⟩ := at_int hx
      have := hd n hm
      walk_at "go"
      exact ⟨_, _, rfl, e1.trans e2⟩
    · rintro σ H' ⟨v1, v2, rfl, e1⟩
      walk_at "go"
      exact q _ e1
theorem g_checkd {H : Hp} {Q : VK} {E : XK} {a : Addr} {ds : List Int} (h : SqT K H a (ds.map V.int)) (h2 : 2 ≤ ds.length) (h8 : ds.length ≤ 8) (hd : ∀ d ∈ ds, 1 ≤ d ∧ d ≤ 30) (q : ∀ H', Ex H H' → Q .non H') : sp_check_days K [.ref a] H Q E := ⟨a, ds, rfl, h, ⟨h2, h8⟩, hd, q⟩
def sp_check_starts (K : PySem.W.Frag) : Sp := fun vs H Q _ => ∃ (a b : Addr) (ds hs : List Int), vs = [.ref a, .ref b] ∧ SqT K H a (ds.map V.int) ∧ SqT K H b (hs.map V.int) ∧ RingOk ds hs ∧ ∀ H', Ex H H' → Q .non H'
theorem ok_check_starts (Z : Blt mg) (c_MAX_BOOKS : ∃ t, mg "MAX_BOOKS" = some (.int 12 t))
    (D_is_integer : Df P w K mg base 1 "is_integer" ["value", "low", "high"] (sp_is_integer K)) (G : GFun K mg "check_starts" s_check_starts) : Df P w K mg base 2 "check_starts" ["days", "starts"] (sp_check_starts K) := by
  refine Df.of G sc_check_starts b_check_starts (fun vs H Q E h => ?_) (fun f cdv A outer s H vs Q E hr h => ?_)
  · obtain ⟨a, b, ds, hs, rfl, _⟩ := h
    rfl
  · obtain ⟨a, b, ds, hs, rfl, hS, hT, R, q⟩ := h
    have r1 := R.len
    have r2 := R.one
    have r3 := R.twelve
    refine ⟨_, PSs.nox (pss_cons (ps_if (pt_not (pt_val (pe_callB call_isi (by rfl) Z.zisinstance (by decide +kernel) (pa_cons (pv 1) (pa_cons (pe_bltn rfl Z.ztuple (v := .ty "tuple") (by decide +kernel) rfl) pa_nil))))) (pss_one ps_never) pss_nil)
      (pss_cons (ps_for PassesOwn.never rfl (pi_enumT (by rfl) Z.zenumerate (pa_cons (pv 1) pa_nil)) (pg_tup (by rfl) (pgs_cons (pg_name (i := 2) sc_check_starts.nd rfl (by first | exact Or.inl rfl | exact Or.inr rfl)) (pgs_cons (pg_name (i := 3) sc_check_starts.nd rfl (by first | exact Or.inl rfl | exact Or.inr rfl)) pgs_nil))) (pss_one (ps_if (PW.pt (pw_or (pt_cmpR op_eq (pv 2) (pe_callB c_len (by rfl) Z.zlen PySem.boot_len (pa_cons (pv 0) pa_nil)) (nomark _)) (pw_or1 (pt_not (pt_val (pg D_is_integer hr (pa_cons (pv 3) (pa_cons pe_int (pa_cons (pint c_MAX_BOOKS) pa_nil))))))))) (pss_one ps_never) pss_nil)))
      (pss_cons (ps_if (pt_cmpR op_lt (pe_callB c_len (by rfl) Z.zlen PySem.boot_len (pa_cons (pv 1) pa_nil)) (pe_callB c_len (by rfl) Z.zlen PySem.boot_len (pa_cons (pv 0) pa_nil)) (nomark _)) (pss_one ps_never) pss_nil)
      (pss_one (ps_if (pt_not (pt_chain op_le op_le pe_int (pe_callB (cr_sum rfl) (by rfl) Z.zsum (by decide +kernel) (pa_cons (pe_callTy c_list_of (by rfl) Z.zlist (by decide +kernel) (pa_cons (pv 1) pa_nil)) pa_nil)) (pint c_MAX_BOOKS))) (pss_one ps_never) pss_nil))))), ?_⟩
    walk_at "g0"
    walk_at "go"
    refine g_kForE hT (fun i σ H' => ∃ v1 v2, σ = [some (.ref a), some (.ref b), v1, v2] ∧ Ex H H') ⟨none, none, rfl, Ex.refl _⟩ (fun i σ H' _ ⟨_, _, _, e⟩ => ex_t e hT) ?_ ?_
    · rintro i x σ H' T H2 hx ⟨v1, v2, rfl, e1⟩ e2 nT hT2
      obtain ⟨n, rfl, hn, hm, hi⟩ := at_int hx
      have := R.hh n hm
      walk_at "go"
      exact ⟨_, _, rfl, e1.trans e2⟩
    · rintro σ H' ⟨v1, v2, rfl, e1⟩
      walk_at "go"
      rename_i e3 _
      exact q _ (e1.trans e3)
theorem g_checks {H : Hp} {Q : VK} {E : XK} {a b : Addr} {ds hs : List Int} (h : SqT K H a (ds.map V.int)) (h2 : SqT K H b (hs.map V.int)) (R : RingOk ds hs) (q : ∀ H', Ex H H' → Q .non H') : sp_check_starts K [.ref a, .ref b] H Q E := ⟨a, b, ds, hs, rfl, h, h2, R, q⟩
/-! ### lowest_terms, pace_of -/
/-- a fraction in lowest terms -/
def low (a b : Int) : Int × Int := (a / (Int.gcd a b : Int), b / (Int.gcd a b : Int))
def RTup (K : PySem.W.Frag) (H : Hp) (xs : List V) (Q : VK) : Prop := ∀ p H', Ex H H' → SqT K H' p xs → Q (.ref p) H'
def sp_lowest_terms (K : PySem.W.Frag) : Sp := fun vs H Q _ => ∃ a b : Int, vs = [.int a, .int b] ∧ (0 < a ∧ 0 < b ∧ b < 1073741824) ∧ RTup K H [.int (low a b).1, .int (low a b).2] Q
theorem gcd_step (a b : Int) : Int.gcd b (a % b) = Int.gcd a b := by
  rw [Int.gcd_comm a b, Int.emod_def, Int.gcd_sub_mul_left_right]
theorem ok_lowest_terms (Z : Blt mg) (G : GFun K mg "lowest_terms" s_lowest_terms) : Df P w K mg base 1 "lowest_terms" ["one", "other"] (sp_lowest_terms K) := by
  refine Df.of G sc_lowest_terms b_lowest_terms (fun vs H Q E h => ?_) (fun f cdv A outer s H vs Q E hr h => ?_)
  · obtain ⟨a, b, rfl, _⟩ := h
    rfl
  · obtain ⟨a, b, rfl, ⟨h1, h2, h3⟩, q⟩ := h
    refine ⟨_, PSs.nox (pss_cons (ps_par (i := 2) (j := 3) rfl sc_lowest_terms.nd rfl rfl (by decide) rfl rfl (pa_cons (pv 0) (pa_cons (pv 1) pa_nil)) (by rfl))
      (pss_cons (ps_while PassesOwn.never (pt_cmpR op_gt (pv 3) pe_int (nomark _)) (pss_one (ps_par (i := 2) (j := 3) rfl sc_lowest_terms.nd rfl rfl (by decide) rfl rfl (pa_cons (pv 3) (pa_cons (pe_op op_mod (pe_callTy c_int1 (by rfl) Z.zint (by decide +kernel) (pa_cons (pv 2) pa_nil)) (pe_callTy c_int1 (by rfl) Z.zint (by decide +kernel) (pa_cons (pv 3) pa_nil))) pa_nil)) (by rfl))))
      (pss_one (ps_ret (pe_tup (pa_cons (pe_op op_fdiv (pv 0) (pv 2)) (pa_cons (pe_op op_fdiv (pv 1) (pv 2)) pa_nil))))))), ?_⟩
    walk_at "g0"
    walk_at "go"
    refine g_while (fun m σ H' => ∃ x y : Int, σ = [some (.int a), some (.int b), some (.int x), some (.int y)] ∧ H' = H ∧ 0 < x ∧ 0 ≤ y ∧ Int.gcd x y = Int.gcd a b ∧ m = y.toNat) b.toNat ⟨a, b, rfl, rfl, h1, by omega, rfl, rfl⟩ ?_
    rintro m σ H' ⟨x, y, rfl, rfl, hx, hy, hg, rfl⟩
    walk_at "go"
    refine g_kWh (fun h => ?_) (fun h => ?_)
    · have h := of_decide_eq_true h
      walk_at "go"
      have h4 := Int.emod_lt_of_pos x h
      have h5 := Int.emod_nonneg x (show y ≠ 0 by omega)
      exact ⟨(x % y).toNat, by omega, y, x % y, rfl, rfl, h, h5, by rw [gcd_step x y, hg], rfl⟩
    · have h := of_decide_eq_false h
      have e : y = 0 := by omega
      subst e
      have ex : x = (Int.gcd a b : Int) := by
        rw [← hg, Int.gcd_zero_right]
        omega
      have hle : (Int.gcd a b : Int) ≤ b := Int.le_of_dvd h2 (Int.gcd_dvd_right ..)
      walk_at "go"
      rename_i p H2 _ e2 hp
      refine q p H2 e2 (SqT.of ?_)
      rw [hp, ex]
      rfl
theorem g_lowest {H : Hp} {Q : VK} {E : XK} {a b : Int} (h1 : 0 < a) (h2 : 0 < b) (h3 : b < 1073741824) (q : RTup K H [.int (low a b).1, .int (low a b).2] Q) : sp_lowest_terms K [.int a, .int b] H Q E := ⟨a, b, rfl, ⟨h1, h2, h3⟩, q⟩
/-- the pace -/
def paceN (ds : List Int) (B : Int) : Int × Int := if ds.sum ≤ mx ds * B then (mx ds, 1) else low ds.sum B
def PaceV (ds : List Int) (B : Int) : List V := [.int (paceN ds B).1, .int (paceN ds B).2]
structure DaysOk (ds : List Int) : Prop where
  two : 2 ≤ ds.length
  eight : ds.length ≤ 8
  dd : ∀ d ∈ ds, 1 ≤ d ∧ d ≤ 30
theorem DaysOk.ne {ds : List Int} (h : DaysOk ds) : ds ≠ [] := fun e => by
  have := h.two
  rw [e] at this
  simp at this
theorem DaysOk.mx {ds : List Int} (h : DaysOk ds) : 1 ≤ mx ds ∧ mx ds ≤ 30 := h.dd _ (mx_mem h.ne)
theorem sum_le {ds : List Int} {lo hi : Int} (h : ∀ d ∈ ds, lo ≤ d ∧ d ≤ hi) : lo * ds.length ≤ ds.sum ∧ ds.sum ≤ hi * ds.length := by
  induction ds with
  | nil => simp
  | cons x r ih =>
    have h1 := h x List.mem_cons_self
    have h2 := ih fun d hd => h d (List.mem_cons_of_mem _ hd)
    rw [List.sum_cons, List.length_cons]
    have e1 : lo * ((r.length + 1 : Nat) : Int) = lo * r.length + lo := by
      rw [Int.natCast_add, Int.mul_add]
      simp
    have e2 : hi * ((r.length + 1 : Nat) : Int) = hi * r.length + hi := by
      rw [Int.natCast_add, Int.mul_add]
      simp
    omega
theorem DaysOk.sum {ds : List Int} (h : DaysOk ds) : 2 ≤ ds.sum ∧ ds.sum ≤ 240 := by
  have h1 := sum_le h.dd
  have h2 := h.two
  have h3 := h.eight
  omega
theorem RingOk.days {ds hs : List Int} (h : RingOk ds hs) : DaysOk ds := ⟨h.two, h.eight, h.dd⟩
def sp_pace_of (K : PySem.W.Frag) : Sp := fun vs H Q _ => ∃ (a : Addr) (ds : List Int) (B : Int), vs = [.ref a, .int B] ∧ SqT K H a (ds.map V.int) ∧ DaysOk ds ∧ (1 ≤ B ∧ B ≤ 1000) ∧ RTup K H (PaceV ds B) Q
theorem ok_pace_of (Z : Blt mg) (D_lowest_terms : Df P w K mg base 1 "lowest_terms" ["one", "other"] (sp_lowest_terms K)) (G : GFun K mg "pace_of" s_pace_of) : Df P w K mg base 2 "pace_of" ["spans", "total"] (sp_pace_of K) := by
  refine Df.of G sc_pace_of b_pace_of (fun vs H Q E h => ?_) (fun f cdv A outer s H vs Q E hr h => ?_)
  · obtain ⟨a, ds, B, rfl, _⟩ := h
    rfl
  · obtain ⟨a, ds, B, rfl, hS, hd, ⟨b1, b2⟩, q⟩ := h
    have hne := hd.ne
    have hmx := hd.mx
    have hsm := hd.sum
    refine ⟨_, PSs.nox (pss_cons (ps_par (i := 2) (j := 3) rfl sc_pace_of.nd rfl rfl (by decide) rfl rfl (pa_cons (pe_callB (cr_maxT rfl hr.units) (by rfl) Z.zmax (by decide +kernel) (pa_cons (pv 0) pa_nil)) (pa_cons (pe_callB (cr_sum rfl) (by rfl) Z.zsum (by decide +kernel) (pa_cons (pe_callTy c_list_of (by rfl) Z.zlist (by decide +kernel) (pa_cons (pv 0) pa_nil)) pa_nil)) pa_nil)) (by rfl))
      (pss_one (ps_ret (pe_ifExp (pt_cmpR op_ge (pe_op op_mul (pv 2) (pv 1)) (pv 3) (nomark _)) (pe_tup (pa_cons (pv 2) (pa_cons pe_int pa_nil))) (pg D_lowest_terms hr (pa_cons (pv 3) (pa_cons (pv 1) pa_nil))))))), ?_⟩
    walk_at "g0"
    walk_at "go"
    rename_i l H1 _ e1 hl
    refine g_kIf (fun h => ?_) (fun h => ?_)
    · have h := of_decide_eq_true h
      walk_at "go"
      rename_i p H2 _ e2 hp
      refine q p H2 (e1.trans e2) (SqT.of ?_)
      rw [hp]
      unfold PaceV paceN
      rw [if_pos h]
    · have h := of_decide_eq_false h
      walk_at "go"
      refine ⟨ds.sum, B, rfl, ⟨by omega, by omega, by omega⟩, fun p H2 e2 hp => q p H2 (e1.trans e2) ?_⟩
      unfold PaceV paceN
      rw [if_neg h]
      exact hp
theorem g_paceof {H : Hp} {Q : VK} {E : XK} {a : Addr} {ds : List Int} {B : Int} (h : SqT K H a (ds.map V.int)) (hd : DaysOk ds) (hb : 1 ≤ B ∧ B ≤ 1000) (q : ∀ p H', Ex H H' → SqT K H' p (PaceV ds B) → Q (.ref p) H') : sp_pace_of K [.ref a, .int B] H Q E := ⟨a, ds, B, rfl, h, hd, hb, q⟩
/-! ### Ring -/
def sp_Ring_init (K : PySem.W.Frag) (C : Addr) : Sp := fun vs H Q _ => ∃ (x a b dx : Addr) (ds hs : List Int), vs = [.ref x, .ref a, .ref b] ∧ H x = some (.ins C dx []) ∧ SqT K H a (ds.map V.int) ∧ SqT K H b (hs.map V.int) ∧ RingOk ds hs ∧
  ∀ H', Exb x H H' → RingIn K C H' x a b ds hs → Q .non H'
theorem exb_ti {K : PySem.W.Frag} {H H' : Hp} {l a C dx : Addr} {xs : List V} {fs : List (Str × V)} (e : Exb l H H') (hl : H l = some (.ins C dx fs)) (h : SqT K H a xs) : SqT K H' a xs := by
  rcases h with (h | ⟨o, h⟩) | h
  · exact .inl (.inl (e _ _ (ne_of h hl (by intro z; cases z)) h))
  · exact .inl (.inr ⟨o, e _ _ (ne_of h hl (by intro z; cases z)) h⟩)
  · exact .inr h
theorem ok_Ring_init (Z : Blt mg) (R : RingC K C) (D_check_days : Df P w K mg base 2 "check_days" ["days"] (sp_check_days K)) (D_check_starts : Df P w K mg base 2 "check_starts" ["days", "starts"] (sp_check_starts K))
    (G : IFun K mg "Ring" C "Ring.__init__" s_Ring___init__) : If P w K mg base "Ring" C 3 ["self", "days", "starts"] (sp_Ring_init K C) := by
  refine If.of G sc_Ring___init__ b_Ring___init__ (fun vs H Q E h => ?_) (fun f cdv A outer s H vs Q E hr h => ?_)
  · obtain ⟨x, a, b, dx, ds, hs, rfl, _⟩ := h
    rfl
  · obtain ⟨x, a, b, dx, ds, hs, rfl, hx, hS, hT, O, q⟩ := h
    obtain ⟨cl_Ring, nS, nH, nT⟩ := R
    refine ⟨_, PSs.nox (pss_cons (ps_expr (pg D_check_days hr (pa_cons (pv 1) pa_nil)))
      (pss_cons (ps_expr (pg D_check_starts hr (pa_cons (pv 1) (pa_cons (pv 2) pa_nil))))
      (pss_cons (ps_fld (pv 0) (pv 1) rfl)
      (pss_cons (ps_fld (pv 0) (pv 2) rfl)
      (pss_one (ps_fld (pv 0) (pe_callB (cr_sum rfl) (by rfl) Z.zsum (by decide +kernel) (pa_cons (pe_callTy c_list_of (by rfl) Z.zlist (by decide +kernel) (pa_cons (pv 2) pa_nil)) pa_nil)) rfl)))))), ?_⟩
    walk_at "g0"
    walk_at "go"
    refine g_checkd hS O.two O.eight O.dd fun H1 e1 => ?_
    walk_at "go"
    refine g_checks (ex_t e1 hS) (ex_t e1 hT) O fun H2 e2 => ?_
    have hx2 : H2 x = some (.ins C dx []) := e2 _ _ (e1 _ _ hx)
    have hS2 := ex_t (e1.trans e2) hS
    have hT2 := ex_t (e1.trans e2) hT
    walk_at "go"
    refine g_kSFld hx2 cl_Ring nS (by decide) fun H3 e3 hx3 => ?_
    have hS3 := exb_ti e3 hx2 hS2
    have hT3 := exb_ti e3 hx2 hT2
    walk_at "go"
    refine g_kSFld hx3 cl_Ring nH (Nat.lt_of_le_of_lt (length_putF _ _ _) (by decide)) fun H4 e4 hx4 => ?_
    have hS4 := exb_ti e4 hx3 hS3
    have hT4 := exb_ti e4 hx3 hT3
    walk_at "go"
    rename_i l H5 _ e5 hl
    refine g_kSFld (e5 _ _ hx4) cl_Ring nT (Nat.lt_of_le_of_lt (length_putF _ _ _) (Nat.lt_of_le_of_lt (Nat.succ_le_succ (length_putF _ _ _)) (by decide))) fun H6 e6 hx6 => ?_
    have hS6 := exb_ti e6 (e5 _ _ hx4) (ex_t e5 hS4)
    have hT6 := exb_ti e6 (e5 _ _ hx4) (ex_t e5 hT4)
    refine q H6 ?_ ⟨⟨dx, by rw [hx6, ← rf_eq]⟩, hS6, hT6, O⟩
    exact ((((Exb.of (e1.trans e2)).trans e3).trans e4).trans (Exb.of e5)).trans e6
/-- Ring(a, b) -/
theorem g_mkRing {H : Hp} {Q : VK} {E : XK} {a b : Addr} {ds hs : List Int} (hS : SqT K H a (ds.map V.int)) (hT : SqT K H b (hs.map V.int)) (O : RingOk ds hs) (q : ∀ r H', H r = none → Ex H H' → RingIn K C H' r a b ds hs → Q (.ref r) H') :
    kMake C (sp_Ring_init K C) E Q [.ref a, .ref b] H := by
  intro x dx nx ndx ne
  have e1 : Ex H (upd (upd H dx (.own x)) x (.ins C dx [])) := fun c o h => by
    rw [upd_ne (ne_of_none h nx), upd_ne (ne_of_none h ndx)]
    exact h
  exact ⟨x, a, b, dx, ds, hs, rfl, upd_same, ex_t e1 hS, ex_t e1 hT, O, fun H' e2 R => ⟨rfl, q x H' nx (Exb.ex nx e1 e2) R⟩⟩
/-- properties -/
def sp_Ring_days (K : PySem.W.Frag) (C : Addr) : Sp := fun vs H Q _ => ∃ (r a b : Addr) (ds hs : List Int), vs = [.ref r] ∧ RingIn K C H r a b ds hs ∧ Q (.ref a) H
def sp_Ring_starts (K : PySem.W.Frag) (C : Addr) : Sp := fun vs H Q _ => ∃ (r a b : Addr) (ds hs : List Int), vs = [.ref r] ∧ RingIn K C H r a b ds hs ∧ Q (.ref b) H
def sp_Ring_books (K : PySem.W.Frag) (C : Addr) : Sp := fun vs H Q _ => ∃ (r a b : Addr) (ds hs : List Int), vs = [.ref r] ∧ RingIn K C H r a b ds hs ∧ Q (.int hs.sum) H
def sp_Ring_pace (K : PySem.W.Frag) (C : Addr) : Sp := fun vs H Q _ => ∃ (r a b : Addr) (ds hs : List Int), vs = [.ref r] ∧ RingIn K C H r a b ds hs ∧ RTup K H (PaceV ds hs.sum) Q
def sp_Ring_len (K : PySem.W.Frag) (C : Addr) : Sp := fun vs H Q _ => ∃ (r a b : Addr) (ds hs : List Int), vs = [.ref r] ∧ RingIn K C H r a b ds hs ∧ Q (.int (ds.length : Int)) H
theorem ok_Ring_books (Z : Blt mg) (R : RingC K C) (G : PFun K C "books" "Ring.books" s_Ring_books) : Pf P w K mg base C 1 "books" ["self"] (sp_Ring_books K C) := by
  refine Pf.of G sc_Ring_books b_Ring_books (fun vs H Q E h => ?_) (fun f cdv A outer s H vs Q E hr h => ?_)
  · obtain ⟨r, a, b, ds, hs, rfl, _⟩ := h
    rfl
  · obtain ⟨r, a, b, ds, hs, rfl, ⟨⟨dx, ho⟩, hS, hT, O⟩, q⟩ := h
    obtain ⟨cl_Ring, nS, nH, nT⟩ := R
    refine ⟨_, PSs.nox (pss_one (ps_ret (pe_fld (pv 0) rfl))), ?_⟩
    walk_at "g0"
    walk_at "go"
    exact q
theorem ok_Ring_pace (Z : Blt mg) (R : RingC K C) (D_pace_of : Df P w K mg base 2 "pace_of" ["spans", "total"] (sp_pace_of K)) (G : PFun K C "pace" "Ring.pace" s_Ring_pace) : Pf P w K mg base C 3 "pace" ["self"] (sp_Ring_pace K C) := by
  refine Pf.of G sc_Ring_pace b_Ring_pace (fun vs H Q E h => ?_) (fun f cdv A outer s H vs Q E hr h => ?_)
  · obtain ⟨r, a, b, ds, hs, rfl, _⟩ := h
    rfl
  · obtain ⟨r, a, b, ds, hs, rfl, ⟨⟨dx, ho⟩, hS, hT, O⟩, q⟩ := h
    obtain ⟨cl_Ring, nS, nH, nT⟩ := R
    have r2 := O.one
    have r3 := O.twelve
    refine ⟨_, PSs.nox (pss_one (ps_ret (pg D_pace_of hr (pa_cons (pe_fld (pv 0) rfl) (pa_cons (pe_fld (pv 0) rfl) pa_nil))))), ?_⟩
    walk_at "g0"
    walk_at "go"
    exact g_paceof hS O.days ⟨by omega, by omega⟩ fun p H1 e1 hp => q p H1 e1 hp
theorem ok_Ring_len (Z : Blt mg) (R : RingC K C) (G : CFun K C "__len__" "Ring.__len__" s_Ring___len__) : Mf P w K mg base C 1 "__len__" ["self"] (sp_Ring_len K C) := by
  refine Mf.of G sc_Ring___len__ b_Ring___len__ (fun vs H Q E h => ?_) (fun f cdv A outer s H vs Q E hr h => ?_)
  · obtain ⟨r, a, b, ds, hs, rfl, _⟩ := h
    rfl
  · obtain ⟨r, a, b, ds, hs, rfl, ⟨⟨dx, ho⟩, hS, hT, O⟩, q⟩ := h
    obtain ⟨cl_Ring, nS, nH, nT⟩ := R
    refine ⟨_, PSs.nox (pss_one (ps_ret (pe_callB c_len (by rfl) Z.zlen PySem.boot_len (pa_cons (pe_fld (pv 0) rfl) pa_nil)))), ?_⟩
    walk_at "g0"
    walk_at "go"
    exact q
def sp_Ring_need (K : PySem.W.Frag) (C : Addr) : Sp := fun vs H Q _ => ∃ (r a b : Addr) (ds hs : List Int) (k : Nat), vs = [.ref r, .int (k : Int)] ∧ RingIn K C H r a b ds hs ∧ k < ds.length ∧ Q .non H
theorem ok_Ring_need (Z : Blt mg) (R : RingC K C) (D_is_integer : Df P w K mg base 1 "is_integer" ["value", "low", "high"] (sp_is_integer K)) (G : CFun K C "need_reader" "Ring.need_reader" s_Ring_need_reader) : Mf P w K mg base C 2 "need_reader" ["self", "reader"] (sp_Ring_need K C) := by
  refine Mf.of G sc_Ring_need_reader b_Ring_need_reader (fun vs H Q E h => ?_) (fun f cdv A outer s H vs Q E hr h => ?_)
  · obtain ⟨r, a, b, ds, hs, k, rfl, _⟩ := h
    rfl
  · obtain ⟨r, a, b, ds, hs, k, rfl, ⟨⟨dx, ho⟩, hS, hT, O⟩, hk, q⟩ := h
    obtain ⟨cl_Ring, nS, nH, nT⟩ := R
    refine ⟨_, PSs.nox (pss_one (ps_if (pt_not (pt_val (pg D_is_integer hr (pa_cons (pv 1) (pa_cons pe_int (pa_cons (pe_op op_sub (pe_callB c_len (by rfl) Z.zlen PySem.boot_len (pa_cons (pe_fld (pv 0) rfl) pa_nil)) pe_int) pa_nil)))))) (pss_one ps_never) pss_nil)), ?_⟩
    walk_at "g0"
    walk_at "go"
    exact q
/-! with_days -/
theorem cut_lo (ds : List Int) (k : Nat) (hk : k ≤ ds.length) : cutV (ds.map V.int) none (some (k : Int)) = (ds.take k).map V.int := by
  unfold cutV
  rw [HT.sIx_none, HT.sIx_nat, List.length_map, List.drop_zero, Nat.sub_zero, Nat.min_eq_left hk, List.map_take]
theorem cut_hi (ds : List Int) (k : Nat) (hk : k ≤ ds.length) : cutV (ds.map V.int) (some (k : Int)) none = (ds.drop k).map V.int := by
  unfold cutV
  rw [HT.sIx_none, HT.sIx_nat, List.length_map, Nat.min_eq_left hk, List.map_drop]
  refine List.take_of_length_le ?_
  rw [List.length_drop, List.length_map]
  exact Nat.le_refl _
theorem set_split {α : Type} (ds : List α) (k : Nat) (n : α) (hk : k < ds.length) : ds.take k ++ [n] ++ ds.drop (k + 1) = ds.set k n := by
  rw [List.set_eq_take_append_cons_drop, if_pos hk, List.append_assoc]
  rfl
theorem RingOk.set {ds hs : List Int} (O : RingOk ds hs) (k : Nat) {n : Int} (h : 1 ≤ n ∧ n ≤ 30) : RingOk (ds.set k n) hs :=
  ⟨by rw [List.length_set]; exact O.two, by rw [List.length_set]; exact O.eight, by rw [List.length_set]; exact O.len, fun d hd => by
    rcases List.mem_or_eq_of_mem_set hd with h1 | h1
    · exact O.dd d h1
    · rw [h1]; exact h, O.hh, O.one, O.twelve⟩
def sp_Ring_with (K : PySem.W.Frag) (C : Addr) : Sp := fun vs H Q _ => ∃ (r a b : Addr) (ds hs : List Int) (k : Nat) (n : Int), vs = [.ref r, .int (k : Int), .int n] ∧ RingIn K C H r a b ds hs ∧ k < ds.length ∧ (1 ≤ n ∧ n ≤ 30) ∧
  ∀ r' a' H', H r' = none → Ex H H' → RingIn K C H' r' a' b (ds.set k n) hs → Q (.ref r') H'
theorem ok_Ring_with (Z : Blt mg) (R : RingC K C) (M_Ring_need_reader : Mf P w K mg base C 2 "need_reader" ["self", "reader"] (sp_Ring_need K C)) (I_Ring : If P w K mg base "Ring" C 3 ["self", "days", "starts"] (sp_Ring_init K C))
    (G : CFun K C "with_days" "Ring.with_days" s_Ring_with_days) : Mf P w K mg base C 5 "with_days" ["self", "reader", "days"] (sp_Ring_with K C) := by
  refine Mf.of G sc_Ring_with_days b_Ring_with_days (fun vs H Q E h => ?_) (fun f cdv A outer s H vs Q E hr h => ?_)
  · obtain ⟨r, a, b, ds, hs, k, n, rfl, _⟩ := h
    rfl
  · obtain ⟨r, a, b, ds, hs, k, n, rfl, RI, hk, hn, q⟩ := h
    obtain ⟨⟨dx, ho⟩, hS, hT, O⟩ := id RI
    obtain ⟨cl_Ring, nS, nH, nT⟩ := R
    have h8 := O.eight
    refine ⟨_, PSs.nox (pss_cons (ps_expr (pm (pv 0) cl_Ring M_Ring_need_reader hr (pa_cons (pv 1) pa_nil)))
      (pss_one (ps_ret (pk I_Ring hr (pa_cons (pe_op op_catA (pe_op op_catA (pe_slice sl_tupA (pe_fld (pv 0) rfl) po_none (po_some (pv 1))) (pe_tup (pa_cons (pv 2) pa_nil))) (pe_slice sl_tupA (pe_fld (pv 0) rfl) (po_some (pe_op op_add (pv 1) pe_int)) po_none)) (pa_cons (pe_fld (pv 0) rfl) pa_nil)))))), ?_⟩
    walk_at "g0"
    walk_at "go"
    refine ⟨r, a, b, ds, hs, k, rfl, RI, hk, ?_⟩
    walk_at "go"
    rename_i p1 H1 e1 s1 p2 H2 _ e2 hp2
    refine g_catA (xs := (ds.take k).map V.int) (ys := [V.int n]) (by rw [← cut_lo ds k (by omega)]; exact ex_t e2 s1) (SqT.of hp2) (by rw [List.length_map, List.length_take]; exact sz1000 (by simp; omega)) fun p3 H3 e3 s3 => ?_
    have ho3 := e3 _ _ (e2 _ _ (e1 _ _ ho))
    have hS3 := ex_t e3 (ex_t e2 (ex_t e1 hS))
    walk_at "go"
    rename_i p4 H4 e4 s4
    have s4' : SqT K H4 p4 ((ds.drop (k + 1)).map V.int) := by
      rw [← cut_hi ds (k + 1) (by omega)]
      exact s4
    refine g_catA (ex_t e4 s3) s4' (by simp only [List.length_append, List.length_map, List.length_take, List.length_drop]; exact sz1000 (by simp; omega)) fun p5 H5 e5 s5 => ?_
    have s5' : SqT K H5 p5 ((ds.set k n).map V.int) := by
      rw [← set_split ds k n hk, List.map_append, List.map_append]
      exact s5
    have e05 := (((e1.trans e2).trans e3).trans e4).trans e5
    have ho5 := e05 _ _ ho
    walk_at "go"
    exact g_mkRing s5' (ex_t e05 hT) (O.set k hn) fun r' H6 n6 e6 R6 => q r' p5 H6 (fresh_back e05 n6) (e05.trans e6) R6
/-! ### the promises as steps -/
theorem RingIn.obj1 {H : Hp} {r a b : Addr} {ds hs : List Int} (R : RingIn K C H r a b ds hs) : ∃ dx, H r = some (.ins C dx (rf a b hs.sum)) := R.obj
theorem g_rbooks {H : Hp} {Q : VK} {E : XK} {r a b : Addr} {ds hs : List Int} (R : RingIn K C H r a b ds hs) (q : Q (.int hs.sum) H) : kProp C (sp_Ring_books K C) E Q (.ref r) H :=
  let ⟨dx, ho⟩ := R.obj; ⟨r, dx, _, rfl, ho, r, a, b, ds, hs, rfl, R, q⟩
theorem g_rpace {H : Hp} {Q : VK} {E : XK} {r a b : Addr} {ds hs : List Int} (R : RingIn K C H r a b ds hs) (q : ∀ p H', Ex H H' → SqT K H' p (PaceV ds hs.sum) → Q (.ref p) H') : kProp C (sp_Ring_pace K C) E Q (.ref r) H :=
  let ⟨dx, ho⟩ := R.obj; ⟨r, dx, _, rfl, ho, r, a, b, ds, hs, rfl, R, q⟩
theorem g_rlen {H : Hp} {Q : VK} {E : XK} {r a b : Addr} {ds hs : List Int} (R : RingIn K C H r a b ds hs) (q : Q (.int (ds.length : Int)) H) : rLenO C (sp_Ring_len K C) E [.ref r] H Q :=
  let ⟨dx, ho⟩ := R.obj; ⟨r, dx, _, rfl, ho, r, a, b, ds, hs, rfl, R, ds.length, rfl, ⟨by omega, by have := R.ok.eight; omega⟩, q⟩
theorem g_rneed {H : Hp} {Q : VK} {E : XK} {r a b : Addr} {ds hs : List Int} {k : Nat} (R : RingIn K C H r a b ds hs) (hk : k < ds.length) (q : Q .non H) : sp_Ring_need K C [.ref r, .int (k : Int)] H Q E := ⟨r, a, b, ds, hs, k, rfl, R, hk, q⟩
theorem g_rneedM {H : Hp} {Q : VK} {E : XK} {r a b : Addr} {ds hs : List Int} {tr : TA} {σ : L2.St} (R : RingIn K C H r a b ds hs) (q : tr σ H fun vs H2 => sp_Ring_need K C (.ref r :: vs) H2 Q E) : kMeth C "need_reader" (sp_Ring_need K C) E tr σ Q (.ref r) H :=
  let ⟨dx, ho⟩ := R.obj; g_kMeth ho rf_nr q
theorem g_rwithM {H : Hp} {Q : VK} {E : XK} {r a b : Addr} {ds hs : List Int} {tr : TA} {σ : L2.St} (R : RingIn K C H r a b ds hs) (q : tr σ H fun vs H2 => sp_Ring_with K C (.ref r :: vs) H2 Q E) : kMeth C "with_days" (sp_Ring_with K C) E tr σ Q (.ref r) H :=
  let ⟨dx, ho⟩ := R.obj; g_kMeth ho rf_wd q
theorem g_rspans {H : Hp} {Q : VK} {r a b : Addr} {ds hs : List Int} (R : RingIn K C H r a b ds hs) (c : RingC K C) (q : Q (.ref a) H) : kFld K "spans" Q (.ref r) H := let ⟨dx, ho⟩ := R.obj; g_kFld ho c.cl c.nS rf_spans q
theorem g_rheaps {H : Hp} {Q : VK} {r a b : Addr} {ds hs : List Int} (R : RingIn K C H r a b ds hs) (c : RingC K C) (q : Q (.ref b) H) : kFld K "heaps" Q (.ref r) H := let ⟨dx, ho⟩ := R.obj; g_kFld ho c.cl c.nH rf_heaps q
theorem g_rtotal {H : Hp} {Q : VK} {r a b : Addr} {ds hs : List Int} (R : RingIn K C H r a b ds hs) (c : RingC K C) (q : Q (.int hs.sum) H) : kFld K "total" Q (.ref r) H := let ⟨dx, ho⟩ := R.obj; g_kFld ho c.cl c.nT rf_total q
end
end G48

/-! chains and planning: what asks no course -/
namespace G48
open PySem PySem.Spec PyProof.Rows L2 Evl
/-! the steps -/
local macro_rules | `(tactic| walk_at "as") => `(tactic| with_reducible assumption)
local macro_rules | `(tactic| walk_at "hp") => `(tactic| first
  | with_reducible assumption
  | ((with_reducible apply SqT.of); walk_at "as")
  | ((with_reducible apply SqL.of); walk_at "as")
  | ((with_reducible apply ex_at); (focus walk_at "as"); walk_at "hp")
  | ((with_reducible apply ex_t); (focus walk_at "as"); walk_at "hp")
  | ((with_reducible apply ex_l); (focus walk_at "as"); walk_at "hp")
  | ((with_reducible apply exb_ins); (focus walk_at "as"); (focus walk_at "hp"); walk_at "hp")
  | ((with_reducible apply exb_t); (focus walk_at "as"); (focus walk_at "hp"); walk_at "hp")
  | ((with_reducible apply exb_at); (focus walk_at "as"); (focus walk_at "ne"); walk_at "hp")
  | ((with_reducible apply exb_l); (focus walk_at "as"); (focus walk_at "ne"); walk_at "hp"))
local macro_rules | `(tactic| walk_at "ne") => `(tactic| first
  | with_reducible assumption
  | exact Ne.symm (by with_reducible assumption)
  | exact ne_of_none (by with_reducible assumption) (by with_reducible assumption)
  | exact Ne.symm (ne_of_none (by with_reducible assumption) (by with_reducible assumption)))
local macro_rules | `(tactic| walk_at "tr") => `(tactic| first
  | rfl
  | with_reducible assumption
  | exact decide_eq_true (by first | with_reducible assumption | omega)
  | exact decide_eq_false (by first | with_reducible assumption | omega)
  | (rw [Bool.not_eq_true']; exact decide_eq_false (by first | with_reducible assumption | omega))
  | (rw [Bool.not_eq_false']; exact decide_eq_true (by first | with_reducible assumption | omega)))
local macro_rules | `(tactic| walk_at "nn") => `(tactic| first | with_reducible assumption | (exact List.cons_ne_nil _ _))
local macro_rules | `(tactic| walk_at "sz") => `(tactic| first | (exact sz1000 (Nat.le_of_ble_eq_true rfl)) | (refine sz1000 ?_; simp only [List.length_map, List.length_cons, List.length_nil, List.length_append]; omega) | with_reducible assumption)
local macro_rules | `(tactic| walk_at "sl") => `(tactic| first | with_reducible assumption | (refine lt1000 ?_; simp only [List.length_map, List.length_cons, List.length_nil, List.length_append]; omega) | (refine lt1000 ?_; omega))
local macro_rules | `(tactic| walk_at "ix") => `(tactic| first | rfl | with_reducible assumption)
local macro_rules | `(tactic| walk_at "rg") => `(tactic| exact RgOk.of_le (by omega) (by omega) (by omega) (by omega))
local macro_rules | `(tactic| walk_at "sp") => `(tactic| fail "sp")
local macro_rules | `(tactic| walk_at "cl") => `(tactic| with_reducible assumption)
local macro_rules | `(tactic| walk_at "lk") => `(tactic| with_reducible assumption)
local macro_rules | `(tactic| walk_at "it") => `(tactic| first | rfl | with_reducible assumption | exact atI_nat (by with_reducible assumption))
local macro_rules | `(tactic| walk_at "g1") => `(tactic| first
  | (with_reducible apply g_var); (focus rfl)
  | with_reducible apply g_c
  | with_reducible apply g_seq
  | with_reducible apply g_asg
  | with_reducible apply gg_name
  | with_reducible apply g_op
  | with_reducible apply g_cons
  | with_reducible apply g_nil
  | with_reducible apply g_cb
  | with_reducible apply g_fld
  | ((with_reducible apply g_kFld); (focus walk_at "hp"); (focus walk_at "cl"); (focus walk_at "cl"); (focus walk_at "lk"))
  | with_reducible apply g_call
  | walk_at "sp"
  | with_reducible apply g_ret
  | with_reducible apply g_drop
  | with_reducible apply g_test
  | with_reducible apply g_B
  | with_reducible apply g_kTest
  | with_reducible apply g_ifS
  | with_reducible apply g_kIfST
  | with_reducible apply g_kIfSF
  | with_reducible apply g_add
  | with_reducible apply g_sub
  | with_reducible apply g_lt
  | with_reducible apply g_le
  | with_reducible apply g_gt
  | with_reducible apply g_ge
  | with_reducible apply g_eqI
  | with_reducible apply g_neI
  | ((with_reducible apply g_mod); (focus first | decide | omega))
  | ((with_reducible apply g_mul); (focus first | (left; constructor <;> omega) | (right; constructor <;> omega)))
  | ((with_reducible apply g_fdiv); (focus (constructor <;> omega)))
  | ((with_reducible apply g_ixT); (focus walk_at "hp"); (focus walk_at "it"))
  | ((with_reducible apply g_ixL); (focus walk_at "hp"); (focus walk_at "it"))
  | with_reducible apply g_and
  | with_reducible apply g_or
  | with_reducible apply g_not
  | with_reducible apply g_kNotT
  | with_reducible apply g_kNotF
  | with_reducible apply g_if
  | with_reducible apply g_kAndT
  | with_reducible apply g_kAndF
  | with_reducible apply g_kOrT
  | with_reducible apply g_kOrF
  | with_reducible apply g_kIfT
  | with_reducible apply g_kIfF
  | with_reducible apply g_next
  | with_reducible apply g_andV
  | with_reducible apply g_orV
  | with_reducible apply g_notV
  | with_reducible apply g_kNotV
  | with_reducible apply g_kAndVT
  | with_reducible apply g_kAndVF
  | with_reducible apply g_chain
  | with_reducible apply g_kChainT
  | with_reducible apply g_kChainF
  | with_reducible apply g_tup
  | with_reducible apply g_lst
  | ((with_reducible apply g_kT); (focus walk_at "sz"); intro _ _ _ _ _)
  | ((with_reducible apply g_kL); (focus walk_at "sz"); intro _ _ _ _ _)
  | with_reducible apply g_un
  | with_reducible apply g_neg
  | with_reducible apply g_meth
  | ((with_reducible apply g_kMeth); (focus walk_at "hp"); (focus walk_at "lk"))
  | with_reducible apply g_prop
  | ((with_reducible apply g_kProp); (focus walk_at "hp"))
  | with_reducible apply g_make
  | with_reducible apply g_par
  | with_reducible apply g_kPar
  | ((with_reducible apply g_lenLM); (focus walk_at "hp"))
  | ((with_reducible apply g_lenTM); (focus walk_at "hp"))
  | ((with_reducible apply g_lenL); (focus walk_at "hp"))
  | ((with_reducible apply g_lenT); (focus walk_at "hp"))
  | with_reducible apply g_int1
  | with_reducible apply g_max2
  | with_reducible apply g_min2
  | ((with_reducible apply g_listL); (focus walk_at "hp"); intro _ _ _ _ _)
  | ((with_reducible apply g_listT); (focus walk_at "hp"); intro _ _ _ _ _)
  | ((with_reducible apply g_tupL); (focus walk_at "hp"); intro _ _ _ _ _)
  | ((with_reducible apply g_sum); (focus walk_at "hp"))
  | with_reducible apply g_sfld
  | with_reducible apply g_sl
  | with_reducible apply g_nopart
  | with_reducible apply g_part
  | with_reducible apply g_kPart
  | with_reducible apply g_lstRg
  | with_reducible apply g_rg1
  | with_reducible apply g_kRg1
  | with_reducible apply g_bm
  | with_reducible apply gg_sub
  | ((with_reducible apply gg_tup); (focus walk_at "hp"); (focus rfl))
  | with_reducible apply gg_cons
  | with_reducible apply gg_nil
  | with_reducible apply g_forL
  | with_reducible apply g_forT
  | with_reducible apply g_forR1
  | with_reducible apply g_forR2
  | with_reducible apply g_forE
  | with_reducible apply g_forEL
  | ((with_reducible apply g_maxT); (focus walk_at "hp"); (focus walk_at "nn"))
  | ((with_reducible apply g_maxL); (focus walk_at "hp"); (focus walk_at "nn"))
  | ((with_reducible apply g_catA); (focus walk_at "hp"); (focus walk_at "hp"); (focus walk_at "sz"); intro _ _ _ _)
  | ((with_reducible apply g_slA); (focus walk_at "hp"); intro _ _ _ _)
  | ((with_reducible apply g_tupD); (focus walk_at "hp"); intro _ _ _ _ _)
  | ((with_reducible apply g_setL); (focus walk_at "hp"); (focus walk_at "ix"); intro _ _ _)
  | ((with_reducible apply g_append); (focus walk_at "hp"); (focus walk_at "sl"); intro _ _ _)
  | ((with_reducible apply g_aug); (focus rfl))
  | with_reducible apply g_ipI
  | with_reducible apply g_retN
  | with_reducible apply g_lcR1
  | with_reducible apply g_lcR2
  | with_reducible apply g_lcL
  | with_reducible apply g_lcU
  | with_reducible apply g_lcN
  | ((with_reducible apply g_kLcG); (focus rfl))
  | with_reducible apply g_yes
  | with_reducible apply g_kLcTT
  | with_reducible apply g_kLcTF
  | ((with_reducible apply g_kLcE); (focus walk_at "hp"); (focus walk_at "sl"); intro _ _ _)
  | ((with_reducible apply g_pow); (focus (constructor <;> (try constructor) <;> decide)))
  | ((with_reducible apply g_kLRg); (focus walk_at "rg"); intro _ _ _ _ _)
  | ((with_reducible apply g_cat); (focus walk_at "hp"); (focus walk_at "hp"); (focus walk_at "sz"); intro _ _ _ _ _)
  | ((with_reducible apply g_slL); (focus walk_at "hp"); intro _ _ _ _ _)
  | with_reducible apply g_bmT
  | with_reducible apply g_break
  | with_reducible apply g_cont)
local macro_rules | `(tactic| walk_at "g0") => `(tactic| try dsimp only [L2.cxOf, L2.Cx.nox, L2.Cx.wish])
local macro_rules | `(tactic| walk_at "yn") => `(tactic| first
  | ((with_reducible apply y_kIfS); (focus walk_at "tr"))
  | ((with_reducible apply n_kIfS); (focus walk_at "tr"))
  | ((with_reducible apply y_kOr); (focus walk_at "tr"))
  | ((with_reducible apply n_kOr); (focus walk_at "tr"))
  | ((with_reducible apply y_kAnd); (focus walk_at "tr"))
  | ((with_reducible apply n_kAnd); (focus walk_at "tr"))
  | ((with_reducible apply y_kNot); (focus walk_at "tr"))
  | ((with_reducible apply n_kNot); (focus walk_at "tr"))
  | ((with_reducible apply y_kIf); (focus walk_at "tr"))
  | ((with_reducible apply n_kIf); (focus walk_at "tr"))
  | ((with_reducible apply y_kAndV); (focus walk_at "tr"))
  | ((with_reducible apply n_kAndV); (focus walk_at "tr"))
  | ((with_reducible apply y_kOrV); (focus walk_at "tr"))
  | ((with_reducible apply n_kOrV); (focus walk_at "tr"))
  | ((with_reducible apply y_kChain); (focus walk_at "tr"))
  | ((with_reducible apply n_kChain); (focus walk_at "tr"))
  | ((with_reducible apply y_kLcT); (focus walk_at "tr"))
  | ((with_reducible apply n_kLcT); (focus walk_at "tr"))
  | ((with_reducible apply y_kWh); (focus walk_at "tr"))
  | ((with_reducible apply n_kWh); (focus walk_at "tr")))
local macro_rules | `(tactic| walk_at "go") => `(tactic| repeat (first | walk_at "g1" | walk_at "yn"))
local macro_rules | `(tactic| walk_at "hp") => `(tactic| first
  | ((with_reducible apply RingIn.ex); (focus walk_at "as"); walk_at "hp")
  | ((with_reducible apply RingAt.ex); (focus walk_at "as"); walk_at "hp")
  | ((with_reducible apply RingIn.exb); (focus walk_at "as"); (focus walk_at "hp"); walk_at "hp")
  | ((with_reducible apply RingAt.exb); (focus walk_at "as"); (focus walk_at "hp"); walk_at "hp")
  | ((with_reducible apply TupK.ex); (focus walk_at "as"); walk_at "hp")
  | ((with_reducible apply TupK.exb); (focus walk_at "as"); (focus walk_at "hp"); walk_at "hp"))
local macro_rules | `(tactic| walk_at "lk") => `(tactic| first | with_reducible exact rf_spans | with_reducible exact rf_heaps | with_reducible exact rf_total | with_reducible exact rf_nr | with_reducible exact rf_wd)
local macro_rules | `(tactic| walk_at "sp") => `(tactic| first
  | ((with_reducible apply g_isiTup); (focus walk_at "hp"))
  | ((with_reducible apply g_isiLst); (focus walk_at "hp"))
  | ((with_reducible apply g_isint); (focus omega); (focus omega))
  | ((with_reducible apply g_checkn); (focus omega); (focus omega))
  | ((with_reducible apply g_rbooks); (focus walk_at "hp"))
  | ((with_reducible apply g_rpace); (focus walk_at "hp"); intro _ _ _ _)
  | ((with_reducible apply g_rlen); (focus walk_at "hp"))
  | ((with_reducible apply g_rneed); (focus walk_at "hp"); (focus omega))
  | ((with_reducible apply g_rneedM); (focus walk_at "hp"))
  | ((with_reducible apply g_rwithM); (focus walk_at "hp"))
  | ((with_reducible apply g_rspans); (focus walk_at "hp"); (focus with_reducible assumption))
  | ((with_reducible apply g_rheaps); (focus walk_at "hp"); (focus with_reducible assumption))
  | ((with_reducible apply g_rtotal); (focus walk_at "hp"); (focus with_reducible assumption)))

/-- the first place -/
theorem first_at : ∀ {ys : List Int} {z : Int}, z ∈ ys → ∃ j : Nat, ys[j]? = some z ∧ ∀ m : Nat, m < j → ys[m]? ≠ some z
  | [], _, h => by cases h
  | y :: r, z, h => by
    by_cases e : y = z
    · exact ⟨0, by rw [e]; rfl, fun m hm => absurd hm (Nat.not_lt_zero m)⟩
    · have h1 : z ∈ r := by
        rcases List.mem_cons.mp h with h | h
        · exact absurd h.symm e
        · exact h
      obtain ⟨j, h2, h3⟩ := first_at h1
      refine ⟨j + 1, h2, fun m hm => ?_⟩
      cases m with
      | zero =>
        intro q
        exact e (Option.some.inj q)
      | succ m => exact h3 m (by omega)
def upto (n : Nat) : List Int := (List.range n).map fun (i : Nat) => (i : Int)
theorem upto_map (n : Nat) : rgV 0 (n : Int) = (upto n).map V.int := by
  unfold rgV upto
  rw [List.map_map]
  have e : ((n : Int) - 0).toNat = n := by omega
  rw [e]
  apply List.map_congr_left
  intro i _
  show V.int (0 + (i : Int)) = V.int (i : Int)
  rw [Int.zero_add]
theorem upto_len (n : Nat) : (upto n).length = n := by unfold upto; rw [List.length_map, List.length_range]
theorem upto_at {n i : Nat} (h : i < n) : (upto n)[i]? = some (i : Int) := by
  unfold upto
  rw [List.getElem?_map, List.getElem?_range h]
  rfl
/-- the readers that set the pace -/
def PR (ds : List Int) (B : Int) (rs : List Int) : Prop :=
  if ds.sum ≤ mx ds * B then ∃ j : Nat, rs = [(j : Int)] ∧ ds[j]? = some (mx ds) ∧ ∀ m : Nat, m < j → ds[m]? ≠ some (mx ds) else rs = upto ds.length
section
variable {P : Program} {w : World} {K : PySem.W.Frag} {mg : Str → Option Value} {base : Heap} {C : Addr}
def sp_pace_readers (K : PySem.W.Frag) (C : Addr) : Sp := fun vs H Q _ => ∃ (r a b : Addr) (ds hs : List Int), vs = [.ref r] ∧ RingIn K C H r a b ds hs ∧ TupK H a (ds.map V.int) ∧
  ∀ p H' rs, H p = none → Ex H H' → H' p = some (.lst (rs.map V.int)) → PR ds hs.sum rs → Q (.ref p) H'
/-- a list of readers that shows a pace -/
structure Shows (rs : List Int) (n : Nat) : Prop where
  at_ : ∀ (i : Nat) (x : Int), rs[i]? = some x → 0 ≤ x ∧ x < n
  next : ∀ (i : Nat) (x y : Int), rs[i]? = some x → rs[i + 1]? = some y → y = (x + 1) % n
  len : rs.length = 1 ∨ rs.length = n
def shown (ds : List Int) (B : Int) (rs : List Int) : Int × Int := if rs.length = 1 then (ds.getD (rs.getD 0 0).toNat 0, 1) else low ds.sum B
def sp_judge_pace (K : PySem.W.Frag) (C : Addr) : Sp := fun vs H Q _ => ∃ (r a b l : Addr) (ds hs rs : List Int), vs = [.ref r, .ref l] ∧ RingIn K C H r a b ds hs ∧ SqL K H l (rs.map V.int) ∧ Shows rs ds.length ∧
  RTup K H [.int (shown ds hs.sum rs).1, .int (shown ds hs.sum rs).2] Q
/-! ### planning -/
def sp_is_less (K : PySem.W.Frag) : Sp := fun vs H Q _ => ∃ (p q : Addr) (x y u v : Int), vs = [.ref p, .ref q] ∧ SqT K H p [.int x, .int y] ∧ SqT K H q [.int u, .int v] ∧ ((0 ≤ x ∧ x ≤ 1000000) ∧ (0 ≤ y ∧ y ≤ 1000000) ∧ (0 ≤ u ∧ u ≤ 1000000) ∧ (0 ≤ v ∧ v ≤ 1000000)) ∧ Q (.bl (decide (x * v < u * y))) H
theorem low_bd {a b : Int} (ha : 0 < a) (hb : 0 < b) : 0 < (low a b).1 ∧ (low a b).1 ≤ a ∧ 0 < (low a b).2 ∧ (low a b).2 ≤ b := by
  have hg : 0 < (Int.gcd a b : Int) := by
    have := (Int.gcd_pos_iff (a := a) (b := b)).mpr (Or.inl (by omega))
    omega
  have d1 : (Int.gcd a b : Int) ∣ a := Int.gcd_dvd_left ..
  have d2 : (Int.gcd a b : Int) ∣ b := Int.gcd_dvd_right ..
  refine ⟨Int.ediv_pos_of_pos_of_dvd ha (by omega) d1, Int.ediv_le_self _ (by omega), Int.ediv_pos_of_pos_of_dvd hb (by omega) d2, Int.ediv_le_self _ (by omega)⟩
theorem pace_bd {ds : List Int} {B : Int} (h : DaysOk ds) (hb : 1 ≤ B) : 0 < (paceN ds B).1 ∧ (paceN ds B).1 ≤ 240 ∧ 0 < (paceN ds B).2 ∧ (paceN ds B).2 ≤ B := by
  have h1 := h.mx
  have h2 := h.sum
  unfold paceN
  by_cases hc : ds.sum ≤ mx ds * B
  · rw [if_pos hc]
    exact ⟨by omega, by omega, by omega, by omega⟩
  · rw [if_neg hc]
    have := low_bd (a := ds.sum) (b := B) (by omega) (by omega)
    exact ⟨by omega, by omega, by omega, by omega⟩
def sp_pace_with (K : PySem.W.Frag) (C : Addr) : Sp := fun vs H Q _ => ∃ (r a b : Addr) (ds hs : List Int) (B : Int), vs = [.ref r, .int B] ∧ RingIn K C H r a b ds hs ∧ (1 ≤ B ∧ B ≤ 1000) ∧ RTup K H (PaceV ds B) Q
def fewN (ds : List Int) : Int := (ds.sum + mx ds - 1) / mx ds
def sp_fewest_books (K : PySem.W.Frag) (C : Addr) : Sp := fun vs H Q _ => ∃ (r a b : Addr) (ds hs : List Int), vs = [.ref r] ∧ RingIn K C H r a b ds hs ∧ ∀ H', Ex H H' → Q (.int (fewN ds)) H'
/-- a reader who helps by being a day quicker -/
def helps (ds : List Int) (B : Int) (i : Nat) : Bool :=
  decide (1 < ds.getD i 0) && decide ((paceN (ds.set i (ds.getD i 0 - 1)) B).1 * (paceN ds B).2 < (paceN ds B).1 * (paceN (ds.set i (ds.getD i 0 - 1)) B).2)
def helpN (ds : List Int) (B : Int) (k : Nat) : List Int := ((List.range k).filter (helps ds B)).map fun (i : Nat) => (i : Int)
theorem helpN_yes {ds : List Int} {B : Int} {k : Nat} (h : helps ds B k = true) : helpN ds B (k + 1) = helpN ds B k ++ [(k : Int)] := by
  unfold helpN
  rw [List.range_succ, List.filter_append, List.map_append, List.filter_cons, if_pos h]
  rfl
theorem helpN_no {ds : List Int} {B : Int} {k : Nat} (h : helps ds B k = false) : helpN ds B (k + 1) = helpN ds B k := by
  unfold helpN
  rw [List.range_succ, List.filter_append, List.map_append, List.filter_cons, if_neg (by rw [h]; decide)]
  exact List.append_nil _
theorem helpN_len (ds : List Int) (B : Int) (k : Nat) : (helpN ds B k).length ≤ k := by
  unfold helpN
  rw [List.length_map]
  have h := List.length_filter_le (helps ds B) (List.range k)
  rw [List.length_range] at h
  exact h
theorem DaysOk.set {ds : List Int} (O : DaysOk ds) (k : Nat) {n : Int} (h : 1 ≤ n ∧ n ≤ 30) : DaysOk (ds.set k n) :=
  ⟨by rw [List.length_set]; exact O.two, by rw [List.length_set]; exact O.eight, fun d hd => by
    rcases List.mem_or_eq_of_mem_set hd with h1 | h1
    · exact O.dd d h1
    · rw [h1]; exact h⟩
def sp_helpful (K : PySem.W.Frag) (C : Addr) : Sp := fun vs H Q _ => ∃ (r a b : Addr) (ds hs : List Int), vs = [.ref r] ∧ RingIn K C H r a b ds hs ∧ ∀ p H', H p = none → Ex H H' → H' p = some (.lst ((helpN ds hs.sum ds.length).map V.int)) → Q (.ref p) H'
/-- slowest_days: a number of days with the same pace, and with a day more another -/
def SameP (ds : List Int) (B : Int) (k : Nat) (n : Int) : Prop := paceN (ds.set k n) B = paceN ds B
theorem paceV_eqv {ds es : List Int} {B B2 : Int} : PyData.eqv (.tuple [.int (paceN ds B).1, .int (paceN ds B).2]) (.tuple [.int (paceN es B2).1, .int (paceN es B2).2]) = decide (paceN ds B = paceN es B2) := by
  have e : PyData.eqv (.tuple [.int (paceN ds B).1, .int (paceN ds B).2]) (.tuple [.int (paceN es B2).1, .int (paceN es B2).2]) = ((paceN ds B).1 == (paceN es B2).1 && ((paceN ds B).2 == (paceN es B2).2 && true)) := by
    simp only [PyData.eqv, PyData.eqvAll]
  rw [e, Bool.eq_iff_iff]
  simp [Prod.ext_iff]
theorem dp_two {H : Hp} {p : Addr} {x y : Int} (h : SqT K H p [.int x, .int y]) : Dp K H (.ref p) (.tuple [.int x, .int y]) := .tup h (.cons (.int _) (.cons (.int _) .nil))
theorem sh_two {x y : Int} : SeqAt.shaped (.tuple [.int x, .int y]) = true := rfl
/-- two paces compared -/
theorem g_eqP {H : Hp} {Q : VK} {p q : Addr} {ds es : List Int} {B B2 : Int} (h1 : SqT K H p (PaceV ds B)) (h2 : SqT K H q (PaceV es B2)) (k : Q (.bl (decide (paceN ds B = paceN es B2))) H) : rEqD K (.ref p) (.ref q) H Q :=
  g_eqD (dp_two h1) (dp_two h2) sh_two sh_two (by rw [paceV_eqv]; exact k)
theorem g_neP {H : Hp} {Q : VK} {p q : Addr} {ds es : List Int} {B B2 : Int} (h1 : SqT K H p (PaceV ds B)) (h2 : SqT K H q (PaceV es B2)) (k : Q (.bl (!decide (paceN ds B = paceN es B2))) H) : rNeD K (.ref p) (.ref q) H Q :=
  g_neD (dp_two h1) (dp_two h2) sh_two sh_two (by rw [paceV_eqv]; exact k)
def sp_slowest (K : PySem.W.Frag) (C : Addr) : Sp := fun vs H Q _ => ∃ (r a b : Addr) (ds hs : List Int) (k : Nat), vs = [.ref r, .int (k : Int)] ∧ RingIn K C H r a b ds hs ∧ k < ds.length ∧
  ∀ n H', Ex H H' → ds.getD k 0 ≤ n → n ≤ 30 → SameP ds hs.sum k n → (n < 30 → ¬ SameP ds hs.sum k (n + 1)) → Q (.int n) H'
/-- fewest_days_less -/
def lessN (ds : List Int) (B x y : Int) : Option Int := if x / y = 0 ∨ x * B < (ds.length : Int) * y then none else some (max (ds.map fun d => max 0 (d - x / y)).sum (ds.sum - x * B / y))
def optV : Option Int → V
  | none => .non
  | some n => .int n
def sp_fewest_less (K : PySem.W.Frag) (C : Addr) : Sp := fun vs H Q _ => ∃ (r a b : Addr) (ds hs : List Int) (x y : Int), vs = [.ref r, .int x, .int y] ∧ RingIn K C H r a b ds hs ∧ ((1 ≤ x ∧ x ≤ 1000) ∧ (1 ≤ y ∧ y ≤ 1000)) ∧ ∀ H', Ex H H' → Q (optV (lessN ds hs.sum x y)) H'
end
end G48

/-! the draws of the laws k50 and on: _law_taken, _law_parts -/
namespace G48
open PySem PySem.Spec PyProof.Rows L2 Evl
/-! the steps -/
local macro_rules | `(tactic| walk_at "as") => `(tactic| with_reducible assumption)
local macro_rules | `(tactic| walk_at "hp") => `(tactic| first
  | with_reducible assumption
  | ((with_reducible apply SqT.of); walk_at "as")
  | ((with_reducible apply SqL.of); walk_at "as")
  | ((with_reducible apply ex_at); (focus walk_at "as"); walk_at "hp")
  | ((with_reducible apply ex_t); (focus walk_at "as"); walk_at "hp")
  | ((with_reducible apply ex_l); (focus walk_at "as"); walk_at "hp")
  | ((with_reducible apply exb_ins); (focus walk_at "as"); (focus walk_at "hp"); walk_at "hp")
  | ((with_reducible apply exb_t); (focus walk_at "as"); (focus walk_at "hp"); walk_at "hp")
  | ((with_reducible apply exb_at); (focus walk_at "as"); (focus walk_at "ne"); walk_at "hp")
  | ((with_reducible apply exb_l); (focus walk_at "as"); (focus walk_at "ne"); walk_at "hp"))
local macro_rules | `(tactic| walk_at "ne") => `(tactic| first
  | with_reducible assumption
  | exact Ne.symm (by with_reducible assumption)
  | exact ne_of_none (by with_reducible assumption) (by with_reducible assumption)
  | exact Ne.symm (ne_of_none (by with_reducible assumption) (by with_reducible assumption)))
local macro_rules | `(tactic| walk_at "tr") => `(tactic| first
  | rfl
  | with_reducible assumption
  | exact decide_eq_true (by first | with_reducible assumption | omega)
  | exact decide_eq_false (by first | with_reducible assumption | omega)
  | (rw [Bool.not_eq_true']; exact decide_eq_false (by first | with_reducible assumption | omega))
  | (rw [Bool.not_eq_false']; exact decide_eq_true (by first | with_reducible assumption | omega)))
local macro_rules | `(tactic| walk_at "nn") => `(tactic| first | with_reducible assumption | (exact List.cons_ne_nil _ _))
local macro_rules | `(tactic| walk_at "sz") => `(tactic| first | (exact sz1000 (Nat.le_of_ble_eq_true rfl)) | (refine sz1000 ?_; simp only [List.length_map, List.length_cons, List.length_nil, List.length_append]; omega) | with_reducible assumption)
local macro_rules | `(tactic| walk_at "sl") => `(tactic| first | with_reducible assumption | (refine lt1000 ?_; simp only [List.length_map, List.length_cons, List.length_nil, List.length_append]; omega) | (refine lt1000 ?_; omega))
local macro_rules | `(tactic| walk_at "ix") => `(tactic| first | rfl | with_reducible assumption)
local macro_rules | `(tactic| walk_at "rg") => `(tactic| exact RgOk.of_le (by omega) (by omega) (by omega) (by omega))
local macro_rules | `(tactic| walk_at "sp") => `(tactic| fail "sp")
local macro_rules | `(tactic| walk_at "cl") => `(tactic| with_reducible assumption)
local macro_rules | `(tactic| walk_at "lk") => `(tactic| with_reducible assumption)
local macro_rules | `(tactic| walk_at "it") => `(tactic| first | rfl | with_reducible assumption | exact atI_nat (by with_reducible assumption))
local macro_rules | `(tactic| walk_at "g1") => `(tactic| first
  | (with_reducible apply g_var); (focus rfl)
  | with_reducible apply g_c
  | with_reducible apply g_seq
  | with_reducible apply g_asg
  | with_reducible apply gg_name
  | with_reducible apply g_op
  | with_reducible apply g_cons
  | with_reducible apply g_nil
  | with_reducible apply g_cb
  | with_reducible apply g_fld
  | ((with_reducible apply g_kFld); (focus walk_at "hp"); (focus walk_at "cl"); (focus walk_at "cl"); (focus walk_at "lk"))
  | with_reducible apply g_call
  | walk_at "sp"
  | with_reducible apply g_ret
  | with_reducible apply g_drop
  | with_reducible apply g_test
  | with_reducible apply g_B
  | with_reducible apply g_kTest
  | with_reducible apply g_ifS
  | with_reducible apply g_kIfST
  | with_reducible apply g_kIfSF
  | with_reducible apply g_add
  | with_reducible apply g_sub
  | with_reducible apply g_lt
  | with_reducible apply g_le
  | with_reducible apply g_gt
  | with_reducible apply g_ge
  | with_reducible apply g_eqI
  | with_reducible apply g_neI
  | ((with_reducible apply g_mod); (focus first | decide | omega))
  | ((with_reducible apply g_mul); (focus first | (left; constructor <;> omega) | (right; constructor <;> omega)))
  | ((with_reducible apply g_fdiv); (focus (constructor <;> omega)))
  | ((with_reducible apply g_ixT); (focus walk_at "hp"); (focus walk_at "it"))
  | ((with_reducible apply g_ixL); (focus walk_at "hp"); (focus walk_at "it"))
  | with_reducible apply g_and
  | with_reducible apply g_or
  | with_reducible apply g_not
  | with_reducible apply g_kNotT
  | with_reducible apply g_kNotF
  | with_reducible apply g_if
  | with_reducible apply g_kAndT
  | with_reducible apply g_kAndF
  | with_reducible apply g_kOrT
  | with_reducible apply g_kOrF
  | with_reducible apply g_kIfT
  | with_reducible apply g_kIfF
  | with_reducible apply g_next
  | with_reducible apply g_andV
  | with_reducible apply g_orV
  | with_reducible apply g_notV
  | with_reducible apply g_kNotV
  | with_reducible apply g_kAndVT
  | with_reducible apply g_kAndVF
  | with_reducible apply g_chain
  | with_reducible apply g_kChainT
  | with_reducible apply g_kChainF
  | with_reducible apply g_tup
  | with_reducible apply g_lst
  | ((with_reducible apply g_kT); (focus walk_at "sz"); intro _ _ _ _ _)
  | ((with_reducible apply g_kL); (focus walk_at "sz"); intro _ _ _ _ _)
  | with_reducible apply g_un
  | with_reducible apply g_neg
  | with_reducible apply g_meth
  | ((with_reducible apply g_kMeth); (focus walk_at "hp"); (focus walk_at "lk"))
  | with_reducible apply g_prop
  | ((with_reducible apply g_kProp); (focus walk_at "hp"))
  | with_reducible apply g_make
  | with_reducible apply g_par
  | with_reducible apply g_kPar
  | ((with_reducible apply g_lenLM); (focus walk_at "hp"))
  | ((with_reducible apply g_lenTM); (focus walk_at "hp"))
  | ((with_reducible apply g_lenL); (focus walk_at "hp"))
  | ((with_reducible apply g_lenT); (focus walk_at "hp"))
  | with_reducible apply g_int1
  | with_reducible apply g_max2
  | with_reducible apply g_min2
  | ((with_reducible apply g_listL); (focus walk_at "hp"); intro _ _ _ _ _)
  | ((with_reducible apply g_listT); (focus walk_at "hp"); intro _ _ _ _ _)
  | ((with_reducible apply g_tupL); (focus walk_at "hp"); intro _ _ _ _ _)
  | ((with_reducible apply g_sum); (focus walk_at "hp"))
  | with_reducible apply g_sfld
  | with_reducible apply g_sl
  | with_reducible apply g_nopart
  | with_reducible apply g_part
  | with_reducible apply g_kPart
  | with_reducible apply g_lstRg
  | with_reducible apply g_rg1
  | with_reducible apply g_kRg1
  | with_reducible apply g_bm
  | with_reducible apply gg_sub
  | ((with_reducible apply gg_tup); (focus walk_at "hp"); (focus rfl))
  | with_reducible apply gg_cons
  | with_reducible apply gg_nil
  | with_reducible apply g_forL
  | with_reducible apply g_forT
  | with_reducible apply g_forR1
  | with_reducible apply g_forR2
  | with_reducible apply g_forE
  | with_reducible apply g_forEL
  | ((with_reducible apply g_maxT); (focus walk_at "hp"); (focus walk_at "nn"))
  | ((with_reducible apply g_maxL); (focus walk_at "hp"); (focus walk_at "nn"))
  | ((with_reducible apply g_catA); (focus walk_at "hp"); (focus walk_at "hp"); (focus walk_at "sz"); intro _ _ _ _)
  | ((with_reducible apply g_slA); (focus walk_at "hp"); intro _ _ _ _)
  | ((with_reducible apply g_tupD); (focus walk_at "hp"); intro _ _ _ _ _)
  | ((with_reducible apply g_setL); (focus walk_at "hp"); (focus walk_at "ix"); intro _ _ _)
  | ((with_reducible apply g_append); (focus walk_at "hp"); (focus walk_at "sl"); intro _ _ _)
  | ((with_reducible apply g_aug); (focus rfl))
  | with_reducible apply g_ipI
  | with_reducible apply g_retN
  | with_reducible apply g_lcR1
  | with_reducible apply g_lcR2
  | with_reducible apply g_lcL
  | with_reducible apply g_lcU
  | with_reducible apply g_lcN
  | ((with_reducible apply g_kLcG); (focus rfl))
  | with_reducible apply g_yes
  | with_reducible apply g_kLcTT
  | with_reducible apply g_kLcTF
  | ((with_reducible apply g_kLcE); (focus walk_at "hp"); (focus walk_at "sl"); intro _ _ _)
  | ((with_reducible apply g_pow); (focus (constructor <;> (try constructor) <;> decide)))
  | ((with_reducible apply g_kLRg); (focus walk_at "rg"); intro _ _ _ _ _)
  | ((with_reducible apply g_cat); (focus walk_at "hp"); (focus walk_at "hp"); (focus walk_at "sz"); intro _ _ _ _ _)
  | ((with_reducible apply g_slL); (focus walk_at "hp"); intro _ _ _ _ _)
  | with_reducible apply g_bmT
  | with_reducible apply g_break
  | with_reducible apply g_cont)
local macro_rules | `(tactic| walk_at "g0") => `(tactic| try dsimp only [L2.cxOf, L2.Cx.nox, L2.Cx.wish])
local macro_rules | `(tactic| walk_at "yn") => `(tactic| first
  | ((with_reducible apply y_kIfS); (focus walk_at "tr"))
  | ((with_reducible apply n_kIfS); (focus walk_at "tr"))
  | ((with_reducible apply y_kOr); (focus walk_at "tr"))
  | ((with_reducible apply n_kOr); (focus walk_at "tr"))
  | ((with_reducible apply y_kAnd); (focus walk_at "tr"))
  | ((with_reducible apply n_kAnd); (focus walk_at "tr"))
  | ((with_reducible apply y_kNot); (focus walk_at "tr"))
  | ((with_reducible apply n_kNot); (focus walk_at "tr"))
  | ((with_reducible apply y_kIf); (focus walk_at "tr"))
  | ((with_reducible apply n_kIf); (focus walk_at "tr"))
  | ((with_reducible apply y_kAndV); (focus walk_at "tr"))
  | ((with_reducible apply n_kAndV); (focus walk_at "tr"))
  | ((with_reducible apply y_kOrV); (focus walk_at "tr"))
  | ((with_reducible apply n_kOrV); (focus walk_at "tr"))
  | ((with_reducible apply y_kChain); (focus walk_at "tr"))
  | ((with_reducible apply n_kChain); (focus walk_at "tr"))
  | ((with_reducible apply y_kLcT); (focus walk_at "tr"))
  | ((with_reducible apply n_kLcT); (focus walk_at "tr"))
  | ((with_reducible apply y_kWh); (focus walk_at "tr"))
  | ((with_reducible apply n_kWh); (focus walk_at "tr")))
local macro_rules | `(tactic| walk_at "go") => `(tactic| repeat (first | walk_at "g1" | walk_at "yn"))
local macro_rules | `(tactic| walk_at "hp") => `(tactic| first
  | ((with_reducible apply RingIn.ex); (focus walk_at "as"); walk_at "hp")
  | ((with_reducible apply RingAt.ex); (focus walk_at "as"); walk_at "hp")
  | ((with_reducible apply RingIn.exb); (focus walk_at "as"); (focus walk_at "hp"); walk_at "hp")
  | ((with_reducible apply RingAt.exb); (focus walk_at "as"); (focus walk_at "hp"); walk_at "hp")
  | ((with_reducible apply TupK.ex); (focus walk_at "as"); walk_at "hp")
  | ((with_reducible apply TupK.exb); (focus walk_at "as"); (focus walk_at "hp"); walk_at "hp"))
local macro_rules | `(tactic| walk_at "lk") => `(tactic| first | with_reducible exact rf_spans | with_reducible exact rf_heaps | with_reducible exact rf_total | with_reducible exact rf_nr | with_reducible exact rf_wd)
local macro_rules | `(tactic| walk_at "sp") => `(tactic| first
  | ((with_reducible apply g_isiTup); (focus walk_at "hp"))
  | ((with_reducible apply g_isiLst); (focus walk_at "hp"))
  | ((with_reducible apply g_isint); (focus omega); (focus omega))
  | ((with_reducible apply g_checkn); (focus omega); (focus omega))
  | ((with_reducible apply g_rbooks); (focus walk_at "hp"))
  | ((with_reducible apply g_rpace); (focus walk_at "hp"); intro _ _ _ _)
  | ((with_reducible apply g_rlen); (focus walk_at "hp"))
  | ((with_reducible apply g_rneed); (focus walk_at "hp"); (focus omega))
  | ((with_reducible apply g_rneedM); (focus walk_at "hp"))
  | ((with_reducible apply g_rwithM); (focus walk_at "hp"))
  | ((with_reducible apply g_rspans); (focus walk_at "hp"); (focus with_reducible assumption))
  | ((with_reducible apply g_rheaps); (focus walk_at "hp"); (focus with_reducible assumption))
  | ((with_reducible apply g_rtotal); (focus walk_at "hp"); (focus with_reducible assumption)))

/-- the script: frozen, or the module's own -/
def Scr (K : PySem.W.Frag) (H : Hp) (a : Addr) (xs : List V) : Prop := (∃ o, H a = some (.frz o (.lst xs))) ∨ ∃ (o : Obj) (its : Array Value) (n : Nat), K.lookup a = some o ∧ o.cls = .type "list" ∧ o.dict = none ∧ o.data = .seq its n ∧ its.size ≤ sizeLine ∧ Vals xs its.toList
theorem Scr.sq {K : PySem.W.Frag} {H : Hp} {a : Addr} {xs : List V} : Scr K H a xs → SqL K H a xs
  | .inl h => .inl (.inr h)
  | .inr h => .inr h
theorem Scr.only {K : PySem.W.Frag} {H : Hp} {a : Addr} {xs : List V} (O : L2.Only H) : SqL K H a xs → Scr K H a xs
  | .inl (.inr h) => .inl h
  | .inr h => .inr h
  | .inl (.inl h) => by
    rcases O a with z | ⟨o, ys, z⟩
    · rw [z] at h; cases h
    · rw [z] at h; cases h
theorem Scr.ex {K : PySem.W.Frag} {H H' : Hp} {a : Addr} {xs : List V} (e : Ex H H') : Scr K H a xs → Scr K H' a xs
  | .inl ⟨o, h⟩ => .inl ⟨o, e _ _ h⟩
  | .inr h => .inr h
theorem Scr.exb {K : PySem.W.Frag} {H H' : Hp} {l a : Addr} {xs ys : List V} (e : Exb l H H') (hl : H l = some (.lst ys)) : Scr K H a xs → Scr K H' a xs
  | .inl ⟨o, h⟩ => .inl ⟨o, e _ _ (ne_of h hl (by intro z; cases z)) h⟩
  | .inr h => .inr h
/-- the state of a draw: the script, a place, a number, a rest -/
def DiceAt (K : PySem.W.Frag) (H : Hp) (d : Addr) : Prop := ∃ (sc : Addr) (ns : List Int) (pos mixed rest : Int), H d = some (.lst [.ref sc, .int pos, .int mixed, .int rest]) ∧ Scr K H sc (ns.map V.int) ∧ ns.length ≤ 63 ∧ 0 ≤ pos ∧ 0 ≤ mixed ∧ mixed < 2147483647
section
variable {K : PySem.W.Frag} {H H' : Hp} {d a C dx r b : Addr} {xs : List V} {fs : List (Str × V)} {ds hs : List Int}
theorem DiceAt.lst (D : DiceAt K H d) : ∃ ys, H d = some (.lst ys) := let ⟨_, _, _, _, _, h, _⟩ := D; ⟨_, h⟩
theorem DiceAt.ex (e : Ex H H') (D : DiceAt K H d) : DiceAt K H' d := by
  obtain ⟨sc, ns, p, m, r, h, hs, z, q⟩ := D
  exact ⟨sc, ns, p, m, r, e _ _ h, hs.ex e, z, q⟩
theorem DiceAt.exb {l : Addr} {ys : List V} (e : Exb l H H') (ne : d ≠ l) (hl : H l = some (.lst ys)) (D : DiceAt K H d) : DiceAt K H' d := by
  obtain ⟨sc, ns, p, m, r, h, hs, z, q⟩ := D
  exact ⟨sc, ns, p, m, r, e _ _ ne h, hs.exb e hl, z, q⟩
theorem exb_tD (e : Exb d H H') (D : DiceAt K H d) (h : SqT K H a xs) : SqT K H' a xs := let ⟨_, hl⟩ := D.lst; exb_t e hl h
theorem exb_insD (e : Exb d H H') (D : DiceAt K H d) (h : H a = some (.ins C dx fs)) : H' a = some (.ins C dx fs) := let ⟨_, hl⟩ := D.lst; exb_ins e hl h
theorem RingIn.exD (e : Exb d H H') (D : DiceAt K H d) (R : RingIn K C H r a b ds hs) : RingIn K C H' r a b ds hs := let ⟨_, hl⟩ := D.lst; R.exb e hl
theorem TupK.exD (e : Exb d H H') (D : DiceAt K H d) (R : TupK H a xs) : TupK H' a xs := let ⟨_, hl⟩ := D.lst; R.exb e hl
end
/-- a draw changes the draw's own list alone -/
def Dx (K : PySem.W.Frag) (d : Addr) (H H' : Hp) : Prop := Exb d H H' ∧ DiceAt K H' d
section
variable {P : Program} {w : World} {K : PySem.W.Frag} {mg : Str → Option Value} {base : Heap} {C : Addr}
def sp_taken (K : PySem.W.Frag) : Sp := fun vs H Q _ => ∃ (d : Addr) (many : Int), vs = [.ref d, .int many] ∧ DiceAt K H d ∧ (0 < many ∧ many < 1073741824) ∧ ∀ k H', 0 ≤ k → k < many → Dx K d H H' → Q (.int k) H'
theorem dice_set {K : PySem.W.Frag} {H H' : Hp} {d sc : Addr} {ns : List Int} {p m r : Int} {ys : List V} (hd : H d = some (.lst ys)) (e : Exb d H H') (h : H' d = some (.lst [.ref sc, .int p, .int m, .int r])) (hs : Scr K H sc (ns.map V.int)) (z : ns.length ≤ 63) (h1 : 0 ≤ p) (h2 : 0 ≤ m) (h3 : m < 2147483647) : DiceAt K H' d :=
  ⟨sc, ns, p, m, r, h, hs.exb e hd, z, h1, h2, h3⟩
theorem g_taken {H : Hp} {Q : VK} {E : XK} {d : Addr} {many : Int} (D : DiceAt K H d) (h1 : 0 < many) (h2 : many < 1073741824) (q : ∀ k H', 0 ≤ k → k < many → Exb d H H' → DiceAt K H' d → Q (.int k) H') : sp_taken K [.ref d, .int many] H Q E :=
  ⟨d, many, rfl, D, ⟨h1, h2⟩, fun k H' a b c => q k H' a b c.1 c.2⟩
end
end G48

/-! data of ints compared; tests whose rest is one -/
namespace G48
open PySem PySem.Spec PyProof.Rows L2 Evl
/-- the law's own body: nothing leaves it -/
abbrev Body0 (P : Program) (w : World) (K : PySem.W.Frag) (mg : Str → Option Value) (base : Heap) (qual : Str) (N : List Str) (st : Stmt) (k : Nat) (sp : Sp) : Prop :=
  ∀ (f : Addr) (cdv : Value) (A : Around) (outer : List Env) (s : Shared) (H : Hp) (vs : List V) (Q : VK) (E : XK), Room k (A.deeper (envOfC qual (defScope st) s.heap.objs.size f cdv)) → sp vs H Q E →
      ∃ t, PSs (cxOf L2.CX0 P w K mg base N qual (defScope st) f cdv A outer s H E).nox (defBody st) t ∧ t { nx := fun _ H' => Q .non H', rt := Q } (start N vs) H
theorem g_kAndN {u : TT} {σ : L2.St} {QB : Bool → Hp → Prop} {c : Bool} {H : Hp} (rest : ∀ H', Ex H H' → QB false H') (h1 : c = true → (∀ H', Ex H H' → QB false H') → u σ H QB) : kAnd u σ QB c H := g_kAnd (fun h => h1 h rest) fun _ => rest H (Ex.refl _)
theorem eqvAll_ints : ∀ xs ys : List Int, PyData.eqvAll (xs.map PyData.int) (ys.map PyData.int) = decide (xs = ys)
  | [], [] => by simp [PyData.eqvAll]
  | [], _ :: _ => by simp [PyData.eqvAll]
  | _ :: _, [] => by simp [PyData.eqvAll]
  | x :: xs, y :: ys => by
    rw [Bool.eq_iff_iff]
    simp [PyData.eqvAll, PyData.eqv, eqvAll_ints xs ys]
theorem sh_lst (ns : List Int) : SeqAt.shaped (.list (ns.map PyData.int)) = true := PySem.W.shaped_ints ns
theorem sh_tup (ns : List Int) : SeqAt.shaped (.tuple (ns.map PyData.int)) = true := by
  have h1 := PySem.W.depthAll_ints ns
  have h2 : PyData.depth (.tuple (ns.map PyData.int)) ≤ 64 := by simp only [PyData.depth]; omega
  show (PyData.canLay0 (.tuple (ns.map PyData.int)) && decide (PyData.depth (.tuple (ns.map PyData.int)) ≤ 64)) = true
  rw [Bool.and_eq_true]
  exact ⟨by simp only [PyData.canLay0]; exact PySem.W.canLayAll0_ints ns, decide_eq_true h2⟩
section
variable {K : PySem.W.Frag} {H : Hp} {Q : VK} {a b : Addr} {xs ys : List Int}
theorem dpAll_ints : ∀ xs : List Int, DpAll K H (xs.map V.int) (xs.map PyData.int)
  | [] => .nil
  | x :: xs => .cons (.int x) (dpAll_ints xs)
theorem dp_lst (h : SqL K H a (xs.map V.int)) : Dp K H (.ref a) (.list (xs.map PyData.int)) := .lst h (dpAll_ints xs)
theorem dp_tup (h : SqT K H a (xs.map V.int)) : Dp K H (.ref a) (.tuple (xs.map PyData.int)) := .tup h (dpAll_ints xs)
theorem eqv_lst : PyData.eqv (.list (xs.map PyData.int)) (.list (ys.map PyData.int)) = decide (xs = ys) := by simp only [PyData.eqv]; exact eqvAll_ints xs ys
theorem eqv_tup : PyData.eqv (.tuple (xs.map PyData.int)) (.tuple (ys.map PyData.int)) = decide (xs = ys) := by simp only [PyData.eqv]; exact eqvAll_ints xs ys
theorem g_eqLI (h1 : SqL K H a (xs.map V.int)) (h2 : SqL K H b (ys.map V.int)) (q : Q (.bl (decide (xs = ys))) H) : rEqD K (.ref a) (.ref b) H Q := g_eqD (dp_lst h1) (dp_lst h2) (sh_lst _) (sh_lst _) (by rw [eqv_lst]; exact q)
theorem g_neLI (h1 : SqL K H a (xs.map V.int)) (h2 : SqL K H b (ys.map V.int)) (q : Q (.bl (!decide (xs = ys))) H) : rNeD K (.ref a) (.ref b) H Q := g_neD (dp_lst h1) (dp_lst h2) (sh_lst _) (sh_lst _) (by rw [eqv_lst]; exact q)
theorem g_eqTI (h1 : SqT K H a (xs.map V.int)) (h2 : SqT K H b (ys.map V.int)) (q : Q (.bl (decide (xs = ys))) H) : rEqD K (.ref a) (.ref b) H Q := g_eqD (dp_tup h1) (dp_tup h2) (sh_tup _) (sh_tup _) (by rw [eqv_tup]; exact q)
theorem g_neTI (h1 : SqT K H a (xs.map V.int)) (h2 : SqT K H b (ys.map V.int)) (q : Q (.bl (!decide (xs = ys))) H) : rNeD K (.ref a) (.ref b) H Q := g_neD (dp_tup h1) (dp_tup h2) (sh_tup _) (sh_tup _) (by rw [eqv_tup]; exact q)
end
end G48

namespace G48
open PySem PySem.Spec PyProof.Rows L2 Evl
abbrev N__law_dice : List Str := ["_law_script", "_law_mixed", "_law_cell"]
theorem sc__law_dice : FnScope N__law_dice ["_law_script"] (defScope s__law_dice) := ⟨rfl, rfl, rfl, by decide +kernel, rfl, by decide +kernel, by decide +kernel⟩
theorem b__law_dice : BindL "_law_dice" "_law_dice" s__law_dice ["_law_script"] := fun _ _ _ _ _ _ us hl => match us, hl with | [_], _ => rfl
abbrev N__law_next : List Str := ["_law_dice_here", "_law_many", "_law_found", "_law_cell"]
theorem sc__law_next : FnScope N__law_next ["_law_dice_here", "_law_many"] (defScope s__law_next) := ⟨rfl, rfl, rfl, by decide +kernel, rfl, by decide +kernel, by decide +kernel⟩
theorem b__law_next : BindL "_law_next" "_law_next" s__law_next ["_law_dice_here", "_law_many"] := fun _ _ _ _ _ _ us hl => match us, hl with | [_, _], _ => rfl
abbrev N__law_ring : List Str := ["_law_d", "_law_size", "_law_most", "_law_count", "_law_days", "_law_starts", "_law_k"]
theorem sc__law_ring : FnScope N__law_ring ["_law_d", "_law_size", "_law_most"] (defScope s__law_ring) := ⟨rfl, rfl, rfl, by decide +kernel, rfl, by decide +kernel, by decide +kernel⟩
theorem b__law_ring : BindL "_law_ring" "_law_ring" s__law_ring ["_law_d", "_law_size", "_law_most"] := fun _ _ _ _ _ _ us hl => match us, hl with | [_, _, _], _ => rfl
end G48
/-! the draws of the laws k01 to k12 -/
namespace G48
open PySem PySem.Spec PyProof.Rows L2 Evl
/-! the steps -/
local macro_rules | `(tactic| walk_at "as") => `(tactic| with_reducible assumption)
local macro_rules | `(tactic| walk_at "hp") => `(tactic| first
  | with_reducible assumption
  | ((with_reducible apply SqT.of); walk_at "as")
  | ((with_reducible apply SqL.of); walk_at "as")
  | ((with_reducible apply ex_at); (focus walk_at "as"); walk_at "hp")
  | ((with_reducible apply ex_t); (focus walk_at "as"); walk_at "hp")
  | ((with_reducible apply ex_l); (focus walk_at "as"); walk_at "hp")
  | ((with_reducible apply exb_ins); (focus walk_at "as"); (focus walk_at "hp"); walk_at "hp")
  | ((with_reducible apply exb_t); (focus walk_at "as"); (focus walk_at "hp"); walk_at "hp")
  | ((with_reducible apply exb_at); (focus walk_at "as"); (focus walk_at "ne"); walk_at "hp")
  | ((with_reducible apply exb_l); (focus walk_at "as"); (focus walk_at "ne"); walk_at "hp"))
local macro_rules | `(tactic| walk_at "ne") => `(tactic| first
  | with_reducible assumption
  | exact Ne.symm (by with_reducible assumption)
  | exact ne_of_none (by with_reducible assumption) (by with_reducible assumption)
  | exact Ne.symm (ne_of_none (by with_reducible assumption) (by with_reducible assumption)))
local macro_rules | `(tactic| walk_at "tr") => `(tactic| first
  | rfl
  | with_reducible assumption
  | exact decide_eq_true (by first | with_reducible assumption | omega)
  | exact decide_eq_false (by first | with_reducible assumption | omega)
  | (rw [Bool.not_eq_true']; exact decide_eq_false (by first | with_reducible assumption | omega))
  | (rw [Bool.not_eq_false']; exact decide_eq_true (by first | with_reducible assumption | omega)))
local macro_rules | `(tactic| walk_at "nn") => `(tactic| first | with_reducible assumption | (exact List.cons_ne_nil _ _))
local macro_rules | `(tactic| walk_at "sz") => `(tactic| first | (exact sz1000 (Nat.le_of_ble_eq_true rfl)) | (refine sz1000 ?_; simp only [List.length_map, List.length_cons, List.length_nil, List.length_append]; omega) | with_reducible assumption)
local macro_rules | `(tactic| walk_at "sl") => `(tactic| first | with_reducible assumption | (refine lt1000 ?_; simp only [List.length_map, List.length_cons, List.length_nil, List.length_append]; omega) | (refine lt1000 ?_; omega))
local macro_rules | `(tactic| walk_at "ix") => `(tactic| first | rfl | with_reducible assumption)
local macro_rules | `(tactic| walk_at "rg") => `(tactic| exact RgOk.of_le (by omega) (by omega) (by omega) (by omega))
local macro_rules | `(tactic| walk_at "sp") => `(tactic| fail "sp")
local macro_rules | `(tactic| walk_at "cl") => `(tactic| with_reducible assumption)
local macro_rules | `(tactic| walk_at "lk") => `(tactic| with_reducible assumption)
local macro_rules | `(tactic| walk_at "it") => `(tactic| first | rfl | with_reducible assumption | exact atI_nat (by with_reducible assumption))
local macro_rules | `(tactic| walk_at "g1") => `(tactic| first
  | (with_reducible apply g_var); (focus rfl)
  | with_reducible apply g_c
  | with_reducible apply g_seq
  | with_reducible apply g_asg
  | with_reducible apply gg_name
  | with_reducible apply g_op
  | with_reducible apply g_cons
  | with_reducible apply g_nil
  | with_reducible apply g_cb
  | with_reducible apply g_fld
  | ((with_reducible apply g_kFld); (focus walk_at "hp"); (focus walk_at "cl"); (focus walk_at "cl"); (focus walk_at "lk"))
  | with_reducible apply g_call
  | walk_at "sp"
  | with_reducible apply g_ret
  | with_reducible apply g_drop
  | with_reducible apply g_test
  | with_reducible apply g_B
  | with_reducible apply g_kTest
  | with_reducible apply g_ifS
  | with_reducible apply g_kIfST
  | with_reducible apply g_kIfSF
  | with_reducible apply g_add
  | with_reducible apply g_sub
  | with_reducible apply g_lt
  | with_reducible apply g_le
  | with_reducible apply g_gt
  | with_reducible apply g_ge
  | with_reducible apply g_eqI
  | with_reducible apply g_neI
  | ((with_reducible apply g_mod); (focus first | decide | omega))
  | ((with_reducible apply g_mul); (focus first | (left; constructor <;> omega) | (right; constructor <;> omega)))
  | ((with_reducible apply g_fdiv); (focus (constructor <;> omega)))
  | ((with_reducible apply g_ixT); (focus walk_at "hp"); (focus walk_at "it"))
  | ((with_reducible apply g_ixL); (focus walk_at "hp"); (focus walk_at "it"))
  | with_reducible apply g_and
  | with_reducible apply g_or
  | with_reducible apply g_not
  | with_reducible apply g_kNotT
  | with_reducible apply g_kNotF
  | with_reducible apply g_if
  | with_reducible apply g_kAndT
  | with_reducible apply g_kAndF
  | with_reducible apply g_kOrT
  | with_reducible apply g_kOrF
  | with_reducible apply g_kIfT
  | with_reducible apply g_kIfF
  | with_reducible apply g_next
  | with_reducible apply g_andV
  | with_reducible apply g_orV
  | with_reducible apply g_notV
  | with_reducible apply g_kNotV
  | with_reducible apply g_kAndVT
  | with_reducible apply g_kAndVF
  | with_reducible apply g_chain
  | with_reducible apply g_kChainT
  | with_reducible apply g_kChainF
  | with_reducible apply g_tup
  | with_reducible apply g_lst
  | ((with_reducible apply g_kT); (focus walk_at "sz"); intro _ _ _ _ _)
  | ((with_reducible apply g_kL); (focus walk_at "sz"); intro _ _ _ _ _)
  | with_reducible apply g_un
  | with_reducible apply g_neg
  | with_reducible apply g_meth
  | ((with_reducible apply g_kMeth); (focus walk_at "hp"); (focus walk_at "lk"))
  | with_reducible apply g_prop
  | ((with_reducible apply g_kProp); (focus walk_at "hp"))
  | with_reducible apply g_make
  | with_reducible apply g_par
  | with_reducible apply g_kPar
  | ((with_reducible apply g_lenLM); (focus walk_at "hp"))
  | ((with_reducible apply g_lenTM); (focus walk_at "hp"))
  | ((with_reducible apply g_lenL); (focus walk_at "hp"))
  | ((with_reducible apply g_lenT); (focus walk_at "hp"))
  | with_reducible apply g_int1
  | with_reducible apply g_max2
  | with_reducible apply g_min2
  | ((with_reducible apply g_listL); (focus walk_at "hp"); intro _ _ _ _ _)
  | ((with_reducible apply g_listT); (focus walk_at "hp"); intro _ _ _ _ _)
  | ((with_reducible apply g_tupL); (focus walk_at "hp"); intro _ _ _ _ _)
  | ((with_reducible apply g_sum); (focus walk_at "hp"))
  | with_reducible apply g_sfld
  | with_reducible apply g_sl
  | with_reducible apply g_nopart
  | with_reducible apply g_part
  | with_reducible apply g_kPart
  | with_reducible apply g_lstRg
  | with_reducible apply g_rg1
  | with_reducible apply g_kRg1
  | with_reducible apply g_bm
  | with_reducible apply gg_sub
  | ((with_reducible apply gg_tup); (focus walk_at "hp"); (focus rfl))
  | with_reducible apply gg_cons
  | with_reducible apply gg_nil
  | with_reducible apply g_forL
  | with_reducible apply g_forT
  | with_reducible apply g_forR1
  | with_reducible apply g_forR2
  | with_reducible apply g_forE
  | with_reducible apply g_forEL
  | ((with_reducible apply g_maxT); (focus walk_at "hp"); (focus walk_at "nn"))
  | ((with_reducible apply g_maxL); (focus walk_at "hp"); (focus walk_at "nn"))
  | ((with_reducible apply g_catA); (focus walk_at "hp"); (focus walk_at "hp"); (focus walk_at "sz"); intro _ _ _ _)
  | ((with_reducible apply g_slA); (focus walk_at "hp"); intro _ _ _ _)
  | ((with_reducible apply g_tupD); (focus walk_at "hp"); intro _ _ _ _ _)
  | ((with_reducible apply g_setL); (focus walk_at "hp"); (focus walk_at "ix"); intro _ _ _)
  | ((with_reducible apply g_append); (focus walk_at "hp"); (focus walk_at "sl"); intro _ _ _)
  | ((with_reducible apply g_aug); (focus rfl))
  | with_reducible apply g_ipI
  | with_reducible apply g_retN
  | with_reducible apply g_lcR1
  | with_reducible apply g_lcR2
  | with_reducible apply g_lcL
  | with_reducible apply g_lcU
  | with_reducible apply g_lcN
  | ((with_reducible apply g_kLcG); (focus rfl))
  | with_reducible apply g_yes
  | with_reducible apply g_kLcTT
  | with_reducible apply g_kLcTF
  | ((with_reducible apply g_kLcE); (focus walk_at "hp"); (focus walk_at "sl"); intro _ _ _)
  | ((with_reducible apply g_pow); (focus (constructor <;> (try constructor) <;> decide)))
  | ((with_reducible apply g_kLRg); (focus walk_at "rg"); intro _ _ _ _ _)
  | ((with_reducible apply g_cat); (focus walk_at "hp"); (focus walk_at "hp"); (focus walk_at "sz"); intro _ _ _ _ _)
  | ((with_reducible apply g_slL); (focus walk_at "hp"); intro _ _ _ _ _)
  | with_reducible apply g_bmT
  | with_reducible apply g_break
  | with_reducible apply g_cont)
local macro_rules | `(tactic| walk_at "g0") => `(tactic| try dsimp only [L2.cxOf, L2.Cx.nox, L2.Cx.wish])
local macro_rules | `(tactic| walk_at "yn") => `(tactic| first
  | ((with_reducible apply y_kIfS); (focus walk_at "tr"))
  | ((with_reducible apply n_kIfS); (focus walk_at "tr"))
  | ((with_reducible apply y_kOr); (focus walk_at "tr"))
  | ((with_reducible apply n_kOr); (focus walk_at "tr"))
  | ((with_reducible apply y_kAnd); (focus walk_at "tr"))
  | ((with_reducible apply n_kAnd); (focus walk_at "tr"))
  | ((with_reducible apply y_kNot); (focus walk_at "tr"))
  | ((with_reducible apply n_kNot); (focus walk_at "tr"))
  | ((with_reducible apply y_kIf); (focus walk_at "tr"))
  | ((with_reducible apply n_kIf); (focus walk_at "tr"))
  | ((with_reducible apply y_kAndV); (focus walk_at "tr"))
  | ((with_reducible apply n_kAndV); (focus walk_at "tr"))
  | ((with_reducible apply y_kOrV); (focus walk_at "tr"))
  | ((with_reducible apply n_kOrV); (focus walk_at "tr"))
  | ((with_reducible apply y_kChain); (focus walk_at "tr"))
  | ((with_reducible apply n_kChain); (focus walk_at "tr"))
  | ((with_reducible apply y_kLcT); (focus walk_at "tr"))
  | ((with_reducible apply n_kLcT); (focus walk_at "tr"))
  | ((with_reducible apply y_kWh); (focus walk_at "tr"))
  | ((with_reducible apply n_kWh); (focus walk_at "tr")))
local macro_rules | `(tactic| walk_at "go") => `(tactic| repeat (first | walk_at "g1" | walk_at "yn"))
local macro_rules | `(tactic| walk_at "hp") => `(tactic| first
  | ((with_reducible apply RingIn.ex); (focus walk_at "as"); walk_at "hp")
  | ((with_reducible apply RingAt.ex); (focus walk_at "as"); walk_at "hp")
  | ((with_reducible apply RingIn.exb); (focus walk_at "as"); (focus walk_at "hp"); walk_at "hp")
  | ((with_reducible apply RingAt.exb); (focus walk_at "as"); (focus walk_at "hp"); walk_at "hp")
  | ((with_reducible apply TupK.ex); (focus walk_at "as"); walk_at "hp")
  | ((with_reducible apply TupK.exb); (focus walk_at "as"); (focus walk_at "hp"); walk_at "hp"))
local macro_rules | `(tactic| walk_at "lk") => `(tactic| first | with_reducible exact rf_spans | with_reducible exact rf_heaps | with_reducible exact rf_total | with_reducible exact rf_nr | with_reducible exact rf_wd)
local macro_rules | `(tactic| walk_at "sp") => `(tactic| first
  | ((with_reducible apply g_isiTup); (focus walk_at "hp"))
  | ((with_reducible apply g_isiLst); (focus walk_at "hp"))
  | ((with_reducible apply g_isint); (focus omega); (focus omega))
  | ((with_reducible apply g_checkn); (focus omega); (focus omega))
  | ((with_reducible apply g_rbooks); (focus walk_at "hp"))
  | ((with_reducible apply g_rpace); (focus walk_at "hp"); intro _ _ _ _)
  | ((with_reducible apply g_rlen); (focus walk_at "hp"))
  | ((with_reducible apply g_rneed); (focus walk_at "hp"); (focus omega))
  | ((with_reducible apply g_rneedM); (focus walk_at "hp"))
  | ((with_reducible apply g_rwithM); (focus walk_at "hp"))
  | ((with_reducible apply g_rspans); (focus walk_at "hp"); (focus with_reducible assumption))
  | ((with_reducible apply g_rheaps); (focus walk_at "hp"); (focus with_reducible assumption))
  | ((with_reducible apply g_rtotal); (focus walk_at "hp"); (focus with_reducible assumption)))

local macro_rules | `(tactic| walk_at "sp") => `(tactic| first
  | ((with_reducible apply g_taken); (focus walk_at "hp"); (focus first | decide | omega); (focus first | decide | omega); intro _ _ _ _ _ _))
local macro_rules | `(tactic| walk_at "hp") => `(tactic| first
  | ((with_reducible apply DiceAt.ex); (focus walk_at "as"); walk_at "hp")
  | ((with_reducible apply exb_tD); (focus walk_at "as"); (focus walk_at "hp"); walk_at "hp")
  | ((with_reducible apply exb_insD); (focus walk_at "as"); (focus walk_at "hp"); walk_at "hp")
  | ((with_reducible apply RingIn.exD); (focus walk_at "as"); (focus walk_at "hp"); walk_at "hp")
  | ((with_reducible apply TupK.exD); (focus walk_at "as"); (focus walk_at "hp"); walk_at "hp"))

theorem Exb.ex2 {l d : Addr} {H0 H H' : Hp} (h : H0 l = none) (a : Exb d H0 H) (b : Exb l H H') : Exb d H0 H' := fun c o n e => b c o (ne_of_none e h) (a c o n e)
theorem sum_set : ∀ (hs : List Int) (j : Nat) (v x : Int), hs[j]? = some x → (hs.set j v).sum = hs.sum - x + v
  | [], _, _, _, h => by cases h
  | y :: r, 0, v, x, h => by
    cases h
    rw [List.set_cons_zero, List.sum_cons, List.sum_cons]
    omega
  | y :: r, j + 1, v, x, h => by
    rw [List.set_cons_succ, List.sum_cons, List.sum_cons, sum_set r j v x (by simpa using h)]
    omega
theorem all_set {P : Int → Prop} {hs : List Int} (h : ∀ x ∈ hs, P x) (j : Nat) {v : Int} (hv : P v) : ∀ x ∈ hs.set j v, P x := fun x hx => by
  rcases List.mem_or_eq_of_mem_set hx with h1 | h1
  · exact h x h1
  · rw [h1]; exact hv
theorem all_app {P : Int → Prop} {hs : List Int} (h : ∀ x ∈ hs, P x) {v : Int} (hv : P v) : ∀ x ∈ hs ++ [v], P x := fun x hx => by
  rcases List.mem_append.mp hx with h1 | h1
  · exact h x h1
  · rw [List.mem_singleton.mp h1]; exact hv
theorem map_app (ds : List Int) (v : Int) : ds.map V.int ++ [V.int v] = (ds ++ [v]).map V.int := by rw [List.map_append]; rfl
theorem map_set' (ds : List Int) (j : Nat) (v : Int) : (ds.map V.int).set j (.int v) = (ds.set j v).map V.int := by rw [List.map_set]
/-- the greatest's first place -/
theorem g_indexMx {K : PySem.W.Frag} {H : Hp} {Q : VK} {a : Addr} {hs : List Int} (h : H a = some (.lst (hs.map V.int))) (hn : hs ≠ []) (q : ∀ j : Nat, hs[j]? = some (mx hs) → Q (.int (j : Nat)) H) : rIndex K (.ref a) [.int (mx hs)] H Q := by
  obtain ⟨j, hj, hf⟩ := first_at (mx_mem hn)
  refine ⟨a, hs.map V.int, .int (mx hs), j, .int (mx hs), rfl, rfl, SqL.of h, rfl, flat_ints hs, by rw [List.getElem?_map, hj]; rfl, beq_self_eq_true _, fun m z hm hz => ?_, q j hj⟩
  rw [List.getElem?_map] at hz
  cases e : hs[m]? with
  | none => rw [e] at hz; cases hz
  | some y =>
    rw [e] at hz
    cases hz
    have h2 := hf m hm
    rw [e] at h2
    exact beq_eq_false_iff_ne.mpr fun z => h2 (by rw [z])
theorem ixN_nat' {n j : Nat} (h : j < n) : ixN n (j : Int) = some j := by
  unfold ixN
  rw [if_pos (by omega), if_pos (by omega), Int.toNat_natCast]
theorem ixN_int {n : Nat} {k : Int} (h : 0 ≤ k ∧ k < n) : ixN n k = some k.toNat := by
  unfold ixN
  rw [if_pos h.1, if_pos h.2]
section
variable {P : Program} {w : World} {K : PySem.W.Frag} {mg : Str → Option Value} {base : Heap} {C : Addr}
def sp_dice (K : PySem.W.Frag) : Sp := fun vs H Q _ => ∃ (sc : Addr) (ns : List Int), vs = [.ref sc] ∧ Scr K H sc (ns.map V.int) ∧ ns.length ≤ 63 ∧ ∀ d H', H d = none → Ex H H' → DiceAt K H' d → Q (.ref d) H'
theorem ok_dice (Z : Blt mg) (G : GFun K mg "_law_dice" s__law_dice) : Df P w K mg base 1 "_law_dice" ["_law_script"] (sp_dice K) := by
  refine Df.of G sc__law_dice b__law_dice (fun vs H Q E h => ?_) (fun f cdv A outer s H vs Q E hr h => ?_)
  · obtain ⟨sc, ns, rfl, _⟩ := h
    rfl
  · obtain ⟨sc, ns, rfl, hsc, hns, q⟩ := h
    have hs := hsc.sq
    refine ⟨_, PSs.nox (pss_cons (ps_set (i := 1) sc__law_dice.nd rfl (by first | exact Or.inl rfl | exact Or.inr rfl) pe_int)
      (pss_cons (ps_for PassesOwn.never rfl (pi_list (pv 0)) (pg_name (i := 2) sc__law_dice.nd rfl (by first | exact Or.inl rfl | exact Or.inr rfl)) (pss_one (ps_set (i := 1) sc__law_dice.nd rfl (by first | exact Or.inl rfl | exact Or.inr rfl) (pe_op op_mod (pe_callTy c_int1 (by rfl) Z.zint (by decide +kernel) (pa_cons (pe_op op_add (pe_op op_add (pe_op op_mul (pv 1) pe_int) (pe_op op_mul (pe_op op_mod (pe_callTy c_int1 (by rfl) Z.zint (by decide +kernel) (pa_cons (pv 2) pa_nil)) pe_int) pe_int)) pe_int) pa_nil)) pe_int))))
      (pss_one (ps_ret (pe_lst (pa_cons (pv 0) (pa_cons pe_int (pa_cons (pe_op op_mul (pv 1) (pe_callTy c_int1 (by rfl) Z.zint (by decide +kernel) (pa_cons (pe_cmpR op_gt (pe_callB c_len (by rfl) Z.zlen PySem.boot_len (pa_cons (pv 0) pa_nil)) pe_int (nomark _)) pa_nil))) (pa_cons pe_int pa_nil))))))))), ?_⟩
    walk_at "g0"
    walk_at "go"
    refine g_kForL hs (fun i σ H' => ∃ (m : Int) (v2 : Option V), σ = [some (.ref sc), some (.int m), v2] ∧ H' = H ∧ 0 ≤ m ∧ m < 2147483647) ⟨0, none, rfl, rfl, by decide, by decide⟩ (fun i σ H' _ hP => by
      obtain ⟨_, _, _, rfl, _⟩ := hP
      exact hs) ?_ ?_
    · rintro i x σ H2 hx ⟨m, v2, rfl, rfl, m1, m2⟩
      rw [List.getElem?_map] at hx
      obtain ⟨c, hc, rfl⟩ := Option.map_eq_some_iff.mp hx
      walk_at "go"
      exact ⟨_, _, rfl, rfl, Int.emod_nonneg _ (by decide), Int.emod_lt_of_pos _ (by decide)⟩
    · rintro σ H2 ⟨m, v2, rfl, rfl, m1, m2⟩
      walk_at "go"
      refine g_int1b ?_
      have hb : (if decide ((2 : Int) < (ns.length : Int)) then (1 : Int) else 0) = 0 ∨ (if decide ((2 : Int) < (ns.length : Int)) then (1 : Int) else 0) = 1 := by
        split
        · exact .inr rfl
        · exact .inl rfl
      generalize (if decide ((2 : Int) < (ns.length : Int)) then (1 : Int) else 0) = b at hb
      have hmb : 0 ≤ m * b ∧ m * b < 2147483647 := by
        rcases hb with rfl | rfl <;> omega
      walk_at "go"
      rename_i d H3 nd e3 hd
      exact q d H3 nd e3 ⟨sc, ns, 0, _, 0, hd, hsc.ex e3, hns, by decide, hmb.1, hmb.2⟩
def sp_next (K : PySem.W.Frag) : Sp := sp_taken K
theorem ok_next (Z : Blt mg) (G : GFun K mg "_law_next" s__law_next) : Df P w K mg base 1 "_law_next" ["_law_dice_here", "_law_many"] (sp_taken K) := by
  refine Df.of G sc__law_next b__law_next (fun vs H Q E h => ?_) (fun f cdv A outer s H vs Q E hr h => ?_)
  · obtain ⟨d, many, rfl, _⟩ := h
    rfl
  · obtain ⟨d, many, rfl, ⟨sc, ns, p, m, r, hd, hsc, z, h1, h2, h3⟩, ⟨m1, m2⟩, q⟩ := h
    have hs := hsc.sq
    refine ⟨_, PSs.nox (pss_cons (ps_if (pt_cmpR op_gt (pe_ix ix_list (pv 0) pe_int (fun _ _ => rfl)) pe_int (nomark _)) (pss_cons (ps_set (i := 2) sc__law_next.nd rfl (by first | exact Or.inl rfl | exact Or.inr rfl) (pe_op op_mod (pe_callTy c_int1 (by rfl) Z.zint (by decide +kernel) (pa_cons (pe_ix ix_list (pv 0) pe_int (fun _ _ => rfl)) pa_nil)) (pv 1)))
          (pss_cons (ps_asg (pe_op op_fdiv (pe_ix ix_list (pv 0) pe_int (fun _ _ => rfl)) (pv 1)) (pg_sub (pv 0) pe_int set_list))
          (pss_one (ps_ret (pv 2))))) pss_nil)
      (pss_cons (ps_asg (pe_op op_add (pe_ix ix_list (pv 0) pe_int (fun _ _ => rfl)) pe_int) (pg_sub (pv 0) pe_int set_list))
      (pss_cons (ps_if (pt_cmpR op_le (pe_ix ix_list (pv 0) pe_int (fun _ _ => rfl)) (pe_callB c_len (by rfl) Z.zlen PySem.boot_len (pa_cons (pe_ix ix_list (pv 0) pe_int (fun _ _ => rfl)) pa_nil)) (nomark _)) (pss_cons (ps_set (i := 3) sc__law_next.nd rfl (by first | exact Or.inl rfl | exact Or.inr rfl) (pe_ix ix_list (pe_ix ix_list (pv 0) pe_int (fun _ _ => rfl)) (pe_op op_sub (pe_ix ix_list (pv 0) pe_int (fun _ _ => rfl)) pe_int) (fun _ _ => rfl)))
          (pss_cons (ps_asg (pe_ifExp (pt_cmpR op_ge (pv 3) (pe_op op_pow pe_int pe_int) (nomark _)) (pe_op op_fdiv (pv 3) (pv 1)) pe_int) (pg_sub (pv 0) pe_int set_list))
          (pss_one (ps_ret (pe_op op_mod (pe_callTy c_int1 (by rfl) Z.zint (by decide +kernel) (pa_cons (pv 3) pa_nil)) (pv 1)))))) pss_nil)
      (pss_cons (ps_asg (pe_op op_mod (pe_callTy c_int1 (by rfl) Z.zint (by decide +kernel) (pa_cons (pe_op op_mul (pe_ix ix_list (pv 0) pe_int (fun _ _ => rfl)) pe_int) pa_nil)) pe_int) (pg_sub (pv 0) pe_int set_list))
      (pss_one (ps_ret (pe_op op_mod (pe_callTy c_int1 (by rfl) Z.zint (by decide +kernel) (pa_cons (pe_op op_fdiv (pe_ix ix_list (pv 0) pe_int (fun _ _ => rfl)) pe_int) pa_nil)) (pv 1)))))))), ?_⟩
    walk_at "g0"
    walk_at "go"
    refine g_kIfS (fun h => ?_) (fun h => ?_)
    · have h := of_decide_eq_true h
      walk_at "go"
      rename_i H2 e2 hd2
      exact q _ H2 (Int.emod_nonneg _ (by omega)) (Int.emod_lt_of_pos _ m1) ⟨e2, dice_set hd e2 hd2 hsc z h1 h2 h3⟩
    · walk_at "go"
      rename_i H2 e2 hd2
      have hs2 := (hsc.exb e2 hd).sq
      walk_at "go"
      refine g_kIfS (fun h => ?_) (fun h => ?_)
      · have h := of_decide_eq_true h
        have hpl : p.toNat < ns.length := by omega
        walk_at "go"
        refine g_ixL (v := .int ns[p.toNat]) hs2 ?_ ?_
        · have e0 : atI (ns.map V.int) (p.toNat : Int) = some (.int ns[p.toNat]) := atI_nat (by rw [List.getElem?_map, List.getElem?_eq_getElem hpl]; rfl)
          rw [← e0]
          congr 1
          omega
        walk_at "go"
        refine g_kIf (fun h4 => ?_) (fun h4 => ?_)
        · walk_at "go"
          rename_i H4 e4 hd4
          refine q _ H4 (Int.emod_nonneg _ (by omega)) (Int.emod_lt_of_pos _ m1) ⟨e2.trans e4, dice_set hd (e2.trans e4) hd4 hsc z (by omega) h2 h3⟩
        · walk_at "go"
          rename_i H4 e4 hd4
          refine q _ H4 (Int.emod_nonneg _ (by omega)) (Int.emod_lt_of_pos _ m1) ⟨e2.trans e4, dice_set hd (e2.trans e4) hd4 hsc z (by omega) h2 h3⟩
      · walk_at "go"
        rename_i H3 e3 hd3
        refine q _ H3 (Int.emod_nonneg _ (by omega)) (Int.emod_lt_of_pos _ m1) ⟨e2.trans e3, dice_set hd (e2.trans e3) hd3 hsc z (by omega) (Int.emod_nonneg _ (by decide)) (Int.emod_lt_of_pos _ (by decide))⟩
theorem g_next' {H : Hp} {Q : VK} {E : XK} {d : Addr} {many : Int} (D : DiceAt K H d) (h1 : 0 < many) (h2 : many < 1073741824) (q : ∀ k H', 0 ≤ k → k < many → Exb d H H' → DiceAt K H' d → Q (.int k) H') : sp_taken K [.ref d, .int many] H Q E :=
  ⟨d, many, rfl, D, ⟨h1, h2⟩, fun k H' a b c => q k H' a b c.1 c.2⟩
local macro_rules | `(tactic| walk_at "sp") => `(tactic| first
  | ((with_reducible apply g_next'); (focus walk_at "hp"); (focus first | decide | omega); (focus first | decide | omega); intro _ _ _ _ _ _))

def sp_lring (K : PySem.W.Frag) : Sp := fun vs H Q _ => ∃ (d : Addr) (size most : Int), vs = [.ref d, .int size, .int most] ∧ DiceAt K H d ∧ (2 ≤ size ∧ size ≤ 8) ∧ (1 ≤ most ∧ most ≤ 30) ∧
  ∀ p a b ds hs H', H p = none → Exb d H H' → DiceAt K H' d → H' p = some (.tup [.ref a, .ref b]) → TupK H' a (ds.map V.int) → TupK H' b (hs.map V.int) → RingOk ds hs → (ds.length : Int) ≤ size → (∀ x ∈ ds, x ≤ most) → Q (.ref p) H'
theorem ok_lring (Z : Blt mg) (D__law_next : Df P w K mg base 1 "_law_next" ["_law_dice_here", "_law_many"] (sp_taken K)) (G : GFun K mg "_law_ring" s__law_ring) : Df P w K mg base 3 "_law_ring" ["_law_d", "_law_size", "_law_most"] (sp_lring K) := by
  refine Df.of G sc__law_ring b__law_ring (fun vs H Q E h => ?_) (fun f cdv A outer s H vs Q E hr h => ?_)
  · obtain ⟨d, size, most, rfl, _⟩ := h
    rfl
  · obtain ⟨d, size, most, rfl, D, ⟨m1, m2⟩, ⟨f1, f2⟩, q⟩ := h
    refine ⟨_, PSs.nox (pss_cons (ps_set (i := 3) sc__law_ring.nd rfl (by first | exact Or.inl rfl | exact Or.inr rfl) (pe_op op_add pe_int (pg D__law_next hr (pa_cons (pv 0) (pa_cons (pe_op op_sub (pv 1) pe_int) pa_nil)))))
      (pss_cons (ps_setLc (i := 4) (own := [("_law_k", 6)]) rfl sc__law_ring.nd rfl rfl (sw_true rfl rfl rfl (by decide +kernel)) (pi_range1 (by rfl) Z.zrange (pa_cons (pv 3) pa_nil)) (blkOk_by (N := N__law_ring) (sc := defScope s__law_ring) (by decide +kernel)) (fun _ _ _ _ _ => (pg_name (i := 6) sc__law_ring.nd rfl (by first | exact Or.inl rfl | exact Or.inr rfl))) (fun _ _ _ _ _ => pts_nil) (fun _ _ _ _ _ => (pe_op op_add pe_int (pg D__law_next hr (pa_cons (pv 0) (pa_cons (pv 2) pa_nil))))))
      (pss_cons (ps_setLc (i := 5) (own := [("_law_k", 6)]) rfl sc__law_ring.nd rfl rfl (sw_true rfl rfl rfl (by decide +kernel)) (pi_range1 (by rfl) Z.zrange (pa_cons (pv 3) pa_nil)) (blkOk_by (N := N__law_ring) (sc := defScope s__law_ring) (by decide +kernel)) (fun _ _ _ _ _ => (pg_name (i := 6) sc__law_ring.nd rfl (by first | exact Or.inl rfl | exact Or.inr rfl))) (fun _ _ _ _ _ => pts_nil) (fun _ _ _ _ _ => (pg D__law_next hr (pa_cons (pv 0) (pa_cons (pe_ix (ix_listK K) (pe_lst (pa_cons pe_int (pa_cons pe_int pa_nil))) (pg D__law_next hr (pa_cons (pv 0) (pa_cons pe_int pa_nil))) (fun _ _ => rfl)) pa_nil)))))
      (pss_cons (ps_set (i := 6) sc__law_ring.nd rfl (by first | exact Or.inl rfl | exact Or.inr rfl) (pg D__law_next hr (pa_cons (pv 0) (pa_cons (pv 3) pa_nil))))
      (pss_cons (ps_asg (pe_callB (c_max2 rfl) (by rfl) Z.zmax (by decide +kernel) (pa_cons pe_int (pa_cons (pe_ix ix_list (pv 5) (pv 6) (fun _ _ => rfl)) pa_nil))) (pg_sub (pv 5) (pv 6) set_list))
      (pss_cons (ps_while PassesOwn.never (pt_cmpR op_gt (pe_callB (cr_sum rfl) (by rfl) Z.zsum (by decide +kernel) (pa_cons (pv 5) pa_nil)) pe_int (nomark _)) (pss_one (ps_asg pe_int (pg_sub (pv 5) (pe_bm PySem.F.plainAttrs_list PySem.F.slot_list_index PySem.F.type_list_index mt_index (pv 5) (pa_cons (pe_callB (cr_max rfl) (by rfl) Z.zmax (by decide +kernel) (pa_cons (pv 5) pa_nil)) pa_nil)) set_list))))
      (pss_one (ps_ret (pe_tup (pa_cons (pe_callTy c_tuple_of (by rfl) Z.ztuple (by decide +kernel) (pa_cons (pv 4) pa_nil)) (pa_cons (pe_callTy c_tuple_of (by rfl) Z.ztuple (by decide +kernel) (pa_cons (pv 5) pa_nil)) pa_nil))))))))))), ?_⟩
    walk_at "g0"
    walk_at "go"
    rename_i n H1 n0 n1 e1 D1
    have Hd : ∀ {H0 : Hp} {A : Addr}, DiceAt K H0 d → H0 A = none → A ≠ d := fun D0 nA => by
      obtain ⟨_, hd⟩ := DiceAt.lst D0
      exact Ne.symm (ne_of_none hd nA)
    have Hn : ∀ {H0 H' : Hp} {A : Addr}, DiceAt K H' d → Exb d H0 H' → H' A = none → H0 A = none := fun {H0 H' A} D0 e nA => by
      cases hz : H0 A with
      | none => rfl
      | some o => rw [e _ _ (Hd D0 nA) hz] at nA; cases nA
    refine g_kLcR1 ⟨by omega, by omega⟩ (fun A i H' => ∃ ds : List Int, Exb d H1 H' ∧ DiceAt K H' d ∧ H' A = some (.lst (ds.map V.int)) ∧ ds.length = i ∧ ∀ x ∈ ds, 1 ≤ x ∧ x ≤ most) (fun A H5 nA e5 hA => ⟨[], Exb.of e5, D1.ex e5, hA, rfl, fun x hx => by cases hx⟩) ?_ ?_
    · rintro A i H5 nA hi ⟨ds, e5, D5, hA, rfl, hds⟩
      walk_at "go"
      rename_i k2 H6 k20 k21 e6 D6
      have hAd := Hd D1 nA
      have hA6 := e6 _ _ hAd hA
      exact g_kLcE hA6 (by rw [List.length_map]; exact lt1000 (by omega)) fun H7 e7 hA7 => ⟨ds ++ [1 + k2], Exb.ex2 nA (e5.trans e6) e7, D6.exb e7 (Ne.symm hAd) hA6, by rw [hA7, map_app], by rw [List.length_append]; rfl, all_app hds ⟨by omega, by omega⟩⟩
    · rintro A H5 nA ⟨ds, e5, D5, hA, hlen, hds⟩
      have hAd := Hd D1 nA
      have nA0 := Hn D1 e1 nA
      walk_at "go"
      refine g_kLcR1 ⟨by omega, by omega⟩ (fun B i H' => ∃ hs : List Int, Exb d H5 H' ∧ DiceAt K H' d ∧ H' B = some (.lst (hs.map V.int)) ∧ hs.length = i ∧ ∀ x ∈ hs, 0 ≤ x ∧ x ≤ 12) (fun B H6 nB e6 hB => ⟨[], Exb.of e6, D5.ex e6, hB, rfl, fun x hx => by cases hx⟩) ?_ ?_
      · rintro B i H6 nB hi ⟨hs, e6, D6, hB, rfl, hhs⟩
        walk_at "go"
        rename_i l H7 nl e7 hl k H8 k0 k1 e8 D8
        have hfar : ∃ far, atI [V.int 2, .int 4] k = some (.int far) ∧ 2 ≤ far ∧ far ≤ 4 := by
          have : k = 0 ∨ k = 1 := by omega
          rcases this with rfl | rfl
          · exact ⟨2, rfl, by decide, by decide⟩
          · exact ⟨4, rfl, by decide, by decide⟩
        obtain ⟨far, hfar, g1, g2⟩ := hfar
        refine g_ixL (SqL.of (e8 _ _ (Hd D6 nl) hl)) hfar ?_
        walk_at "go"
        rename_i k2 H9 k20 k21 e9 D9
        have hBd := Hd D5 nB
        have e69 : Exb d H6 H9 := ((Exb.of e7).trans e8).trans e9
        have hB9 := e69 _ _ hBd hB
        exact g_kLcE hB9 (by rw [List.length_map]; exact lt1000 (by omega)) fun H10 e10 hB10 => ⟨hs ++ [k2], Exb.ex2 nB (e6.trans e69) e10, D9.exb e10 (Ne.symm hBd) hB9, by rw [hB10, map_app], by rw [List.length_append]; rfl, all_app hhs ⟨by omega, by omega⟩⟩
      · rintro B H6 nB ⟨hs, e6, D6, hB, hlenh, hhs⟩
        have hBd := Hd D5 nB
        have hAB : A ≠ B := ne_of_none hA nB
        have nB0 := Hn D5 (e1.trans e5) nB
        have hA6 := e6 _ _ hAd hA
        have e06 := (e1.trans e5).trans e6
        walk_at "go"
        rename_i kk H7 kk0 kk1 e7 D7
        have hA7 := e7 _ _ hAd hA6
        have hB7 := e7 _ _ hBd hB
        have hkl : kk.toNat < hs.length := by omega
        have hkv : atI (hs.map V.int) kk = some (.int hs[kk.toNat]) := by
          have e0 : atI (hs.map V.int) (kk.toNat : Int) = some (.int hs[kk.toNat]) := atI_nat (by rw [List.getElem?_map, List.getElem?_eq_getElem hkl]; rfl)
          rw [← e0]
          congr 1
          omega
        have hkb := hhs _ (List.getElem_mem hkl)
        walk_at "go"
        refine g_setL hB7 (by rw [List.length_map]; exact ixN_int ⟨by omega, by omega⟩) fun H8 e8 hB8 => ?_
        rw [map_set'] at hB8
        have hs8 : ∀ x ∈ hs.set kk.toNat (max 1 hs[kk.toNat]), 0 ≤ x ∧ x ≤ 12 := all_set hhs _ ⟨by omega, by omega⟩
        have hsum8 := sum_set hs kk.toNat (max 1 hs[kk.toNat]) _ (List.getElem?_eq_getElem hkl)
        have hone : 1 ≤ (hs.set kk.toNat (max 1 hs[kk.toNat])).sum := by
          have h0 := sum_set hs kk.toNat 0 _ (List.getElem?_eq_getElem hkl)
          have h2 := (sum_le (lo := 0) (hi := 12) (ds := hs.set kk.toNat 0) (all_set hhs _ (by decide))).1
          rw [Int.zero_mul] at h2
          omega
        walk_at "go"
        refine g_while (fun m σ H' => ∃ (hs : List Int), σ = [some (.ref d), some (.int size), some (.int most), some (.int (1 + 1 + n)), some (.ref A), some (.ref B), some (.int kk)] ∧ Exb d H H' ∧ DiceAt K H' d ∧ H' A = some (.lst (ds.map V.int)) ∧ H' B = some (.lst (hs.map V.int)) ∧ hs.length = ds.length ∧ (∀ x ∈ hs, 0 ≤ x ∧ x ≤ 12) ∧ 1 ≤ hs.sum ∧ m = hs.sum.toNat) _
          ⟨hs.set kk.toNat (max 1 hs[kk.toNat]), rfl, Exb.ex2 nB0 (e06.trans e7) e8, D7.exb e8 (Ne.symm hBd) hB7, e8 _ _ hAB hA7, hB8, by rw [List.length_set]; omega, hs8, hone, rfl⟩ ?_
        rintro m σ H8 ⟨hs, rfl, e8, D8, hA8, hB8, hl8, hhs8, hs8, rfl⟩
        walk_at "go"
        refine g_kWh (fun h => ?_) (fun h => ?_)
        · have h := of_decide_eq_true h
          have hne : hs ≠ [] := by
            intro z
            rw [z] at h
            exact absurd h (by decide)
          walk_at "go"
          refine g_kBM_list (SqL.of hB8) ?_
          walk_at "go"
          refine g_indexMx hB8 hne fun j hj => ?_
          have hjl : j < hs.length := (List.getElem?_eq_some_iff.mp hj).1
          have hm := mx_mem hne
          have hmb := hhs8 _ hm
          have hm1 : 2 ≤ mx hs := by
            have := sum_le (lo := 0) (hi := mx hs) (ds := hs) fun x hx => ⟨(hhs8 x hx).1, le_mx hx⟩
            have h2 := this.2
            by_cases hz : mx hs ≤ 1
            · have h3 : mx hs * (hs.length : Int) ≤ 1 * (hs.length : Int) := Int.mul_le_mul_of_nonneg_right hz (by omega)
              have h4 : mx hs * (hs.length : Int) = (hs.length : Int) * mx hs := Int.mul_comm _ _
              omega
            · omega
          refine g_setL hB8 (by rw [List.length_map]; exact ixN_nat' hjl) fun H9 e9 hB9 => ?_
          rw [map_set'] at hB9
          have hsum := sum_set hs j 1 _ hj
          have h0 := sum_set hs j 0 _ hj
          have h2 := (sum_le (lo := 0) (hi := 12) (ds := hs.set j 0) (all_set hhs8 _ (by decide))).1
          rw [Int.zero_mul] at h2
          exact ⟨_, by show (hs.set j 1).sum.toNat < _; omega, hs.set j 1, rfl, Exb.ex2 nB0 e8 e9, D8.exb e9 (Ne.symm hBd) hB8, e9 _ _ hAB hA8, hB9, by rw [List.length_set]; exact hl8, all_set hhs8 j ⟨by omega, by omega⟩, by omega, rfl⟩
        · have h := of_decide_eq_false h
          walk_at "go"
          rename_i a Ha na ea ta b Hb nb eb tb p Hp np ep hp
          have e9 := (ea.trans eb).trans ep
          refine q p a b ds hs Hp ?_ (e8.trans (Exb.of e9)) (D8.ex e9) hp (ta.ex (eb.trans ep)) (tb.ex ep) ⟨by omega, by omega, hl8, fun x hx => ?_, hhs8, by omega, by omega⟩ (by omega) fun x hx => (hds x hx).2
          · exact Hn D8 e8 (by
              cases hz : H8 p with
              | none => rfl
              | some o => rw [eb _ _ (ea _ _ hz)] at np; cases np)
          · have := hds x hx
            omega
end
end G48

/-! the course as numbers -/
namespace G48
open PySem PySem.Spec PyProof.Rows L2 Evl
def prv (N r : Nat) : Nat := if r = 0 then N - 1 else r - 1
def posn (N b r : Nat) : Nat := if b ≤ r then r - b else r + N - b
theorem prv_lt {N r : Nat} (h : r < N) : prv N r < N := by unfold prv; split <;> omega
theorem posn_prv {N b r : Nat} (hr : r < N) (hb : b < N) (ne : r ≠ b) : posn N b (prv N r) < posn N b r := by
  unfold posn prv
  split <;> split <;> split <;> omega
/-- the end of reading number n of reader r -/
def X (d : Nat → Int) (h : Nat → Nat) (N b : Nat) (n r : Nat) : Int :=
  d r + max (if _h1 : 0 < n then X d h N b (n - 1) r else 0) (if _h2 : h r ≤ n ∧ (0 < h r ∨ posn N b (prv N r) < posn N b r) then X d h N b (n - h r) (prv N r) else 0)
termination_by (n, posn N b r)
decreasing_by
  · exact Prod.Lex.left _ _ (by omega)
  · by_cases z : 0 < h r
    · exact Prod.Lex.left _ _ (by omega)
    · have e : n - h r = n := by omega
      rw [e]
      exact Prod.Lex.right _ (by omega)
/-- a ring's numbers -/
structure Rg (d : Nat → Int) (h : Nat → Nat) (N b B : Nat) (S D : Int) : Prop where
  n2 : 2 ≤ N
  lb : b < N
  hb : 0 < h b
  hB : ∀ r, r < N → h r ≤ B
  d1 : ∀ r, r < N → 1 ≤ d r
  dD : ∀ r, r < N → d r ≤ D
  full : ∃ m, m < N ∧ d m = D
section
variable {d : Nat → Int} {h : Nat → Nat} {N b B : Nat} {S D : Int}
theorem X_rec (R : Rg d h N b B S D) {n r : Nat} (hr : r < N) : X d h N b n r = d r + max (if 0 < n then X d h N b (n - 1) r else 0) (if h r ≤ n then X d h N b (n - h r) (prv N r) else 0) := by
  rw [X]
  have e1 : (if _h1 : 0 < n then X d h N b (n - 1) r else 0) = if 0 < n then X d h N b (n - 1) r else 0 := by split <;> rfl
  have e2 : (if _h2 : h r ≤ n ∧ (0 < h r ∨ posn N b (prv N r) < posn N b r) then X d h N b (n - h r) (prv N r) else 0) = if h r ≤ n then X d h N b (n - h r) (prv N r) else 0 := by
    by_cases z : h r ≤ n
    · rw [if_pos z, dif_pos]
      refine ⟨z, ?_⟩
      by_cases y : 0 < h r
      · exact .inl y
      · refine .inr (posn_prv hr R.lb ?_)
        intro e
        rw [e] at y
        exact y R.hb
    · rw [if_neg z, dif_neg (fun q => z q.1)]
  rw [e1, e2]
theorem X_same (R : Rg d h N b B S D) {n r : Nat} (hr : r < N) (hn : 0 < n) : d r + X d h N b (n - 1) r ≤ X d h N b n r := by
  rw [X_rec R hr (n := n), if_pos hn]
  omega
theorem X_hop (R : Rg d h N b B S D) {n r : Nat} (hr : r < N) (hn : h r ≤ n) : d r + X d h N b (n - h r) (prv N r) ≤ X d h N b n r := by
  rw [X_rec R hr (n := n), if_pos hn]
  omega
theorem X_self (R : Rg d h N b B S D) {n r : Nat} (hr : r < N) : d r ≤ X d h N b n r ∧ 1 ≤ X d h N b n r := by
  have h1 : d r ≤ X d h N b n r := by
    induction n with
    | zero =>
      rw [X_rec R hr, if_neg (by omega)]
      omega
    | succ n ih =>
      have := X_same R hr (n := n + 1) (by omega)
      have := R.d1 r hr
      rw [Nat.add_sub_cancel] at *
      omega
  exact ⟨h1, by have := R.d1 r hr; omega⟩
/-- readers back from r, sums along them -/
def bkw (N : Nat) : Nat → Nat → Nat
  | r, 0 => r
  | r, k + 1 => bkw N (prv N r) k
def Sg (f : Nat → Int) (N : Nat) : Nat → Nat → Int
  | _, 0 => 0
  | r, k + 1 => f r + Sg f N (prv N r) k
def Mx (d : Nat → Int) (N : Nat) : Nat → Nat → Int
  | r, 0 => d r
  | r, k + 1 => max (d r) (Mx d N (prv N r) k)
theorem pv_lt : ∀ {k r : Nat}, r < N → bkw N r k < N
  | 0, _, h => h
  | k + 1, _, h => pv_lt (k := k) (prv_lt h)
theorem pv_add : ∀ (a c r : Nat), bkw N r (a + c) = bkw N (bkw N r a) c
  | 0, c, r => by rw [Nat.zero_add]; rfl
  | a + 1, c, r => by
    rw [show a + 1 + c = (a + c) + 1 by omega]
    exact pv_add a c (prv N r)
theorem Sg_add (f : Nat → Int) : ∀ (a c r : Nat), Sg f N r (a + c) = Sg f N r a + Sg f N (bkw N r a) c
  | 0, c, r => by
    rw [Nat.zero_add]
    show _ = 0 + Sg f N r c
    omega
  | a + 1, c, r => by
    rw [show a + 1 + c = (a + c) + 1 by omega]
    show f r + Sg f N (prv N r) (a + c) = f r + Sg f N (prv N r) a + Sg f N (bkw N (prv N r) a) c
    rw [Sg_add f a c]
    omega
theorem pv_sub : ∀ {k r : Nat}, k ≤ r → bkw N r k = r - k
  | 0, _, _ => rfl
  | k + 1, r, h => by
    show bkw N (prv N r) k = r - (k + 1)
    have e : prv N r = r - 1 := if_neg (by omega)
    rw [e, pv_sub (by omega)]
    omega
theorem pv_up {r m : Nat} (hm : m < N) : bkw N r (r + 1 + (N - 1 - m)) = m := by
  rw [pv_add, pv_add, pv_sub (Nat.le_refl r), Nat.sub_self]
  show bkw N (prv N 0) (N - 1 - m) = m
  have e : prv N 0 = N - 1 := if_pos rfl
  rw [e, pv_sub (by omega)]
  omega
theorem pv_N {r : Nat} (hr : r < N) : bkw N r N = r := by
  have := pv_up (r := r) hr
  rw [show r + 1 + (N - 1 - r) = N by omega] at this
  exact this
theorem Sg_N (f : Nat → Int) : ∀ {r : Nat}, r < N → Sg f N r N = Sg f N (N - 1) N := by
  have step : ∀ r, r + 1 < N → Sg f N r N = Sg f N (r + 1) N := fun r hr => by
    have e1 : Sg f N (r + 1) (N + 1) = f (r + 1) + Sg f N r N := by
      show f (r + 1) + Sg f N (prv N (r + 1)) N = _
      have e : prv N (r + 1) = r := (if_neg (by omega)).trans (by omega)
      rw [e]
    have e2 : Sg f N (r + 1) (N + 1) = Sg f N (r + 1) N + f (r + 1) := by
      rw [Sg_add, pv_N hr]
      show _ + (f (r + 1) + 0) = _
      omega
    omega
  have all : ∀ k r, r + k + 1 = N → Sg f N r N = Sg f N (N - 1) N := by
    intro k
    induction k with
    | zero =>
      intro r hr
      rw [show r = N - 1 by omega]
    | succ k ih =>
      intro r hr
      rw [step r (by omega)]
      exact ih (r + 1) (by omega)
  intro r hr
  exact all (N - 1 - r) r (by omega)
theorem Sg_list (xs : List Int) : ∀ r, r < xs.length → Sg (fun i => xs.getD i 0) N r (r + 1) = (xs.take (r + 1)).sum
  | 0, h => by
    cases xs with
    | nil => cases h
    | cons x t =>
      show x + 0 = (x :: []).sum
      simp
  | r + 1, h => by
    show xs.getD (r + 1) 0 + Sg (fun i => xs.getD i 0) N (prv N (r + 1)) (r + 1) = _
    have e : prv N (r + 1) = r := (if_neg (by omega)).trans (by omega)
    rw [e, Sg_list xs r (by omega), List.take_add_one (i := r + 1), List.getElem?_eq_getElem h, List.sum_append]
    have e2 : xs.getD (r + 1) 0 = xs[r + 1] := by simp [List.getD, List.getElem?_eq_getElem h]
    rw [e2]
    simp
    omega
theorem Sg_tot {xs : List Int} (hN : xs.length = N) {r : Nat} (hr : r < N) : Sg (fun i => xs.getD i 0) N r N = xs.sum := by
  rw [Sg_N _ hr]
  have := Sg_list (N := N) xs (N - 1) (by omega)
  rw [show N - 1 + 1 = N by omega] at this
  rw [this, List.take_of_length_le (by omega)]
theorem Sg_per {f : Nat → Int} {k r : Nat} {T : Int} (hT : ∀ r, r < N → Sg f N r N = T) (hr : r < N) : Sg f N r (k + N) = Sg f N r k + T := by
  rw [Sg_add, hT _ (pv_lt hr)]
theorem Sg_nn {f : Nat → Int} (hf : ∀ r, r < N → 0 ≤ f r) : ∀ {k r : Nat}, r < N → 0 ≤ Sg f N r k
  | 0, _, _ => Int.le_refl _
  | k + 1, r, hr => by
    show 0 ≤ f r + Sg f N (prv N r) k
    have := hf r hr
    have := Sg_nn hf (k := k) (prv_lt hr)
    omega
theorem Sg_mono {f : Nat → Int} (hf : ∀ r, r < N → 0 ≤ f r) {j k r : Nat} (hr : r < N) (hjk : j ≤ k) : Sg f N r j ≤ Sg f N r k := by
  rw [show k = j + (k - j) by omega, Sg_add]
  have := Sg_nn hf (k := k - j) (pv_lt (k := j) hr)
  omega
theorem Mx_le (hD : ∀ r, r < N → d r ≤ D) : ∀ {k r : Nat}, r < N → Mx d N r k ≤ D
  | 0, r, hr => hD r hr
  | k + 1, r, hr => by
    show max (d r) (Mx d N (prv N r) k) ≤ D
    have := hD r hr
    have := Mx_le hD (k := k) (prv_lt hr)
    omega
theorem Mx_self : ∀ {k r : Nat}, d r ≤ Mx d N r k
  | 0, _ => Int.le_refl _
  | k + 1, r => by
    show d r ≤ max (d r) (Mx d N (prv N r) k)
    omega
theorem Mx_ge : ∀ {k j r : Nat}, j ≤ k → d (bkw N r j) ≤ Mx d N r k
  | k, 0, r, _ => Mx_self
  | k + 1, j + 1, r, h => by
    show d (bkw N (prv N r) j) ≤ max (d r) (Mx d N (prv N r) k)
    have := Mx_ge (k := k) (j := j) (r := prv N r) (by omega)
    omega
theorem Mx_step : ∀ {k r : Nat}, Mx d N r k ≤ Mx d N r (k + 1)
  | 0, r => by
    show d r ≤ max (d r) _
    omega
  | k + 1, r => by
    show max (d r) (Mx d N (prv N r) k) ≤ max (d r) (Mx d N (prv N r) (k + 1))
    have := Mx_step (k := k) (r := prv N r)
    omega
theorem Mx_mono {j k r : Nat} (h : j ≤ k) : Mx d N r j ≤ Mx d N r k := by
  induction k with
  | zero => rw [show j = 0 by omega]; exact Int.le_refl _
  | succ k ih =>
    by_cases e : j = k + 1
    · rw [e]; exact Int.le_refl _
    · exact Int.le_trans (ih (by omega)) Mx_step
theorem Mx_full (R : Rg d h N b B S D) {k r : Nat} (hr : r < N) (hk : N - 1 ≤ k) : Mx d N r k = D := by
  obtain ⟨m, hm, e⟩ := R.full
  have h1 := Mx_le R.dD (k := k) hr
  have h2 : d m ≤ Mx d N r k := by
    by_cases z : m ≤ r
    · have := Mx_ge (d := d) (N := N) (k := k) (j := r - m) (r := r) (by omega)
      rw [pv_sub (by omega), show r - (r - m) = m by omega] at this
      exact this
    · have := Mx_ge (d := d) (N := N) (k := k) (j := r + 1 + (N - 1 - m)) (r := r) (by omega)
      rw [pv_up hm] at this
      exact this
  omega
def Hs (h : Nat → Nat) (N r k : Nat) : Int := Sg (fun i => (h i : Int)) N r k
def Wv (d : Nat → Int) (h : Nat → Nat) (N r k : Nat) (n : Int) : Int := Sg d N r (k + 1) + (n - Hs h N r k) * Mx d N r k
theorem mul_succ' (a m : Int) : (a + 1) * m = a * m + m := by rw [Int.add_mul, Int.one_mul]
theorem Hs_nn {r k : Nat} (hr : r < N) : 0 ≤ Hs h N r k := Sg_nn (fun _ _ => Int.natCast_nonneg _) hr
/-- m readings of r at least -/
theorem X_many (R : Rg d h N b B S D) {r : Nat} (hr : r < N) : ∀ (m n : Nat), m ≤ n → (m : Int) * d r + X d h N b (n - m) r ≤ X d h N b n r
  | 0, n, _ => by
    have e : ((0 : Nat) : Int) * d r = 0 := Int.zero_mul _
    rw [e, Nat.sub_zero]
    omega
  | m + 1, n, hm => by
    have h1 := X_many R hr m n (by omega)
    have h2 := X_same R hr (n := n - m) (by omega)
    have e : ((m + 1 : Nat) : Int) * d r = (m : Int) * d r + d r := by
      rw [Int.natCast_add]
      exact mul_succ' _ _
    rw [e]
    rw [show n - m - 1 = n - (m + 1) by omega] at h2
    omega
theorem X_lower (R : Rg d h N b B S D) : ∀ (k r n : Nat), r < N → Hs h N r k ≤ n → Wv d h N r k n ≤ X d h N b n r
  | 0, r, n, hr, _ => by
    have h1 := X_many R hr n n (Nat.le_refl _)
    have h2 := (X_self R hr (n := n - n)).1
    have e : Wv d h N r 0 n = d r + 0 + ((n : Int) - 0) * d r := rfl
    rw [e, Int.sub_zero]
    omega
  | k + 1, r, n, hr, hk => by
    have e1 : Hs h N r (k + 1) = (h r : Int) + Hs h N (prv N r) k := rfl
    have hp := prv_lt hr
    have hn := Hs_nn (h := h) (k := k) hp
    have e2 : Wv d h N r (k + 1) n = d r + Sg d N (prv N r) (k + 1) + ((n : Int) - Hs h N r (k + 1)) * max (d r) (Mx d N (prv N r) k) := rfl
    rw [e1] at hk e2
    rw [e2]
    by_cases z : d r ≤ Mx d N (prv N r) k
    · rw [Int.max_eq_right z]
      have h1 := X_hop R hr (n := n) (by omega)
      have h2 := X_lower R k (prv N r) (n - h r) hp (by omega)
      have e3 : Wv d h N (prv N r) k ((n - h r : Nat) : Int) = Sg d N (prv N r) (k + 1) + ((n : Int) - ((h r : Int) + Hs h N (prv N r) k)) * Mx d N (prv N r) k := by
        unfold Wv
        congr 2
        omega
      rw [e3] at h2
      omega
    · rw [Int.max_eq_left (by omega)]
      -- all spare readings at r
      have hm : ∃ m : Nat, (m : Int) = (n : Int) - ((h r : Int) + Hs h N (prv N r) k) := ⟨((n : Int) - ((h r : Int) + Hs h N (prv N r) k)).toNat, by omega⟩
      obtain ⟨m, hm⟩ := hm
      have h1 := X_many R hr m n (by omega)
      have h2 := X_hop R hr (n := n - m) (by omega)
      have h3 := X_lower R k (prv N r) (n - m - h r) hp (by omega)
      have e3 : Wv d h N (prv N r) k ((n - m - h r : Nat) : Int) = Sg d N (prv N r) (k + 1) := by
        unfold Wv
        have e : ((n - m - h r : Nat) : Int) - Hs h N (prv N r) k = 0 := by omega
        rw [e, Int.zero_mul]
        omega
      rw [e3] at h3
      rw [← hm]
      omega
theorem X_upper (R : Rg d h N b B S D) : ∀ (n r : Nat), r < N → ∃ k, Hs h N r k ≤ n ∧ X d h N b n r ≤ Wv d h N r k n := by
  have main : ∀ (n p r : Nat), posn N b r = p → r < N → ∃ k, Hs h N r k ≤ n ∧ X d h N b n r ≤ Wv d h N r k n := by
    intro n
    induction n using Nat.strongRecOn with
    | _ n ihn =>
      intro p
      induction p using Nat.strongRecOn with
      | _ p ihp =>
        intro r hp hr
        have hrec := X_rec R hr (n := n)
        -- alone
        have w0 : Hs h N r 0 = 0 := rfl
        have alone : X d h N b n r ≤ d r → ∃ k, Hs h N r k ≤ n ∧ X d h N b n r ≤ Wv d h N r k n := fun hle => by
          refine ⟨0, by rw [w0]; omega, ?_⟩
          have e : Wv d h N r 0 n = d r + 0 + ((n : Int) - 0) * d r := rfl
          rw [e, Int.sub_zero]
          have : 0 ≤ (n : Int) * d r := Int.mul_nonneg (by omega) (by have := R.d1 r hr; omega)
          omega
        have same : 0 < n → X d h N b n r ≤ d r + X d h N b (n - 1) r → ∃ k, Hs h N r k ≤ n ∧ X d h N b n r ≤ Wv d h N r k n := fun hn hle => by
          obtain ⟨k, h1, h2⟩ := ihn (n - 1) (by omega) _ r rfl hr
          refine ⟨k, by omega, ?_⟩
          have hs := Mx_self (d := d) (N := N) (k := k) (r := r)
          have e : Wv d h N r k n = Wv d h N r k ((n - 1 : Nat) : Int) + Mx d N r k := by
            unfold Wv
            have e1 : (n : Int) - Hs h N r k = (((n - 1 : Nat) : Int) - Hs h N r k) + 1 := by omega
            rw [e1, mul_succ']
            omega
          omega
        have hop : h r ≤ n → X d h N b n r ≤ d r + X d h N b (n - h r) (prv N r) → ∃ k, Hs h N r k ≤ n ∧ X d h N b n r ≤ Wv d h N r k n := fun hn hle => by
          have hq : ∃ k, Hs h N (prv N r) k ≤ ((n - h r : Nat) : Int) ∧ X d h N b (n - h r) (prv N r) ≤ Wv d h N (prv N r) k ((n - h r : Nat) : Int) := by
            by_cases z : 0 < h r
            · exact ihn (n - h r) (by have := R.hB r hr; omega) _ (prv N r) rfl (prv_lt hr)
            · have e : n - h r = n := by omega
              rw [e]
              refine ihp _ ?_ (prv N r) rfl (prv_lt hr)
              rw [← hp]
              refine posn_prv hr R.lb fun e2 => ?_
              rw [e2] at z
              exact z R.hb
          obtain ⟨k, h1, h2⟩ := hq
          have e1 : Hs h N r (k + 1) = (h r : Int) + Hs h N (prv N r) k := rfl
          refine ⟨k + 1, by rw [e1]; omega, ?_⟩
          have e2 : Wv d h N r (k + 1) n = d r + Sg d N (prv N r) (k + 1) + ((n : Int) - Hs h N r (k + 1)) * max (d r) (Mx d N (prv N r) k) := rfl
          rw [e2, e1]
          have e3 : Wv d h N (prv N r) k ((n - h r : Nat) : Int) = Sg d N (prv N r) (k + 1) + ((n : Int) - ((h r : Int) + Hs h N (prv N r) k)) * Mx d N (prv N r) k := by
            unfold Wv
            congr 2
            omega
          rw [e3] at h2
          have h3 : ((n : Int) - ((h r : Int) + Hs h N (prv N r) k)) * Mx d N (prv N r) k ≤ ((n : Int) - ((h r : Int) + Hs h N (prv N r) k)) * max (d r) (Mx d N (prv N r) k) :=
            Int.mul_le_mul_of_nonneg_left (by omega) (by omega)
          omega
        by_cases hn : 0 < n
        · rw [if_pos hn] at hrec
          by_cases hh : h r ≤ n
          · rw [if_pos hh] at hrec
            by_cases z : X d h N b (n - h r) (prv N r) ≤ X d h N b (n - 1) r
            · exact same hn (by clear alone same hop; omega)
            · exact hop hh (by clear alone same hop; omega)
          · rw [if_neg hh] at hrec
            have := (X_self R hr (n := n - 1)).2
            exact same hn (by clear alone same hop; omega)
        · rw [if_neg hn] at hrec
          by_cases hh : h r ≤ n
          · rw [if_pos hh] at hrec
            have := (X_self R (prv_lt hr) (n := n - h r)).2
            exact hop hh (by clear alone same hop; omega)
          · rw [if_neg hh] at hrec
            exact alone (by clear alone same hop; omega)
  exact fun n r hr => main n _ r rfl hr
end
end G48

/-! the course settles -/
namespace G48
open PySem PySem.Spec PyProof.Rows L2 Evl
/-- the sums of a ring's numbers -/
structure RgS (d : Nat → Int) (h : Nat → Nat) (N b B : Nat) (S D : Int) : Prop extends Rg d h N b B S D where
  tS : ∀ r, r < N → Sg d N r N = S
  tB : ∀ r, r < N → Hs h N r N = B
  B1 : 1 ≤ B
section
variable {d : Nat → Int} {h : Nat → Nat} {N b B : Nat} {S D : Int}
def Sh (d : Nat → Int) (h : Nat → Nat) (N b : Nat) (e : Nat) (s : Int) (n : Nat) : Prop := ∀ r, r < N → X d h N b (n + e) r = X d h N b n r + s
theorem RgS.dnn (R : RgS d h N b B S D) : ∀ r, r < N → 0 ≤ d r := fun r hr => by have := R.d1 r hr; omega
theorem RgS.D1 (R : RgS d h N b B S D) : 1 ≤ D := by
  obtain ⟨m, hm, e⟩ := R.full
  have := R.d1 m hm
  omega
theorem Hs_per (R : RgS d h N b B S D) {k r : Nat} (hr : r < N) : Hs h N r (k + N) = Hs h N r k + B := Sg_per R.tB hr
theorem Sd_per (R : RgS d h N b B S D) {k r : Nat} (hr : r < N) : Sg d N r (k + N) = Sg d N r k + S := Sg_per R.tS hr
theorem Hs_mono {j k r : Nat} (hr : r < N) (h1 : j ≤ k) : Hs h N r j ≤ Hs h N r k := Sg_mono (fun _ _ => Int.natCast_nonneg _) hr h1
/-- a walk that takes more than two rounds of books goes two rounds about -/
theorem two_rounds (R : RgS d h N b B S D) {k r : Nat} (hr : r < N) (hk : 2 * (B : Int) < Hs h N r k) : ∃ k', k = k' + N ∧ N ≤ k' := by
  by_cases z : 2 * N ≤ k
  · exact ⟨k - N, by omega, by omega⟩
  · have h1 := Hs_mono (h := h) hr (show k ≤ 0 + N + N by omega)
    rw [Hs_per R hr, Hs_per R hr] at h1
    have e : Hs h N r 0 = 0 := rfl
    omega
theorem mul_bd {a : Int} (m D : Int) (ha : 0 ≤ a) (h : m ≤ D - 1) : a * m ≤ a * D - a := by
  have h1 : a * m ≤ a * (D - 1) := Int.mul_le_mul_of_nonneg_left h ha
  rw [Int.mul_sub, Int.mul_one] at h1
  exact h1
theorem slow_shift (R : RgS d h N b B S D) (hS : S ≤ D * B) {n : Nat} (h2 : 2 * B ≤ n) (h3 : D * B ≤ n) : Sh d h N b 1 D n := by
  intro r hr
  have D1 := R.D1
  have B1 := R.B1
  have ln := fun k => X_lower R.toRg k r n hr
  have ln1 := fun k => X_lower R.toRg k r (n + 1) hr
  have up : X d h N b (n + 1) r ≤ X d h N b n r + D := by
    obtain ⟨k, hk, hx⟩ := X_upper R.toRg (n + 1) r hr
    by_cases z : Hs h N r k ≤ n
    · have h4 := ln k z
      have h5 := Mx_le R.dD (k := k) hr
      have e : Wv d h N r k ((n + 1 : Nat) : Int) = Wv d h N r k n + Mx d N r k := by
        unfold Wv
        have e1 : ((n + 1 : Nat) : Int) - Hs h N r k = ((n : Int) - Hs h N r k) + 1 := by omega
        rw [e1, mul_succ']
        omega
      rw [e] at hx
      omega
    · have hH : Hs h N r k = (n : Int) + 1 := by omega
      obtain ⟨k', rfl, hk'⟩ := two_rounds R hr (k := k) (by omega)
      have e1 := Hs_per R (k := k') hr
      have e2 : Sg d N r (k' + N + 1) = Sg d N r (k' + 1) + S := by
        rw [show k' + N + 1 = k' + 1 + N by omega]
        exact Sd_per R hr
      have hf := Mx_full R.toRg (k := k') hr (by omega)
      have h4 := ln k' (by omega)
      have e3 : Wv d h N r (k' + N) ((n + 1 : Nat) : Int) = Sg d N r (k' + 1) + S := by
        unfold Wv
        have e : ((n + 1 : Nat) : Int) - Hs h N r (k' + N) = 0 := by omega
        rw [e, Int.zero_mul, e2]
        omega
      have e4 : Wv d h N r k' n = Sg d N r (k' + 1) + (D * B - D) := by
        unfold Wv
        have e : (n : Int) - Hs h N r k' = (B : Int) - 1 := by omega
        rw [e, hf, Int.sub_mul, Int.one_mul, Int.mul_comm]
      rw [e3] at hx
      rw [e4] at h4
      omega
  have lo : X d h N b n r + D ≤ X d h N b (n + 1) r := by
    obtain ⟨k, hk, hx⟩ := X_upper R.toRg n r hr
    by_cases z : Mx d N r k = D
    · have h4 := ln1 k (by omega)
      have e : Wv d h N r k ((n + 1 : Nat) : Int) = Wv d h N r k n + Mx d N r k := by
        unfold Wv
        have e1 : ((n + 1 : Nat) : Int) - Hs h N r k = ((n : Int) - Hs h N r k) + 1 := by omega
        rw [e1, mul_succ']
        omega
      omega
    · have h5 := Mx_le R.dD (k := k) hr
      have hkN : k < N - 1 := by
        by_cases y : N - 1 ≤ k
        · exact absurd (Mx_full R.toRg hr y) z
        · omega
      have s1 := Sg_mono R.dnn (j := k + 1) (k := N) hr (by omega)
      rw [R.tS r hr] at s1
      have hH := Hs_nn (h := h) (k := k) hr
      have b1 : ((n : Int) - Hs h N r k) * Mx d N r k ≤ (n : Int) * D - n := by
        have q1 := mul_bd (a := (n : Int) - Hs h N r k) (Mx d N r k) D (by omega) (by omega)
        have q2 : ((n : Int) - Hs h N r k) * D ≤ (n : Int) * D - Hs h N r k := by
          rw [Int.sub_mul]
          have : Hs h N r k * 1 ≤ Hs h N r k * D := Int.mul_le_mul_of_nonneg_left D1 hH
          omega
        have q3 : ((n : Int) - Hs h N r k) * Mx d N r k ≤ ((n : Int) - Hs h N r k) * (D - 1) := Int.mul_le_mul_of_nonneg_left (by omega) (by omega)
        have q4 : ((n : Int) - Hs h N r k) * (D - 1) ≤ (n : Int) * (D - 1) := Int.mul_le_mul_of_nonneg_right (by omega) (by omega)
        rw [Int.mul_sub (n : Int), Int.mul_one] at q4
        omega
      have hHN := Hs_mono (h := h) hr (show N - 1 ≤ N by omega)
      rw [R.tB r hr] at hHN
      have h4 := ln1 (N - 1) (by omega)
      have hf := Mx_full R.toRg (k := N - 1) hr (Nat.le_refl _)
      have e3 : Wv d h N r (N - 1) ((n + 1 : Nat) : Int) = S + (((n + 1 : Nat) : Int) - Hs h N r (N - 1)) * D := by
        unfold Wv
        rw [hf, show N - 1 + 1 = N by have := R.n2; omega, R.tS r hr]
      have b2 : (((n + 1 : Nat) : Int) - B) * D ≤ (((n + 1 : Nat) : Int) - Hs h N r (N - 1)) * D := Int.mul_le_mul_of_nonneg_right (by omega) (by omega)
      have e5 : (((n + 1 : Nat) : Int) - B) * D = (n : Int) * D + D - D * B := by
        rw [Int.sub_mul, Int.natCast_add, Int.add_mul, Int.mul_comm (B : Int)]
        omega
      have e6 : Wv d h N r k n = Sg d N r (k + 1) + ((n : Int) - Hs h N r k) * Mx d N r k := rfl
      rw [e3] at h4
      rw [e6] at hx
      omega
  omega
theorem quick_shift (R : RgS d h N b B S D) (hS : D * B < S) {n : Nat} (h2 : 2 * B ≤ n) : Sh d h N b B S n := by
  intro r hr
  have D1 := R.D1
  have B1 := R.B1
  have ln := fun k => X_lower R.toRg k r n hr
  have lnB := fun k => X_lower R.toRg k r (n + B) hr
  have lo : X d h N b n r + S ≤ X d h N b (n + B) r := by
    obtain ⟨k, hk, hx⟩ := X_upper R.toRg n r hr
    have e1 := Hs_per R (k := k) hr
    have e2 : Sg d N r (k + N + 1) = Sg d N r (k + 1) + S := by
      rw [show k + N + 1 = k + 1 + N by omega]
      exact Sd_per R hr
    have h4 := lnB (k + N) (by omega)
    have hm := Mx_mono (d := d) (N := N) (r := r) (show k ≤ k + N by omega)
    have e3 : Wv d h N r (k + N) ((n + B : Nat) : Int) = Sg d N r (k + 1) + S + ((n : Int) - Hs h N r k) * Mx d N r (k + N) := by
      unfold Wv
      have e : ((n + B : Nat) : Int) - Hs h N r (k + N) = (n : Int) - Hs h N r k := by omega
      rw [e, e2]
    have q : ((n : Int) - Hs h N r k) * Mx d N r k ≤ ((n : Int) - Hs h N r k) * Mx d N r (k + N) := Int.mul_le_mul_of_nonneg_left hm (by omega)
    have e6 : Wv d h N r k n = Sg d N r (k + 1) + ((n : Int) - Hs h N r k) * Mx d N r k := rfl
    rw [e3] at h4
    rw [e6] at hx
    omega
  have up : X d h N b (n + B) r ≤ X d h N b n r + S := by
    obtain ⟨k, hk, hx⟩ := X_upper R.toRg (n + B) r hr
    have e6 : Wv d h N r k ((n + B : Nat) : Int) = Sg d N r (k + 1) + (((n + B : Nat) : Int) - Hs h N r k) * Mx d N r k := rfl
    by_cases z : Hs h N r k ≤ n
    · exfalso
      have e1 := Hs_per R (k := k) hr
      have e2 : Sg d N r (k + N + 1) = Sg d N r (k + 1) + S := by
        rw [show k + N + 1 = k + 1 + N by omega]
        exact Sd_per R hr
      have h4 := lnB (k + N) (by omega)
      have hm := Mx_mono (d := d) (N := N) (r := r) (show k ≤ k + N by omega)
      have e3 : Wv d h N r (k + N) ((n + B : Nat) : Int) = Sg d N r (k + 1) + S + ((n : Int) - Hs h N r k) * Mx d N r (k + N) := by
        unfold Wv
        have e : ((n + B : Nat) : Int) - Hs h N r (k + N) = (n : Int) - Hs h N r k := by omega
        rw [e, e2]
      have q : ((n : Int) - Hs h N r k) * Mx d N r k ≤ ((n : Int) - Hs h N r k) * Mx d N r (k + N) := Int.mul_le_mul_of_nonneg_left hm (by omega)
      have e4 : (((n + B : Nat) : Int) - Hs h N r k) * Mx d N r k = ((n : Int) - Hs h N r k) * Mx d N r k + (B : Int) * Mx d N r k := by
        rw [← Int.add_mul]
        congr 1
        omega
      have q2 : (B : Int) * Mx d N r k ≤ D * B := by
        rw [Int.mul_comm]
        exact Int.mul_le_mul_of_nonneg_right (Mx_le R.dD hr) (by omega)
      rw [e3] at h4
      rw [e6, e4] at hx
      omega
    · obtain ⟨k', rfl, hk'⟩ := two_rounds R hr (k := k) (by omega)
      have e1 := Hs_per R (k := k') hr
      have e2 : Sg d N r (k' + N + 1) = Sg d N r (k' + 1) + S := by
        rw [show k' + N + 1 = k' + 1 + N by omega]
        exact Sd_per R hr
      have hf := Mx_full R.toRg (k := k') hr (by omega)
      have hf2 := Mx_full R.toRg (k := k' + N) hr (by omega)
      have h4 := ln k' (by omega)
      have e3 : Wv d h N r k' n = Sg d N r (k' + 1) + ((n : Int) - Hs h N r k') * D := by
        unfold Wv
        rw [hf]
      rw [e6, hf2, e2] at hx
      have e5 : (((n + B : Nat) : Int) - Hs h N r (k' + N)) = (n : Int) - Hs h N r k' := by omega
      rw [e5] at hx
      rw [e3] at h4
      omega
  omega
/-- B readings in a row shifted: all later are -/
theorem Sh_next (R : RgS d h N b B S D) {e : Nat} {s : Int} {n : Nat} (hn : B ≤ n) (hp : ∀ m, n ≤ m + B → m < n → Sh d h N b e s m) : Sh d h N b e s n := by
  have B1 := R.B1
  have main : ∀ p r, posn N b r = p → r < N → X d h N b (n + e) r = X d h N b n r + s := by
    intro p
    induction p using Nat.strongRecOn with
    | _ p ihp =>
      intro r hpr hr
      have hB := R.hB r hr
      rw [X_rec R.toRg hr (n := n + e), X_rec R.toRg hr (n := n), if_pos (by omega), if_pos (by omega), if_pos (by omega), if_pos (by omega)]
      have h1 := hp (n - 1) (by omega) (by omega) r hr
      rw [show n - 1 + e = n + e - 1 by omega] at h1
      have h2 : X d h N b (n + e - h r) (prv N r) = X d h N b (n - h r) (prv N r) + s := by
        by_cases z : 0 < h r
        · have := hp (n - h r) (by omega) (by omega) (prv N r) (prv_lt hr)
          rw [show n - h r + e = n + e - h r by omega] at this
          exact this
        · have e0 : n - h r = n := by omega
          have e2 : n + e - h r = n + e := by omega
          rw [e0, e2]
          refine ihp _ ?_ (prv N r) rfl (prv_lt hr)
          rw [← hpr]
          refine posn_prv hr R.lb fun e2 => ?_
          rw [e2] at z
          exact z R.hb
      rw [h1, h2]
      omega
  exact fun r hr => main _ r rfl hr
theorem Sh_all (R : RgS d h N b B S D) {e : Nat} {s : Int} {lo hi : Nat} (hB : lo + B ≤ hi) (hp : ∀ m, lo ≤ m → m < hi → Sh d h N b e s m) : ∀ n, lo ≤ n → Sh d h N b e s n := by
  intro n
  induction n using Nat.strongRecOn with
  | _ n ih =>
    intro hn
    by_cases z : n < hi
    · exact hp n hn z
    · exact Sh_next R (by omega) fun m h1 h2 => ih m h2 (by omega)
/-- rounds of the shift -/
theorem Sh_rounds {e : Nat} {s : Int} {F : Nat} (hF : ∀ n, F ≤ n → Sh d h N b e s n) {r : Nat} (hr : r < N) : ∀ (t n : Nat), F ≤ n → X d h N b (n + t * e) r = X d h N b n r + t * s
  | 0, n, _ => by
    rw [Nat.zero_mul]
    have : ((0 : Nat) : Int) * s = 0 := Int.zero_mul _
    rw [this]
    simp
  | t + 1, n, hn => by
    have h1 := Sh_rounds hF hr t n hn
    have h2 := hF (n + t * e) (by omega) r hr
    rw [Nat.succ_mul, ← Nat.add_assoc, h2, h1, Int.natCast_add, Int.add_mul]
    omega
end
end G48

namespace G48
open PySem PySem.Spec PyProof.Rows L2 Evl
abbrev N_Course_next_row : List Str := ["self", "number", "row", "begin", "turn", "reader", "heap", "ready"]
theorem sc_Course_next_row : FnScope N_Course_next_row ["self"] (defScope s_Course_next_row) := ⟨rfl, rfl, rfl, by decide +kernel, rfl, by decide +kernel, by decide +kernel⟩
theorem b_Course_next_row : BindL "Course.next_row" "next_row" s_Course_next_row ["self"] := fun _ _ _ _ _ _ us hl => match us, hl with | [_], _ => rfl
end G48
/-! Course: next_row, is_shifted, is_settled -/
namespace G48
open PySem PySem.Spec PyProof.Rows L2 Evl
/-! the steps -/
local macro_rules | `(tactic| walk_at "as") => `(tactic| with_reducible assumption)
local macro_rules | `(tactic| walk_at "hp") => `(tactic| first
  | with_reducible assumption
  | ((with_reducible apply SqT.of); walk_at "as")
  | ((with_reducible apply SqL.of); walk_at "as")
  | ((with_reducible apply ex_at); (focus walk_at "as"); walk_at "hp")
  | ((with_reducible apply ex_t); (focus walk_at "as"); walk_at "hp")
  | ((with_reducible apply ex_l); (focus walk_at "as"); walk_at "hp")
  | ((with_reducible apply exb_ins); (focus walk_at "as"); (focus walk_at "hp"); walk_at "hp")
  | ((with_reducible apply exb_t); (focus walk_at "as"); (focus walk_at "hp"); walk_at "hp")
  | ((with_reducible apply exb_at); (focus walk_at "as"); (focus walk_at "ne"); walk_at "hp")
  | ((with_reducible apply exb_l); (focus walk_at "as"); (focus walk_at "ne"); walk_at "hp"))
local macro_rules | `(tactic| walk_at "ne") => `(tactic| first
  | with_reducible assumption
  | exact Ne.symm (by with_reducible assumption)
  | exact ne_of_none (by with_reducible assumption) (by with_reducible assumption)
  | exact Ne.symm (ne_of_none (by with_reducible assumption) (by with_reducible assumption)))
local macro_rules | `(tactic| walk_at "tr") => `(tactic| first
  | rfl
  | with_reducible assumption
  | exact decide_eq_true (by first | with_reducible assumption | omega)
  | exact decide_eq_false (by first | with_reducible assumption | omega)
  | (rw [Bool.not_eq_true']; exact decide_eq_false (by first | with_reducible assumption | omega))
  | (rw [Bool.not_eq_false']; exact decide_eq_true (by first | with_reducible assumption | omega)))
local macro_rules | `(tactic| walk_at "nn") => `(tactic| first | with_reducible assumption | (exact List.cons_ne_nil _ _))
local macro_rules | `(tactic| walk_at "sz") => `(tactic| first | (exact sz1000 (Nat.le_of_ble_eq_true rfl)) | (refine sz1000 ?_; simp only [List.length_map, List.length_cons, List.length_nil, List.length_append]; omega) | with_reducible assumption)
local macro_rules | `(tactic| walk_at "sl") => `(tactic| first | with_reducible assumption | (refine lt1000 ?_; simp only [List.length_map, List.length_cons, List.length_nil, List.length_append]; omega) | (refine lt1000 ?_; omega))
local macro_rules | `(tactic| walk_at "ix") => `(tactic| first | rfl | with_reducible assumption)
local macro_rules | `(tactic| walk_at "rg") => `(tactic| exact RgOk.of_le (by omega) (by omega) (by omega) (by omega))
local macro_rules | `(tactic| walk_at "sp") => `(tactic| fail "sp")
local macro_rules | `(tactic| walk_at "cl") => `(tactic| with_reducible assumption)
local macro_rules | `(tactic| walk_at "lk") => `(tactic| with_reducible assumption)
local macro_rules | `(tactic| walk_at "it") => `(tactic| first | rfl | with_reducible assumption | exact atI_nat (by with_reducible assumption))
local macro_rules | `(tactic| walk_at "g1") => `(tactic| first
  | (with_reducible apply g_var); (focus rfl)
  | with_reducible apply g_c
  | with_reducible apply g_seq
  | with_reducible apply g_asg
  | with_reducible apply gg_name
  | with_reducible apply g_op
  | with_reducible apply g_cons
  | with_reducible apply g_nil
  | with_reducible apply g_cb
  | with_reducible apply g_fld
  | ((with_reducible apply g_kFld); (focus walk_at "hp"); (focus walk_at "cl"); (focus walk_at "cl"); (focus walk_at "lk"))
  | with_reducible apply g_call
  | walk_at "sp"
  | with_reducible apply g_ret
  | with_reducible apply g_drop
  | with_reducible apply g_test
  | with_reducible apply g_B
  | with_reducible apply g_kTest
  | with_reducible apply g_ifS
  | with_reducible apply g_kIfST
  | with_reducible apply g_kIfSF
  | with_reducible apply g_add
  | with_reducible apply g_sub
  | with_reducible apply g_lt
  | with_reducible apply g_le
  | with_reducible apply g_gt
  | with_reducible apply g_ge
  | with_reducible apply g_eqI
  | with_reducible apply g_neI
  | ((with_reducible apply g_mod); (focus first | decide | omega))
  | ((with_reducible apply g_mul); (focus first | (left; constructor <;> omega) | (right; constructor <;> omega)))
  | ((with_reducible apply g_fdiv); (focus (constructor <;> omega)))
  | ((with_reducible apply g_ixT); (focus walk_at "hp"); (focus walk_at "it"))
  | ((with_reducible apply g_ixL); (focus walk_at "hp"); (focus walk_at "it"))
  | with_reducible apply g_and
  | with_reducible apply g_or
  | with_reducible apply g_not
  | with_reducible apply g_kNotT
  | with_reducible apply g_kNotF
  | with_reducible apply g_if
  | with_reducible apply g_kAndT
  | with_reducible apply g_kAndF
  | with_reducible apply g_kOrT
  | with_reducible apply g_kOrF
  | with_reducible apply g_kIfT
  | with_reducible apply g_kIfF
  | with_reducible apply g_next
  | with_reducible apply g_andV
  | with_reducible apply g_orV
  | with_reducible apply g_notV
  | with_reducible apply g_kNotV
  | with_reducible apply g_kAndVT
  | with_reducible apply g_kAndVF
  | with_reducible apply g_chain
  | with_reducible apply g_kChainT
  | with_reducible apply g_kChainF
  | with_reducible apply g_tup
  | with_reducible apply g_lst
  | ((with_reducible apply g_kT); (focus walk_at "sz"); intro _ _ _ _ _)
  | ((with_reducible apply g_kL); (focus walk_at "sz"); intro _ _ _ _ _)
  | with_reducible apply g_un
  | with_reducible apply g_neg
  | with_reducible apply g_meth
  | ((with_reducible apply g_kMeth); (focus walk_at "hp"); (focus walk_at "lk"))
  | with_reducible apply g_prop
  | ((with_reducible apply g_kProp); (focus walk_at "hp"))
  | with_reducible apply g_make
  | with_reducible apply g_par
  | with_reducible apply g_kPar
  | ((with_reducible apply g_lenLM); (focus walk_at "hp"))
  | ((with_reducible apply g_lenTM); (focus walk_at "hp"))
  | ((with_reducible apply g_lenL); (focus walk_at "hp"))
  | ((with_reducible apply g_lenT); (focus walk_at "hp"))
  | with_reducible apply g_int1
  | with_reducible apply g_max2
  | with_reducible apply g_min2
  | ((with_reducible apply g_listL); (focus walk_at "hp"); intro _ _ _ _ _)
  | ((with_reducible apply g_listT); (focus walk_at "hp"); intro _ _ _ _ _)
  | ((with_reducible apply g_tupL); (focus walk_at "hp"); intro _ _ _ _ _)
  | ((with_reducible apply g_sum); (focus walk_at "hp"))
  | with_reducible apply g_sfld
  | with_reducible apply g_sl
  | with_reducible apply g_nopart
  | with_reducible apply g_part
  | with_reducible apply g_kPart
  | with_reducible apply g_lstRg
  | with_reducible apply g_rg1
  | with_reducible apply g_kRg1
  | with_reducible apply g_bm
  | with_reducible apply gg_sub
  | ((with_reducible apply gg_tup); (focus walk_at "hp"); (focus rfl))
  | with_reducible apply gg_cons
  | with_reducible apply gg_nil
  | with_reducible apply g_forL
  | with_reducible apply g_forT
  | with_reducible apply g_forR1
  | with_reducible apply g_forR2
  | with_reducible apply g_forE
  | with_reducible apply g_forEL
  | ((with_reducible apply g_maxT); (focus walk_at "hp"); (focus walk_at "nn"))
  | ((with_reducible apply g_maxL); (focus walk_at "hp"); (focus walk_at "nn"))
  | ((with_reducible apply g_catA); (focus walk_at "hp"); (focus walk_at "hp"); (focus walk_at "sz"); intro _ _ _ _)
  | ((with_reducible apply g_slA); (focus walk_at "hp"); intro _ _ _ _)
  | ((with_reducible apply g_tupD); (focus walk_at "hp"); intro _ _ _ _ _)
  | ((with_reducible apply g_setL); (focus walk_at "hp"); (focus walk_at "ix"); intro _ _ _)
  | ((with_reducible apply g_append); (focus walk_at "hp"); (focus walk_at "sl"); intro _ _ _)
  | ((with_reducible apply g_aug); (focus rfl))
  | with_reducible apply g_ipI
  | with_reducible apply g_retN
  | with_reducible apply g_lcR1
  | with_reducible apply g_lcR2
  | with_reducible apply g_lcL
  | with_reducible apply g_lcU
  | with_reducible apply g_lcN
  | ((with_reducible apply g_kLcG); (focus rfl))
  | with_reducible apply g_yes
  | with_reducible apply g_kLcTT
  | with_reducible apply g_kLcTF
  | ((with_reducible apply g_kLcE); (focus walk_at "hp"); (focus walk_at "sl"); intro _ _ _)
  | ((with_reducible apply g_pow); (focus (constructor <;> (try constructor) <;> decide)))
  | ((with_reducible apply g_kLRg); (focus walk_at "rg"); intro _ _ _ _ _)
  | ((with_reducible apply g_cat); (focus walk_at "hp"); (focus walk_at "hp"); (focus walk_at "sz"); intro _ _ _ _ _)
  | ((with_reducible apply g_slL); (focus walk_at "hp"); intro _ _ _ _ _)
  | with_reducible apply g_bmT
  | with_reducible apply g_break
  | with_reducible apply g_cont)
local macro_rules | `(tactic| walk_at "g0") => `(tactic| try dsimp only [L2.cxOf, L2.Cx.nox, L2.Cx.wish])
local macro_rules | `(tactic| walk_at "yn") => `(tactic| first
  | ((with_reducible apply y_kIfS); (focus walk_at "tr"))
  | ((with_reducible apply n_kIfS); (focus walk_at "tr"))
  | ((with_reducible apply y_kOr); (focus walk_at "tr"))
  | ((with_reducible apply n_kOr); (focus walk_at "tr"))
  | ((with_reducible apply y_kAnd); (focus walk_at "tr"))
  | ((with_reducible apply n_kAnd); (focus walk_at "tr"))
  | ((with_reducible apply y_kNot); (focus walk_at "tr"))
  | ((with_reducible apply n_kNot); (focus walk_at "tr"))
  | ((with_reducible apply y_kIf); (focus walk_at "tr"))
  | ((with_reducible apply n_kIf); (focus walk_at "tr"))
  | ((with_reducible apply y_kAndV); (focus walk_at "tr"))
  | ((with_reducible apply n_kAndV); (focus walk_at "tr"))
  | ((with_reducible apply y_kOrV); (focus walk_at "tr"))
  | ((with_reducible apply n_kOrV); (focus walk_at "tr"))
  | ((with_reducible apply y_kChain); (focus walk_at "tr"))
  | ((with_reducible apply n_kChain); (focus walk_at "tr"))
  | ((with_reducible apply y_kLcT); (focus walk_at "tr"))
  | ((with_reducible apply n_kLcT); (focus walk_at "tr"))
  | ((with_reducible apply y_kWh); (focus walk_at "tr"))
  | ((with_reducible apply n_kWh); (focus walk_at "tr")))
local macro_rules | `(tactic| walk_at "go") => `(tactic| repeat (first | walk_at "g1" | walk_at "yn"))
local macro_rules | `(tactic| walk_at "hp") => `(tactic| first
  | ((with_reducible apply RingIn.ex); (focus walk_at "as"); walk_at "hp")
  | ((with_reducible apply RingAt.ex); (focus walk_at "as"); walk_at "hp")
  | ((with_reducible apply RingIn.exb); (focus walk_at "as"); (focus walk_at "hp"); walk_at "hp")
  | ((with_reducible apply RingAt.exb); (focus walk_at "as"); (focus walk_at "hp"); walk_at "hp")
  | ((with_reducible apply TupK.ex); (focus walk_at "as"); walk_at "hp")
  | ((with_reducible apply TupK.exb); (focus walk_at "as"); (focus walk_at "hp"); walk_at "hp"))
local macro_rules | `(tactic| walk_at "lk") => `(tactic| first | with_reducible exact rf_spans | with_reducible exact rf_heaps | with_reducible exact rf_total | with_reducible exact rf_nr | with_reducible exact rf_wd)
local macro_rules | `(tactic| walk_at "sp") => `(tactic| first
  | ((with_reducible apply g_isiTup); (focus walk_at "hp"))
  | ((with_reducible apply g_isiLst); (focus walk_at "hp"))
  | ((with_reducible apply g_isint); (focus omega); (focus omega))
  | ((with_reducible apply g_checkn); (focus omega); (focus omega))
  | ((with_reducible apply g_rbooks); (focus walk_at "hp"))
  | ((with_reducible apply g_rpace); (focus walk_at "hp"); intro _ _ _ _)
  | ((with_reducible apply g_rlen); (focus walk_at "hp"))
  | ((with_reducible apply g_rneed); (focus walk_at "hp"); (focus omega))
  | ((with_reducible apply g_rneedM); (focus walk_at "hp"))
  | ((with_reducible apply g_rwithM); (focus walk_at "hp"))
  | ((with_reducible apply g_rspans); (focus walk_at "hp"); (focus with_reducible assumption))
  | ((with_reducible apply g_rheaps); (focus walk_at "hp"); (focus with_reducible assumption))
  | ((with_reducible apply g_rtotal); (focus walk_at "hp"); (focus with_reducible assumption)))

theorem g_kIfQ {ta tb : TE} {σ : L2.St} {Q : VK} {c : Bool} {H : Hp} (v : V) (h1 : c = true → ∀ Q' : VK, Q' v H → ta σ H Q') (h2 : c = false → ∀ Q' : VK, Q' v H → tb σ H Q') (q : Q v H) : kIf ta tb σ Q c H := g_kIf (fun h => h1 h Q q) (fun h => h2 h Q q)
theorem g_kIfSQ {t1 t2 : TS} {D : Ends} {σ : L2.St} {c : Bool} {H : Hp} (σ' : L2.St) (h1 : c = true → ∀ D' : Ends, D'.nx σ' H → t1 D' σ H) (h2 : c = false → ∀ D' : Ends, D'.nx σ' H → t2 D' σ H) (q : D.nx σ' H) : kIfS t1 t2 D σ c H := g_kIfS (fun h => h1 h D q) (fun h => h2 h D q)
theorem rep_flat (x : V) : ∀ n : Nat, (List.replicate n [x]).flatten = List.replicate n x
  | 0 => rfl
  | n + 1 => by
    rw [List.replicate_succ, List.flatten_cons, rep_flat x n, List.replicate_succ]
    rfl
theorem g_rep {H : Hp} {Q : VK} {l : Addr} {n : Nat} {x : V} (h : H l = some (.lst [x])) (hn : n ≤ 900) (q : ∀ p H', H p = none → Ex H H' → H' p = some (.lst (List.replicate n x)) → Q (.ref p) H') : rRep (.ref l) (.int (n : Int)) H Q := by
  refine ⟨l, n, [x], rfl, rfl, h, by omega, by omega, ?_, fun p hp => q p _ hp (Ex.new hp) ?_⟩
  · refine sz1000 ?_
    simp
    omega
  · rw [upd_same, Int.toNat_natCast, rep_flat]
theorem ixN_int' {n i : Nat} {k : Int} (h : k = (i : Int)) (hi : i < n) : ixN n k = some i := by rw [h]; exact ixN_nat' hi
theorem ixN_neg1 {n : Nat} (h : 0 < n) : ixN n (-1) = some (n - 1) := by
  unfold ixN
  rw [if_neg (by decide), if_pos (by omega)]
  congr 1
  omega
theorem atI_prev {α : Type} {ys : List α} {r : Nat} (h : r < ys.length) : atI ys ((r : Int) - 1) = ys[prv ys.length r]? := by
  unfold atI prv
  by_cases z : r = 0
  · subst z
    rw [show ((0 : Nat) : Int) - 1 = -1 by omega, ixN_neg1 h, if_pos rfl]
    rfl
  · rw [show (r : Int) - 1 = ((r - 1 : Nat) : Int) by omega, ixN_nat' (by omega), if_neg z]
    rfl
theorem le_sum {xs : List Int} (h : ∀ x ∈ xs, 0 ≤ x) {y : Int} (hy : y ∈ xs) : y ≤ xs.sum := by
  induction xs with
  | nil => cases hy
  | cons x t ih =>
    rw [List.sum_cons]
    have h0 : 0 ≤ t.sum := by
      have := (sum_le (lo := 0) (hi := mx (0 :: t)) (ds := t) fun z hz => ⟨h z (List.mem_cons_of_mem _ hz), le_mx (List.mem_cons_of_mem _ hz)⟩).1
      rw [Int.zero_mul] at this
      exact this
    rcases List.mem_cons.mp hy with rfl | hy
    · omega
    · have := ih (fun z hz => h z (List.mem_cons_of_mem _ hz)) hy
      have := h x List.mem_cons_self
      omega
/-! ### a ring's course as numbers -/
def dF (ds : List Int) (i : Nat) : Int := ds.getD i 0
def hF (hs : List Int) (i : Nat) : Nat := (hs.getD i 0).toNat
def bF (hs : List Int) : Nat := hs.findIdx fun h => decide (0 < h)
def XR (ds hs : List Int) (n r : Nat) : Int := X (dF ds) (hF hs) ds.length (bF hs) n r
def rowX (ds hs : List Int) (n : Nat) : List Int := (List.range ds.length).map fun r => XR ds hs n r
def evN (ds hs : List Int) : Nat := if ds.sum ≤ mx ds * hs.sum then 1 else hs.sum.toNat
def shN (ds hs : List Int) : Int := if ds.sum ≤ mx ds * hs.sum then mx ds else ds.sum
abbrev ShR (ds hs : List Int) (n : Nat) : Prop := Sh (dF ds) (hF hs) ds.length (bF hs) (evN ds hs) (shN ds hs) n
section
variable {ds hs : List Int}
theorem dF_at {r : Nat} (h : r < ds.length) : dF ds r = ds[r] := by simp [dF, List.getD, List.getElem?_eq_getElem h]
theorem RingOk.hget (O : RingOk ds hs) (i : Nat) : ((hF hs i : Nat) : Int) = hs.getD i 0 := by
  unfold hF
  have : 0 ≤ hs.getD i 0 := by
    by_cases h : i < hs.length
    · have e : hs.getD i 0 = hs[i] := by simp [List.getD, List.getElem?_eq_getElem h]
      rw [e]
      exact (O.hh _ (List.getElem_mem h)).1
    · have e : hs.getD i 0 = 0 := by simp [List.getD, List.getElem?_eq_none (Nat.le_of_not_lt h)]
      omega
  omega
theorem RingOk.hF_at (O : RingOk ds hs) {r : Nat} (h : r < ds.length) : (hs.map V.int)[r]? = some (.int (hF hs r : Nat)) := by
  have h' : r < hs.length := by rw [O.len]; exact h
  rw [List.getElem?_map, List.getElem?_eq_getElem h', O.hget]
  simp [List.getD, List.getElem?_eq_getElem h']
theorem dF_at' {r : Nat} (h : r < ds.length) : (ds.map V.int)[r]? = some (.int (dF ds r)) := by
  rw [List.getElem?_map, List.getElem?_eq_getElem h, dF_at h]
  rfl
theorem RingOk.bF_lt (O : RingOk ds hs) : bF hs < hs.length ∧ 0 < hF hs (bF hs) := by
  have hx : ∃ x, x ∈ hs ∧ decide (0 < x) = true := by
    by_cases h : ∃ x, x ∈ hs ∧ 0 < x
    · obtain ⟨x, h1, h2⟩ := h
      exact ⟨x, h1, decide_eq_true h2⟩
    · have h2 := (sum_le (lo := 0) (hi := 0) (ds := hs) fun x hx => ⟨(O.hh x hx).1, by
        by_cases z : 0 < x
        · exact absurd ⟨x, hx, z⟩ h
        · omega⟩).2
      rw [Int.zero_mul] at h2
      have := O.one
      omega
  have hl : bF hs < hs.length := List.findIdx_lt_length_of_exists hx
  refine ⟨hl, ?_⟩
  have h3 : decide (0 < hs[bF hs]) = true := List.findIdx_getElem (w := hl)
  have h4 := of_decide_eq_true h3
  have h5 := O.hget (bF hs)
  have e : hs.getD (bF hs) 0 = hs[bF hs] := by simp [List.getD, List.getElem?_eq_getElem hl]
  omega
theorem RingOk.rg (O : RingOk ds hs) : RgS (dF ds) (hF hs) ds.length (bF hs) hs.sum.toNat ds.sum (mx ds) where
  n2 := O.two
  lb := by rw [← O.len]; exact O.bF_lt.1
  hb := O.bF_lt.2
  hB := fun r hr => by
    have h1 := O.hget r
    have h' : r < hs.length := by rw [O.len]; exact hr
    have e : hs.getD r 0 = hs[r] := by simp [List.getD, List.getElem?_eq_getElem h']
    have := le_sum (fun x hx => (O.hh x hx).1) (List.getElem_mem h')
    omega
  d1 := fun r hr => by rw [dF_at hr]; exact (O.dd _ (List.getElem_mem hr)).1
  dD := fun r hr => by rw [dF_at hr]; exact le_mx (List.getElem_mem hr)
  full := by
    obtain ⟨j, hj, _⟩ := first_at (mx_mem O.days.ne)
    have hl := (List.getElem?_eq_some_iff.mp hj).1
    exact ⟨j, hl, by rw [dF_at hl]; exact (List.getElem?_eq_some_iff.mp hj).2⟩
  tS := fun r hr => Sg_tot rfl hr
  tB := fun r hr => by
    have e : (fun i => ((hF hs i : Nat) : Int)) = fun i => hs.getD i 0 := funext O.hget
    unfold Hs
    rw [e, Sg_tot O.len hr]
    have := O.one
    omega
  B1 := by have := O.one; omega
theorem rowX_len {n : Nat} : (rowX ds hs n).length = ds.length := by unfold rowX; rw [List.length_map, List.length_range]
theorem rowX_get {n r : Nat} (h : r < ds.length) : (rowX ds hs n)[r]? = some (XR ds hs n r) := by
  unfold rowX
  rw [List.getElem?_map, List.getElem?_range h]
  rfl
theorem rowX_at {n r : Nat} (h : r < ds.length) : atI ((rowX ds hs n).map V.int) (r : Int) = some (.int (XR ds hs n r)) := atI_nat (by rw [List.getElem?_map, rowX_get h]; rfl)
theorem rowX_prev {n r : Nat} (h : r < ds.length) : atI ((rowX ds hs n).map V.int) ((r : Int) - 1) = some (.int (XR ds hs n (prv ds.length r))) := by
  rw [atI_prev (by rw [List.length_map, rowX_len]; exact h), List.length_map, rowX_len, List.getElem?_map, rowX_get (prv_lt h)]
  rfl
theorem rowX_shift {n : Nat} : ((rowX ds hs n).map fun x => x + shN ds hs) = rowX ds hs (n + evN ds hs) ↔ ShR ds hs n := by
  unfold rowX
  rw [List.map_map]
  constructor
  · intro h r hr
    have := List.map_inj_left.mp h r (List.mem_range.mpr hr)
    exact this.symm
  · intro h
    exact List.map_congr_left fun r hr => (h r (List.mem_range.mp hr)).symm
end
/-! ### the object -/
structure CourseC (K : PySem.W.Frag) (CC : Addr) : Prop where
  cl : Cls K CC
  n1 : NoAttr K CC "ring"
  n2 : NoAttr K CC "size"
  n3 : NoAttr K CC "every"
  n4 : NoAttr K CC "shift"
  n5 : NoAttr K CC "rows"
  n6 : NoAttr K CC "first"
structure CF (r Rw : Addr) (N e : Nat) (s : Int) (fs : List (Str × V)) : Prop where
  ring : fs.lookup ("ring" : Str) = some (.ref r)
  size : fs.lookup ("size" : Str) = some (.int (N : Int))
  every : fs.lookup ("every" : Str) = some (.int (e : Int))
  shift : fs.lookup ("shift" : Str) = some (.int s)
  rows : fs.lookup ("rows" : Str) = some (.ref Rw)
  m1 : fs.lookup ("next_row" : Str) = none
  m2 : fs.lookup ("is_shifted" : Str) = none
  m3 : fs.lookup ("is_settled" : Str) = none
  m4 : fs.lookup ("end" : Str) = none
  m5 : fs.lookup ("arrival" : Str) = none
def RowsAt (H : Hp) (Rw : Addr) (ds hs : List Int) (L : Nat) : Prop := ∃ ps : List Addr, H Rw = some (.lst (ps.map V.ref)) ∧ ps.length = L ∧ ∀ (i : Nat) (p : Addr), ps[i]? = some p → H p = some (.lst ((rowX ds hs i).map V.int))
structure CrsIn (K : PySem.W.Frag) (C CC : Addr) (H : Hp) (c r a b Rw : Addr) (ds hs : List Int) (L : Nat) : Prop where
  obj : ∃ dx fs, H c = some (.ins CC dx fs) ∧ CF r Rw ds.length (evN ds hs) (shN ds hs) fs
  ring : RingIn K C H r a b ds hs
  rows : RowsAt H Rw ds hs L
section
variable {K : PySem.W.Frag} {C CC : Addr} {H H' : Hp} {c r a b Rw l : Addr} {ds hs : List Int} {L : Nat} {ys : List V} {Q : VK} {E : XK}
theorem RowsAt.ex (e : Ex H H') (R : RowsAt H Rw ds hs L) : RowsAt H' Rw ds hs L := let ⟨ps, h1, h2, h3⟩ := R; ⟨ps, e _ _ h1, h2, fun i p h => e _ _ (h3 i p h)⟩
theorem RowsAt.exI {dx : Addr} {fs : List (Str × V)} (e : Exb l H H') (hl : H l = some (.ins CC dx fs)) (R : RowsAt H Rw ds hs L) : RowsAt H' Rw ds hs L :=
  let ⟨ps, h1, h2, h3⟩ := R; ⟨ps, e _ _ (ne_of h1 hl (by intro z; cases z)) h1, h2, fun i p h => e _ _ (ne_of (h3 i p h) hl (by intro z; cases z)) (h3 i p h)⟩
theorem CrsIn.ex (e : Ex H H') (R : CrsIn K C CC H c r a b Rw ds hs L) : CrsIn K C CC H' c r a b Rw ds hs L :=
  ⟨let ⟨dx, fs, h, f⟩ := R.obj; ⟨dx, fs, e _ _ h, f⟩, R.ring.ex e, R.rows.ex e⟩
theorem CrsIn.exb (e : Exb l H H') (hl : H l = some (.lst ys)) (n1 : l ≠ Rw) (n2 : ∀ zs, H l = some (.lst (List.map V.int zs)) → False) (R : CrsIn K C CC H c r a b Rw ds hs L) : CrsIn K C CC H' c r a b Rw ds hs L :=
  ⟨let ⟨dx, fs, h, f⟩ := R.obj; ⟨dx, fs, exb_ins e hl h, f⟩, R.ring.exb e hl, let ⟨ps, h1, h2, h3⟩ := R.rows; ⟨ps, e _ _ (Ne.symm n1) h1, h2, fun i p h => e _ _ (fun z => n2 _ (z ▸ h3 i p h)) (h3 i p h)⟩⟩
theorem g_crows (R : CrsIn K C CC H c r a b Rw ds hs L) (k : CourseC K CC) (q : Q (.ref Rw) H) : kFld K "rows" Q (.ref c) H := let ⟨dx, fs, h, f⟩ := R.obj; g_kFld h k.cl k.n5 f.rows q
theorem g_csize (R : CrsIn K C CC H c r a b Rw ds hs L) (k : CourseC K CC) (q : Q (.int (ds.length : Int)) H) : kFld K "size" Q (.ref c) H := let ⟨dx, fs, h, f⟩ := R.obj; g_kFld h k.cl k.n2 f.size q
theorem g_cevery (R : CrsIn K C CC H c r a b Rw ds hs L) (k : CourseC K CC) (q : Q (.int (evN ds hs : Nat)) H) : kFld K "every" Q (.ref c) H := let ⟨dx, fs, h, f⟩ := R.obj; g_kFld h k.cl k.n3 f.every q
theorem g_cshift (R : CrsIn K C CC H c r a b Rw ds hs L) (k : CourseC K CC) (q : Q (.int (shN ds hs)) H) : kFld K "shift" Q (.ref c) H := let ⟨dx, fs, h, f⟩ := R.obj; g_kFld h k.cl k.n4 f.shift q
theorem g_cring (R : CrsIn K C CC H c r a b Rw ds hs L) (k : CourseC K CC) (q : Q (.ref r) H) : kFld K "ring" Q (.ref c) H := let ⟨dx, fs, h, f⟩ := R.obj; g_kFld h k.cl k.n1 f.ring q
theorem g_clen (R : RowsAt H Rw ds hs L) (q : Q (.int (L : Int)) H) : rLen K [.ref Rw] H Q := by
  obtain ⟨ps, h1, rfl, h3⟩ := R
  exact g_lenLM (SqL.of h1) q
/-- rows[k] -/
theorem g_crow {k : Int} {i : Nat} (R : RowsAt H Rw ds hs L) (e : ixN L k = some i) (q : ∀ p, H p = some (.lst ((rowX ds hs i).map V.int)) → Q (.ref p) H) : rIxL K (.ref Rw) (.int k) H Q := by
  obtain ⟨ps, h1, rfl, h3⟩ := R
  have hi : i < ps.length := (ixN_seq e).2.1
  refine g_ixL (v := .ref ps[i]) (SqL.of h1) ?_ (q _ (h3 i _ (List.getElem?_eq_getElem hi)))
  unfold atI
  rw [List.length_map, e]
  show (ps.map V.ref)[i]? = _
  rw [List.getElem?_map, List.getElem?_eq_getElem hi]
  rfl
end
local macro_rules | `(tactic| walk_at "hp") => `(tactic| first
  | ((with_reducible apply CrsIn.ex); (focus walk_at "as"); walk_at "hp")
  | ((with_reducible apply RowsAt.ex); (focus walk_at "as"); walk_at "hp"))
local macro_rules | `(tactic| walk_at "sp") => `(tactic| first
  | ((with_reducible apply g_crows); (focus walk_at "hp"); (focus with_reducible assumption))
  | ((with_reducible apply g_csize); (focus walk_at "hp"); (focus with_reducible assumption))
  | ((with_reducible apply g_cevery); (focus walk_at "hp"); (focus with_reducible assumption))
  | ((with_reducible apply g_cshift); (focus walk_at "hp"); (focus with_reducible assumption))
  | ((with_reducible apply g_cring); (focus walk_at "hp"); (focus with_reducible assumption))
  | ((with_reducible apply g_cfirst); (focus walk_at "hp"); (focus with_reducible assumption))
  | ((with_reducible apply g_clen); (focus walk_at "hp"))
  | ((with_reducible apply g_cmShifted); (focus walk_at "hp"))
  | ((with_reducible apply g_cmSettled); (focus walk_at "hp"))
  | ((with_reducible apply g_cmNext); (focus walk_at "hp"))
  | ((with_reducible apply g_cmEnd); (focus walk_at "hp"))
  | ((with_reducible apply g_cmArrival); (focus walk_at "hp")))

section
variable {P : Program} {w : World} {K : PySem.W.Frag} {mg : Str → Option Value} {base : Heap} {C CC : Addr}
def sp_next_row (K : PySem.W.Frag) (C CC : Addr) : Sp := fun vs H Q _ => ∃ (c r a b Rw : Addr) (ds hs : List Int) (L : Nat), vs = [.ref c] ∧ CrsIn K C CC H c r a b Rw ds hs L ∧ L ≤ 900 ∧ ∀ p H', H p = none → Ex H H' → H' p = some (.lst ((rowX ds hs L).map V.int)) → Q (.ref p) H'
theorem ok_next_row (Z : Blt mg) (R : RingC K C) (RC : CourseC K CC) (G : CFun K CC "next_row" "Course.next_row" s_Course_next_row) : Mf P w K mg base CC 1 "next_row" ["self"] (sp_next_row K C CC) := by
  refine Mf.of G sc_Course_next_row b_Course_next_row (fun vs H Q E h => ?_) (fun f cdv A outer s H vs Q E hr h => ?_)
  · obtain ⟨c, r, a, b, Rw, ds, hs, L, rfl, _⟩ := h
    rfl
  · obtain ⟨c, r, a, b, Rw, ds, hs, L, rfl, CI, hL, q⟩ := h
    have cl_Ring := R.cl
    have RI := CI.ring
    have RW := CI.rows
    have O := RI.ok
    have RG := O.rg
    have o8 := O.eight
    have hT := RI.hp
    refine ⟨_, PSs.nox (pss_cons (ps_par (i := 1) (j := 2) rfl sc_Course_next_row.nd rfl rfl (by decide) rfl rfl (pa_cons (pe_callB c_len (by rfl) Z.zlen PySem.boot_len (pa_cons (pe_fld (pv 0) rfl) pa_nil)) (pa_cons (pe_op op_rep (pe_lst (pa_cons pe_int pa_nil)) (pe_fld (pv 0) rfl)) pa_nil)) (by rfl))
      (pss_cons (ps_set (i := 3) sc_Course_next_row.nd rfl (by first | exact Or.inl rfl | exact Or.inr rfl) (pe_ix ix_list (pe_lc (own := [("reader", 5), ("heap", 6)]) rfl sc_Course_next_row.nd (pi_enumT (by rfl) Z.zenumerate (pa_cons (pe_fld (pe_fld (pv 0) rfl) rfl) pa_nil)) (blkOk_by (N := N_Course_next_row) (sc := defScope s_Course_next_row) (by decide +kernel)) (fun _ _ _ _ _ => (pg_tupK K (n := 2) (by rfl) (pgs_cons (pg_name (i := 5) sc_Course_next_row.nd rfl (by first | exact Or.inl rfl | exact Or.inr rfl)) (pgs_cons (pg_name (i := 6) sc_Course_next_row.nd rfl (by first | exact Or.inl rfl | exact Or.inr rfl)) pgs_nil)))) (fun _ _ _ _ _ => (pts_one (pt_cmpR op_gt (pv 6) pe_int (nomark _)))) (fun _ _ _ _ _ => (pv 5))) pe_int (fun _ _ => rfl)))
      (pss_cons (ps_for PassesOwn.never rfl (pi_range1 (by rfl) Z.zrange (pa_cons (pe_fld (pv 0) rfl) pa_nil)) (pg_name (i := 4) sc_Course_next_row.nd rfl (by first | exact Or.inl rfl | exact Or.inr rfl)) (pss_cons (ps_set (i := 5) sc_Course_next_row.nd rfl (by first | exact Or.inl rfl | exact Or.inr rfl) (pe_op op_mod (pe_callTy c_int1 (by rfl) Z.zint (by decide +kernel) (pa_cons (pe_op op_add (pv 3) (pv 4)) pa_nil)) (pe_fld (pv 0) rfl)))
          (pss_cons (ps_set (i := 6) sc_Course_next_row.nd rfl (by first | exact Or.inl rfl | exact Or.inr rfl) (pe_ix ix_tup (pe_fld (pe_fld (pv 0) rfl) rfl) (pv 5) (fun _ _ => rfl)))
          (pss_cons (ps_set (i := 7) sc_Course_next_row.nd rfl (by first | exact Or.inl rfl | exact Or.inr rfl) (pe_ifExp (pt_cmpR op_gt (pv 1) pe_int (nomark _)) (pe_ix ix_list (pe_ix ix_list (pe_fld (pv 0) rfl) (pe_un un_neg pe_int) (fun _ _ => rfl)) (pv 5) (fun _ _ => rfl)) pe_int))
          (pss_cons (ps_if (pt_cmpR op_eq (pv 6) pe_int (nomark _)) (pss_one (ps_set (i := 7) sc_Course_next_row.nd rfl (by first | exact Or.inl rfl | exact Or.inr rfl) (pe_callB (c_max2 rfl) (by rfl) Z.zmax (by decide +kernel) (pa_cons (pv 7) (pa_cons (pe_ix ix_list (pv 2) (pe_op op_sub (pv 5) pe_int) (fun _ _ => rfl)) pa_nil))))) (pss_one (ps_if (pt_cmpR op_ge (pv 1) (pv 6) (nomark _)) (pss_one (ps_set (i := 7) sc_Course_next_row.nd rfl (by first | exact Or.inl rfl | exact Or.inr rfl) (pe_callB (c_max2 rfl) (by rfl) Z.zmax (by decide +kernel) (pa_cons (pv 7) (pa_cons (pe_ix ix_list (pe_ix ix_list (pe_fld (pv 0) rfl) (pe_op op_sub (pv 1) (pv 6)) (fun _ _ => rfl)) (pe_op op_sub (pv 5) pe_int) (fun _ _ => rfl)) pa_nil))))) pss_nil)))
          (pss_one (ps_asg (pe_op op_add (pv 7) (pe_ix ix_tup (pe_fld (pe_fld (pv 0) rfl) rfl) (pv 5) (fun _ _ => rfl))) (pg_sub (pv 2) (pv 5) set_list))))))))
      (pss_one (ps_ret (pv 2)))))), ?_⟩
    walk_at "g0"
    walk_at "go"
    rename_i l1 H1 n1 e1 hl1
    refine g_rep hl1 (by omega) fun row H2 n2 e2 hrow => ?_
    have CI2 := (CI.ex e1).ex e2
    have RI2 := CI2.ring
    have nrow : H row = none := fresh_back e1 n2
    walk_at "go"
    refine g_kLcN RI2.hp (fun A i H' => ∃ ys : List Int, Ex H2 H' ∧ H' A = some (.lst (ys.map V.int)) ∧ ys.length ≤ i ∧ ((∀ j, j < i → hF hs j = 0) ∧ ys = [] ∨ ∃ j0, j0 < i ∧ 0 < hF hs j0 ∧ (∀ j, j < j0 → hF hs j = 0) ∧ ys[0]? = some (j0 : Int))) (fun A H3 nA e3 hA => ⟨[], e3, hA, Nat.le_refl _, .inl ⟨fun j hj => absurd hj (Nat.not_lt_zero j), rfl⟩⟩) (fun A i H3 _ _ ⟨ys, e3, _⟩ => ex_t e3 RI2.hp) ?_ ?_
    · rintro A i x H3 T H4 nA hx ⟨ys, e3, hA, hyl, hys⟩ e4 nT hT4
      obtain ⟨n, rfl, hn, hm, hi⟩ := at_int hx
      have hil : i < ds.length := by rw [← O.len]; exact hi
      have hnn : ((hF hs i : Nat) : Int) = n := by
        rw [O.hget]
        simp [List.getD, hn]
      have hA4 := e4 _ _ hA
      have e34 := e3.trans e4
      walk_at "go"
      refine g_kLcT (fun h => ?_) (fun h => ?_)
      · have h := of_decide_eq_true h
        walk_at "go"
        rename_i H5 e5 hA5
        refine ⟨ys ++ [(i : Int)], Exb.ex nA e34 e5, by rw [hA5, map_app], by rw [List.length_append]; simp; omega, .inr ?_⟩
        rcases hys with ⟨h1, rfl⟩ | ⟨j0, h1, h2, h3, h4⟩
        · exact ⟨i, Nat.lt_succ_self i, by omega, h1, rfl⟩
        · refine ⟨j0, by omega, h2, h3, ?_⟩
          have hl := (List.getElem?_eq_some_iff.mp h4).1
          rw [List.getElem?_append_left hl]
          exact h4
      · have h := of_decide_eq_false h
        walk_at "go"
        refine ⟨ys, e34, hA4, by omega, ?_⟩
        rcases hys with ⟨h1, h5⟩ | ⟨j0, h1, h2, h3, h4⟩
        · refine .inl ⟨fun j hj => ?_, h5⟩
          by_cases z : j = i
          · subst z
            omega
          · exact h1 j (by omega)
        · exact .inr ⟨j0, by omega, h2, h3, h4⟩
    · rintro A H3 nA ⟨ys, e3, hA, hyl, hys⟩
      have hb := O.bF_lt
      rw [List.length_map] at hys
      have hy0 : ys[0]? = some ((bF hs : Nat) : Int) := by
        rcases hys with ⟨h1, _⟩ | ⟨j0, h1, h2, h3, h4⟩
        · have := h1 (bF hs) hb.1
          omega
        · have e : bF hs = j0 := by
            unfold bF
            have hg : ∀ j (hj : j < hs.length), hs[j] = ((hF hs j : Nat) : Int) := fun j hj => by
              rw [O.hget]
              simp [List.getD, List.getElem?_eq_getElem hj]
            refine (List.findIdx_eq h1).mpr ⟨decide_eq_true (by have := hg j0 h1; omega), fun j hj => decide_eq_false (by have := hg j (by omega); have := h3 j hj; omega)⟩
          rw [e]
          exact h4
      have hbN : bF hs < ds.length := by rw [← O.len]; exact hb.1
      refine g_ixL (v := .int ((bF hs : Nat) : Int)) (SqL.of hA) (by
        show atI _ ((0 : Nat) : Int) = _
        exact atI_nat (by rw [List.getElem?_map, hy0]; rfl)) ?_
      have CI3 := CI2.ex e3
      have hrow3 := e3 _ _ hrow
      walk_at "go"
      refine g_kForR1 ⟨by omega, by omega⟩ (fun t σ H' => ∃ (ys : List Int) (v4 v5 v6 v7 : Option V), σ = [some (.ref c), some (.int (L : Int)), some (.ref row), some (.int ((bF hs : Nat) : Int)), v4, v5, v6, v7] ∧ Ex H H' ∧ H' row = some (.lst (ys.map V.int)) ∧ ys.length = ds.length ∧ ∀ r, r < ds.length → posn ds.length (bF hs) r < t → ys[r]? = some (XR ds hs L r))
        ⟨List.replicate ds.length 0, _, _, _, _, rfl, (e1.trans e2).trans e3, by rw [hrow3, List.map_replicate], List.length_replicate, fun r _ h => absurd h (Nat.not_lt_zero _)⟩ ?_ ?_
      · rintro t σ H4 ht ⟨ys4, v4, v5, v6, v7, rfl, e4, hrow4, hl4, hy4⟩
        have CI4 := CI.ex e4
        have htN : t < ds.length := by omega
        have hRd : ∃ rd : Nat, rd < ds.length ∧ (((bF hs : Nat) : Int) + (t : Int)) % (ds.length : Int) = (rd : Int) ∧ posn ds.length (bF hs) rd = t ∧ ∀ r, r < ds.length → posn ds.length (bF hs) r < t + 1 → r = rd ∨ posn ds.length (bF hs) r < t := by
          by_cases z : bF hs + t < ds.length
          · refine ⟨bF hs + t, z, ?_, ?_, fun r h1 h2 => ?_⟩
            · rw [Int.emod_eq_of_lt (by omega) (by omega)]
              omega
            · unfold posn
              split <;> omega
            · unfold posn at h2 ⊢
              split at h2 <;> split <;> omega
          · refine ⟨bF hs + t - ds.length, by omega, ?_, ?_, fun r h1 h2 => ?_⟩
            · have e : ((bF hs : Nat) : Int) + (t : Int) = ((bF hs + t - ds.length : Nat) : Int) + (ds.length : Int) := by omega
              rw [e, Int.add_emod_right, Int.emod_eq_of_lt (by omega) (by omega)]
            · unfold posn
              split <;> omega
            · unfold posn at h2 ⊢
              split at h2 <;> split <;> omega
        obtain ⟨rd, hrd, hmod, hpos, hall⟩ := hRd
        have hxh := O.hF_at hrd
        have hxd := dF_at' (ds := ds) hrd
        have RI4 := CI4.ring
        have hS4 := RI4.sp
        have hT4 := RI4.hp
        have RW4 := CI4.rows
        have hrec := X_rec RG.toRg hrd (n := L)
        have hself := fun n => (X_self RG.toRg hrd (n := n)).2
        have hprv := prv_lt hrd
        have hxp := fun n => (X_self RG.toRg hprv (n := n)).2
        have hpp : hF hs rd = 0 → ys4[prv ds.length rd]? = some (XR ds hs L (prv ds.length rd)) := fun h0 => hy4 _ hprv (by
          rw [← hpos]
          refine posn_prv hrd hbN fun e => ?_
          have := hb.2
          rw [← e] at this
          omega)
        walk_at "go"
        rw [hmod]
        walk_at "go"
        have hA : ∃ A0 : Int, A0 = (if 0 < L then XR ds hs (L - 1) rd else 0) := ⟨_, rfl⟩
        have hBt : ∃ B0 : Int, B0 = (if hF hs rd ≤ L then XR ds hs (L - hF hs rd) (prv ds.length rd) else 0) := ⟨_, rfl⟩
        obtain ⟨A0, hA⟩ := hA
        obtain ⟨B0, hBt⟩ := hBt
        have e0 : XR ds hs L rd = dF ds rd + max A0 B0 := by rw [hA, hBt]; exact hrec
        have hA0 : 0 ≤ A0 := by
          rw [hA]
          split
          · exact Int.le_trans (by decide) (hself (L - 1))
          · exact Int.le_refl _
        refine g_kIfQ (.int A0) (fun h Q' q' => ?_) (fun h Q' q' => ?_) ?_
        · have h := of_decide_eq_true h
          rw [hA, if_pos (by omega)] at q'
          walk_at "go"
          refine g_crow RW4 (ixN_neg1 (by omega)) fun p hp => ?_
          walk_at "go"
          exact g_ixL (SqL.of hp) (rowX_at hrd) q'
        · have h := of_decide_eq_false h
          rw [hA, if_neg (by omega)] at q'
          walk_at "go"
          exact q'
        walk_at "go"
        refine g_kIfSQ [some (.ref c), some (.int (L : Int)), some (.ref row), some (.int ((bF hs : Nat) : Int)), some (.int (t : Int)), some (.int (rd : Int)), some (.int (hF hs rd : Nat)), some (.int (max A0 B0))] (fun h D' q' => ?_) (fun h D' q' => ?_) ?_
        · have h := of_decide_eq_true h
          have h0 : hF hs rd = 0 := by omega
          rw [h0, if_pos (Nat.zero_le _), Nat.sub_zero] at hBt
          rw [h0, hBt] at q'
          walk_at "go"
          refine g_ixL (v := .int (XR ds hs L (prv ds.length rd))) (SqL.of hrow4) ?_ ?_
          · rw [atI_prev (by rw [List.length_map, hl4]; exact hrd), List.length_map, hl4, List.getElem?_map, hpp h0]
            rfl
          walk_at "go"
          rw [h0]
          exact q'
        · have h := of_decide_eq_false h
          walk_at "go"
          refine g_kIfSQ _ (fun h2 D2 q2 => ?_) (fun h2 D2 q2 => ?_) q'
          · have h2 := of_decide_eq_true h2
            rw [if_pos (by omega)] at hBt
            rw [hBt] at q2
            walk_at "go"
            refine g_crow (i := L - hF hs rd) RW4 (ixN_int' (by omega) (by omega)) fun p hp => ?_
            walk_at "go"
            refine g_ixL (SqL.of hp) (rowX_prev hrd) ?_
            walk_at "go"
            exact q2
          · have h2 := of_decide_eq_false h2
            rw [if_neg (by omega)] at hBt
            rw [hBt, Int.max_eq_left hA0] at q2
            walk_at "go"
            exact q2
        walk_at "go"
        refine g_setL hrow4 (by rw [List.length_map, hl4]; exact ixN_nat' hrd) fun H5 e5 hrow5 => ?_
        rw [map_set'] at hrow5
        refine ⟨_, _, _, _, _, rfl, Exb.ex nrow e4 e5, hrow5, by rw [List.length_set]; exact hl4, fun r hr hp => ?_⟩
        rcases hall r hr hp with rfl | hlt
        · rw [List.getElem?_set_self (by omega)]
          congr 1
          rw [e0]
          omega
        · have hne : rd ≠ r := by
            intro z
            rw [z] at hpos
            omega
          rw [List.getElem?_set_ne hne]
          exact hy4 r hr hlt
      · rintro σ H4 ⟨ys4, v4, v5, v6, v7, rfl, e4, hrow4, hl4, hy4⟩
        walk_at "go"
        refine q row H4 nrow e4 ?_
        rw [hrow4]
        congr 2
        refine congrArg _ (List.ext_getElem? fun i => ?_)
        by_cases z : i < ds.length
        · rw [hy4 i z (by unfold posn; split <;> omega), rowX_get z]
        · rw [List.getElem?_eq_none (by omega), List.getElem?_eq_none (by rw [rowX_len]; omega)]
end
end G48

namespace G48
open PySem PySem.Spec PyProof.Rows L2 Evl
abbrev N_Course_is_shifted : List Str := ["self", "number", "early", "late", "end"]
theorem sc_Course_is_shifted : FnScope N_Course_is_shifted ["self", "number"] (defScope s_Course_is_shifted) := ⟨rfl, rfl, rfl, by decide +kernel, rfl, by decide +kernel, by decide +kernel⟩
theorem b_Course_is_shifted : BindL "Course.is_shifted" "is_shifted" s_Course_is_shifted ["self", "number"] := fun _ _ _ _ _ _ us hl => match us, hl with | [_, _], _ => rfl
abbrev N_Course_is_settled : List Str := ["self", "last", "number"]
theorem sc_Course_is_settled : FnScope N_Course_is_settled ["self"] (defScope s_Course_is_settled) := ⟨rfl, rfl, rfl, by decide +kernel, rfl, by decide +kernel, by decide +kernel⟩
theorem b_Course_is_settled : BindL "Course.is_settled" "is_settled" s_Course_is_settled ["self"] := fun _ _ _ _ _ _ us hl => match us, hl with | [_], _ => rfl
abbrev N_Course___init__ : List Str := ["self", "ring", "is_slow"]
theorem sc_Course___init__ : FnScope N_Course___init__ ["self", "ring"] (defScope s_Course___init__) := ⟨rfl, rfl, rfl, by decide +kernel, rfl, by decide +kernel, by decide +kernel⟩
theorem b_Course___init__ : BindL "Course.__init__" "__init__" s_Course___init__ ["self", "ring"] := fun _ _ _ _ _ _ us hl => match us, hl with | [_, _], _ => rfl
abbrev N_Course_end : List Str := ["self", "reader", "number", "turns", "rest"]
theorem sc_Course_end : FnScope N_Course_end ["self", "reader", "number"] (defScope s_Course_end) := ⟨rfl, rfl, rfl, by decide +kernel, rfl, by decide +kernel, by decide +kernel⟩
theorem b_Course_end : BindL "Course.end" "end" s_Course_end ["self", "reader", "number"] := fun _ _ _ _ _ _ us hl => match us, hl with | [_, _, _], _ => rfl
end G48
/-! Course: is_shifted, is_settled, __init__, end -/
namespace G48
open PySem PySem.Spec PyProof.Rows L2 Evl
/-! the steps -/
local macro_rules | `(tactic| walk_at "as") => `(tactic| with_reducible assumption)
local macro_rules | `(tactic| walk_at "hp") => `(tactic| first
  | with_reducible assumption
  | ((with_reducible apply SqT.of); walk_at "as")
  | ((with_reducible apply SqL.of); walk_at "as")
  | ((with_reducible apply ex_at); (focus walk_at "as"); walk_at "hp")
  | ((with_reducible apply ex_t); (focus walk_at "as"); walk_at "hp")
  | ((with_reducible apply ex_l); (focus walk_at "as"); walk_at "hp")
  | ((with_reducible apply exb_ins); (focus walk_at "as"); (focus walk_at "hp"); walk_at "hp")
  | ((with_reducible apply exb_t); (focus walk_at "as"); (focus walk_at "hp"); walk_at "hp")
  | ((with_reducible apply exb_at); (focus walk_at "as"); (focus walk_at "ne"); walk_at "hp")
  | ((with_reducible apply exb_l); (focus walk_at "as"); (focus walk_at "ne"); walk_at "hp"))
local macro_rules | `(tactic| walk_at "ne") => `(tactic| first
  | with_reducible assumption
  | exact Ne.symm (by with_reducible assumption)
  | exact ne_of_none (by with_reducible assumption) (by with_reducible assumption)
  | exact Ne.symm (ne_of_none (by with_reducible assumption) (by with_reducible assumption)))
local macro_rules | `(tactic| walk_at "tr") => `(tactic| first
  | rfl
  | with_reducible assumption
  | exact decide_eq_true (by first | with_reducible assumption | omega)
  | exact decide_eq_false (by first | with_reducible assumption | omega)
  | (rw [Bool.not_eq_true']; exact decide_eq_false (by first | with_reducible assumption | omega))
  | (rw [Bool.not_eq_false']; exact decide_eq_true (by first | with_reducible assumption | omega)))
local macro_rules | `(tactic| walk_at "nn") => `(tactic| first | with_reducible assumption | (exact List.cons_ne_nil _ _))
local macro_rules | `(tactic| walk_at "sz") => `(tactic| first | (exact sz1000 (Nat.le_of_ble_eq_true rfl)) | (refine sz1000 ?_; simp only [List.length_map, List.length_cons, List.length_nil, List.length_append]; omega) | with_reducible assumption)
local macro_rules | `(tactic| walk_at "sl") => `(tactic| first | with_reducible assumption | (refine lt1000 ?_; simp only [List.length_map, List.length_cons, List.length_nil, List.length_append]; omega) | (refine lt1000 ?_; omega))
local macro_rules | `(tactic| walk_at "ix") => `(tactic| first | rfl | with_reducible assumption)
local macro_rules | `(tactic| walk_at "rg") => `(tactic| exact RgOk.of_le (by omega) (by omega) (by omega) (by omega))
local macro_rules | `(tactic| walk_at "sp") => `(tactic| fail "sp")
local macro_rules | `(tactic| walk_at "cl") => `(tactic| with_reducible assumption)
local macro_rules | `(tactic| walk_at "lk") => `(tactic| with_reducible assumption)
local macro_rules | `(tactic| walk_at "it") => `(tactic| first | rfl | with_reducible assumption | exact atI_nat (by with_reducible assumption))
local macro_rules | `(tactic| walk_at "g1") => `(tactic| first
  | (with_reducible apply g_var); (focus rfl)
  | with_reducible apply g_c
  | with_reducible apply g_seq
  | with_reducible apply g_asg
  | with_reducible apply gg_name
  | with_reducible apply g_op
  | with_reducible apply g_cons
  | with_reducible apply g_nil
  | with_reducible apply g_cb
  | with_reducible apply g_fld
  | ((with_reducible apply g_kFld); (focus walk_at "hp"); (focus walk_at "cl"); (focus walk_at "cl"); (focus walk_at "lk"))
  | with_reducible apply g_call
  | walk_at "sp"
  | with_reducible apply g_ret
  | with_reducible apply g_drop
  | with_reducible apply g_test
  | with_reducible apply g_B
  | with_reducible apply g_kTest
  | with_reducible apply g_ifS
  | with_reducible apply g_kIfST
  | with_reducible apply g_kIfSF
  | with_reducible apply g_add
  | with_reducible apply g_sub
  | with_reducible apply g_lt
  | with_reducible apply g_le
  | with_reducible apply g_gt
  | with_reducible apply g_ge
  | with_reducible apply g_eqI
  | with_reducible apply g_neI
  | ((with_reducible apply g_mod); (focus first | decide | omega))
  | ((with_reducible apply g_mul); (focus first | (left; constructor <;> omega) | (right; constructor <;> omega)))
  | ((with_reducible apply g_fdiv); (focus (constructor <;> omega)))
  | ((with_reducible apply g_ixT); (focus walk_at "hp"); (focus walk_at "it"))
  | ((with_reducible apply g_ixL); (focus walk_at "hp"); (focus walk_at "it"))
  | with_reducible apply g_and
  | with_reducible apply g_or
  | with_reducible apply g_not
  | with_reducible apply g_kNotT
  | with_reducible apply g_kNotF
  | with_reducible apply g_if
  | with_reducible apply g_kAndT
  | with_reducible apply g_kAndF
  | with_reducible apply g_kOrT
  | with_reducible apply g_kOrF
  | with_reducible apply g_kIfT
  | with_reducible apply g_kIfF
  | with_reducible apply g_next
  | with_reducible apply g_andV
  | with_reducible apply g_orV
  | with_reducible apply g_notV
  | with_reducible apply g_kNotV
  | with_reducible apply g_kAndVT
  | with_reducible apply g_kAndVF
  | with_reducible apply g_chain
  | with_reducible apply g_kChainT
  | with_reducible apply g_kChainF
  | with_reducible apply g_tup
  | with_reducible apply g_lst
  | ((with_reducible apply g_kT); (focus walk_at "sz"); intro _ _ _ _ _)
  | ((with_reducible apply g_kL); (focus walk_at "sz"); intro _ _ _ _ _)
  | with_reducible apply g_un
  | with_reducible apply g_neg
  | with_reducible apply g_meth
  | ((with_reducible apply g_kMeth); (focus walk_at "hp"); (focus walk_at "lk"))
  | with_reducible apply g_prop
  | ((with_reducible apply g_kProp); (focus walk_at "hp"))
  | with_reducible apply g_make
  | with_reducible apply g_par
  | with_reducible apply g_kPar
  | ((with_reducible apply g_lenLM); (focus walk_at "hp"))
  | ((with_reducible apply g_lenTM); (focus walk_at "hp"))
  | ((with_reducible apply g_lenL); (focus walk_at "hp"))
  | ((with_reducible apply g_lenT); (focus walk_at "hp"))
  | with_reducible apply g_int1
  | with_reducible apply g_max2
  | with_reducible apply g_min2
  | ((with_reducible apply g_listL); (focus walk_at "hp"); intro _ _ _ _ _)
  | ((with_reducible apply g_listT); (focus walk_at "hp"); intro _ _ _ _ _)
  | ((with_reducible apply g_tupL); (focus walk_at "hp"); intro _ _ _ _ _)
  | ((with_reducible apply g_sum); (focus walk_at "hp"))
  | with_reducible apply g_sfld
  | with_reducible apply g_sl
  | with_reducible apply g_nopart
  | with_reducible apply g_part
  | with_reducible apply g_kPart
  | with_reducible apply g_lstRg
  | with_reducible apply g_rg1
  | with_reducible apply g_kRg1
  | with_reducible apply g_bm
  | with_reducible apply gg_sub
  | ((with_reducible apply gg_tup); (focus walk_at "hp"); (focus rfl))
  | with_reducible apply gg_cons
  | with_reducible apply gg_nil
  | with_reducible apply g_forL
  | with_reducible apply g_forT
  | with_reducible apply g_forR1
  | with_reducible apply g_forR2
  | with_reducible apply g_forE
  | with_reducible apply g_forEL
  | ((with_reducible apply g_maxT); (focus walk_at "hp"); (focus walk_at "nn"))
  | ((with_reducible apply g_maxL); (focus walk_at "hp"); (focus walk_at "nn"))
  | ((with_reducible apply g_catA); (focus walk_at "hp"); (focus walk_at "hp"); (focus walk_at "sz"); intro _ _ _ _)
  | ((with_reducible apply g_slA); (focus walk_at "hp"); intro _ _ _ _)
  | ((with_reducible apply g_tupD); (focus walk_at "hp"); intro _ _ _ _ _)
  | ((with_reducible apply g_setL); (focus walk_at "hp"); (focus walk_at "ix"); intro _ _ _)
  | ((with_reducible apply g_append); (focus walk_at "hp"); (focus walk_at "sl"); intro _ _ _)
  | ((with_reducible apply g_aug); (focus rfl))
  | with_reducible apply g_ipI
  | with_reducible apply g_retN
  | with_reducible apply g_lcR1
  | with_reducible apply g_lcR2
  | with_reducible apply g_lcL
  | with_reducible apply g_lcU
  | with_reducible apply g_lcN
  | ((with_reducible apply g_kLcG); (focus rfl))
  | with_reducible apply g_yes
  | with_reducible apply g_kLcTT
  | with_reducible apply g_kLcTF
  | ((with_reducible apply g_kLcE); (focus walk_at "hp"); (focus walk_at "sl"); intro _ _ _)
  | ((with_reducible apply g_pow); (focus (constructor <;> (try constructor) <;> decide)))
  | ((with_reducible apply g_kLRg); (focus walk_at "rg"); intro _ _ _ _ _)
  | ((with_reducible apply g_cat); (focus walk_at "hp"); (focus walk_at "hp"); (focus walk_at "sz"); intro _ _ _ _ _)
  | ((with_reducible apply g_slL); (focus walk_at "hp"); intro _ _ _ _ _)
  | with_reducible apply g_bmT
  | with_reducible apply g_break
  | with_reducible apply g_cont)
local macro_rules | `(tactic| walk_at "g0") => `(tactic| try dsimp only [L2.cxOf, L2.Cx.nox, L2.Cx.wish])
local macro_rules | `(tactic| walk_at "yn") => `(tactic| first
  | ((with_reducible apply y_kIfS); (focus walk_at "tr"))
  | ((with_reducible apply n_kIfS); (focus walk_at "tr"))
  | ((with_reducible apply y_kOr); (focus walk_at "tr"))
  | ((with_reducible apply n_kOr); (focus walk_at "tr"))
  | ((with_reducible apply y_kAnd); (focus walk_at "tr"))
  | ((with_reducible apply n_kAnd); (focus walk_at "tr"))
  | ((with_reducible apply y_kNot); (focus walk_at "tr"))
  | ((with_reducible apply n_kNot); (focus walk_at "tr"))
  | ((with_reducible apply y_kIf); (focus walk_at "tr"))
  | ((with_reducible apply n_kIf); (focus walk_at "tr"))
  | ((with_reducible apply y_kAndV); (focus walk_at "tr"))
  | ((with_reducible apply n_kAndV); (focus walk_at "tr"))
  | ((with_reducible apply y_kOrV); (focus walk_at "tr"))
  | ((with_reducible apply n_kOrV); (focus walk_at "tr"))
  | ((with_reducible apply y_kChain); (focus walk_at "tr"))
  | ((with_reducible apply n_kChain); (focus walk_at "tr"))
  | ((with_reducible apply y_kLcT); (focus walk_at "tr"))
  | ((with_reducible apply n_kLcT); (focus walk_at "tr"))
  | ((with_reducible apply y_kWh); (focus walk_at "tr"))
  | ((with_reducible apply n_kWh); (focus walk_at "tr")))
local macro_rules | `(tactic| walk_at "go") => `(tactic| repeat (first | walk_at "g1" | walk_at "yn"))
local macro_rules | `(tactic| walk_at "hp") => `(tactic| first
  | ((with_reducible apply RingIn.ex); (focus walk_at "as"); walk_at "hp")
  | ((with_reducible apply RingAt.ex); (focus walk_at "as"); walk_at "hp")
  | ((with_reducible apply RingIn.exb); (focus walk_at "as"); (focus walk_at "hp"); walk_at "hp")
  | ((with_reducible apply RingAt.exb); (focus walk_at "as"); (focus walk_at "hp"); walk_at "hp")
  | ((with_reducible apply TupK.ex); (focus walk_at "as"); walk_at "hp")
  | ((with_reducible apply TupK.exb); (focus walk_at "as"); (focus walk_at "hp"); walk_at "hp"))
local macro_rules | `(tactic| walk_at "lk") => `(tactic| first | with_reducible exact rf_spans | with_reducible exact rf_heaps | with_reducible exact rf_total | with_reducible exact rf_nr | with_reducible exact rf_wd)
local macro_rules | `(tactic| walk_at "sp") => `(tactic| first
  | ((with_reducible apply g_isiTup); (focus walk_at "hp"))
  | ((with_reducible apply g_isiLst); (focus walk_at "hp"))
  | ((with_reducible apply g_isint); (focus omega); (focus omega))
  | ((with_reducible apply g_checkn); (focus omega); (focus omega))
  | ((with_reducible apply g_rbooks); (focus walk_at "hp"))
  | ((with_reducible apply g_rpace); (focus walk_at "hp"); intro _ _ _ _)
  | ((with_reducible apply g_rlen); (focus walk_at "hp"))
  | ((with_reducible apply g_rneed); (focus walk_at "hp"); (focus omega))
  | ((with_reducible apply g_rneedM); (focus walk_at "hp"))
  | ((with_reducible apply g_rwithM); (focus walk_at "hp"))
  | ((with_reducible apply g_rspans); (focus walk_at "hp"); (focus with_reducible assumption))
  | ((with_reducible apply g_rheaps); (focus walk_at "hp"); (focus with_reducible assumption))
  | ((with_reducible apply g_rtotal); (focus walk_at "hp"); (focus with_reducible assumption)))

/-- a course made: its first settled reading -/
def SetF (ds hs : List Int) (F : Nat) : Prop := (∀ n, F ≤ n → ShR ds hs n) ∧ (F = 0 ∨ ¬ ShR ds hs (F - 1))
structure CrsAt (K : PySem.W.Frag) (C CC : Addr) (H : Hp) (c r a b Rw : Addr) (ds hs : List Int) (L F : Nat) : Prop where
  obj : ∃ dx fs, H c = some (.ins CC dx (putF "first" (.int (F : Int)) fs)) ∧ CF r Rw ds.length (evN ds hs) (shN ds hs) fs ∧ fs.length ≤ 10
  ring : RingIn K C H r a b ds hs
  rows : RowsAt H Rw ds hs L
  le : F + evN ds hs ≤ L ∧ L ≤ 900
theorem CF.first {r Rw : Addr} {N e : Nat} {s : Int} {fs : List (Str × V)} {v : V} (h : CF r Rw N e s fs) : CF r Rw N e s (putF "first" v fs) := by
  obtain ⟨h1, h2, h3, h4, h5, h6, h7, h8, h9, h10⟩ := h
  refine ⟨?_, ?_, ?_, ?_, ?_, ?_, ?_, ?_, ?_, ?_⟩
  all_goals (rw [lookup_putF, if_neg (by decide +kernel)]; assumption)
theorem putF_putF (f : Str) (u v : V) : ∀ fs : List (Str × V), putF f v (putF f u fs) = putF f v fs
  | [] => by
    show (if f = f then _ else _) = _
    rw [if_pos rfl]
    rfl
  | (k, x) :: t => by
    show putF f v (if k = f then (k, u) :: t else (k, x) :: putF f u t) = if k = f then (k, v) :: t else (k, x) :: putF f v t
    by_cases h : k = f
    · rw [if_pos h, if_pos h]
      show (if k = f then _ else _) = _
      rw [if_pos h]
    · rw [if_neg h, if_neg h]
      show (if k = f then _ else _) = _
      rw [if_neg h, putF_putF f u v t]
section
variable {K : PySem.W.Frag} {C CC : Addr} {H H' : Hp} {c r a b Rw l : Addr} {ds hs : List Int} {L F : Nat} {ys : List V} {Q : VK} {E : XK} {tr : TA} {σ : L2.St} {sp : Sp}
theorem CrsAt.into (R : CrsAt K C CC H c r a b Rw ds hs L F) : CrsIn K C CC H c r a b Rw ds hs L := ⟨let ⟨dx, fs, h, f, _⟩ := R.obj; ⟨dx, _, h, f.first⟩, R.ring, R.rows⟩
theorem CrsAt.ex (e : Ex H H') (R : CrsAt K C CC H c r a b Rw ds hs L F) : CrsAt K C CC H' c r a b Rw ds hs L F := ⟨let ⟨dx, fs, h, f⟩ := R.obj; ⟨dx, fs, e _ _ h, f⟩, R.ring.ex e, R.rows.ex e, R.le⟩
theorem g_cfirst (R : CrsAt K C CC H c r a b Rw ds hs L F) (k : CourseC K CC) (q : Q (.int (F : Int)) H) : kFld K "first" Q (.ref c) H := let ⟨dx, fs, h, f, _⟩ := R.obj; g_kFld h k.cl k.n6 (by rw [lookup_putF, if_pos rfl]) q
theorem g_cmNext (R : CrsIn K C CC H c r a b Rw ds hs L) (q : tr σ H fun vs H2 => sp (.ref c :: vs) H2 Q E) : kMeth CC "next_row" sp E tr σ Q (.ref c) H := let ⟨dx, fs, h, f⟩ := R.obj; g_kMeth h f.m1 q
theorem g_cmShifted (R : CrsIn K C CC H c r a b Rw ds hs L) (q : tr σ H fun vs H2 => sp (.ref c :: vs) H2 Q E) : kMeth CC "is_shifted" sp E tr σ Q (.ref c) H := let ⟨dx, fs, h, f⟩ := R.obj; g_kMeth h f.m2 q
theorem g_cmSettled (R : CrsIn K C CC H c r a b Rw ds hs L) (q : tr σ H fun vs H2 => sp (.ref c :: vs) H2 Q E) : kMeth CC "is_settled" sp E tr σ Q (.ref c) H := let ⟨dx, fs, h, f⟩ := R.obj; g_kMeth h f.m3 q
theorem g_cmEnd (R : CrsIn K C CC H c r a b Rw ds hs L) (q : tr σ H fun vs H2 => sp (.ref c :: vs) H2 Q E) : kMeth CC "end" sp E tr σ Q (.ref c) H := let ⟨dx, fs, h, f⟩ := R.obj; g_kMeth h f.m4 q
theorem g_cmArrival (R : CrsIn K C CC H c r a b Rw ds hs L) (q : tr σ H fun vs H2 => sp (.ref c :: vs) H2 Q E) : kMeth CC "arrival" sp E tr σ Q (.ref c) H := let ⟨dx, fs, h, f⟩ := R.obj; g_kMeth h f.m5 q
theorem evN_pos (O : RingOk ds hs) : 1 ≤ evN ds hs ∧ evN ds hs ≤ 12 := by
  have := O.one
  have := O.twelve
  unfold evN
  split <;> omega
theorem shN_bd (O : RingOk ds hs) : 1 ≤ shN ds hs ∧ shN ds hs ≤ 240 := by
  have := O.days.mx
  have := O.days.sum
  unfold shN
  split <;> omega
theorem ShR_late (O : RingOk ds hs) {n : Nat} (h : 360 ≤ n) : ShR ds hs n := by
  have G := O.rg
  have o1 := O.one
  have o2 := O.twelve
  have om := O.days.mx
  have eB : ((hs.sum.toNat : Nat) : Int) = hs.sum := by omega
  unfold ShR evN shN
  by_cases hc : ds.sum ≤ mx ds * hs.sum
  · rw [if_pos hc, if_pos hc]
    refine slow_shift G (by rw [eB]; exact hc) (by omega) ?_
    rw [eB]
    have h1 : mx ds * hs.sum ≤ 30 * hs.sum := Int.mul_le_mul_of_nonneg_right (by omega) (by omega)
    omega
  · rw [if_neg hc, if_neg hc]
    exact quick_shift G (by rw [eB]; omega) (by omega)
theorem row_ne {i : Nat} {p : Addr} {ps : List Addr} (O : RingOk ds hs) (h : H p = some (.lst ((rowX ds hs i).map V.int))) (hw : H Rw = some (.lst (ps.map V.ref))) : p ≠ Rw := by
  intro z
  rw [z, hw] at h
  have e : ps.map V.ref = (rowX ds hs i).map V.int := by
    injection h with h
    injection h
  have hl := congrArg List.length e
  rw [List.length_map, List.length_map, rowX_len] at hl
  have h0 := congrArg (fun t : List V => t[0]?) e
  have h2 := O.two
  simp only [List.getElem?_map] at h0
  rw [rowX_get (by omega), List.getElem?_eq_getElem (by omega)] at h0
  cases h0
/-- a row appended -/
theorem RowsAt.app {p : Addr} {ps : List Addr} (O : RingOk ds hs) (hw : H Rw = some (.lst (ps.map V.ref))) (hr : ∀ (i : Nat) (q : Addr), ps[i]? = some q → H q = some (.lst ((rowX ds hs i).map V.int))) (hp : H p = some (.lst ((rowX ds hs ps.length).map V.int)))
    (e : Exb Rw H H') (hw' : H' Rw = some (.lst (ps.map V.ref ++ [.ref p]))) : RowsAt H' Rw ds hs (ps.length + 1) := by
  refine ⟨ps ++ [p], by rw [hw', List.map_append]; rfl, by rw [List.length_append]; rfl, fun i q hq => ?_⟩
  by_cases z : i < ps.length
  · rw [List.getElem?_append_left z] at hq
    exact e _ _ (row_ne O (hr i q hq) hw) (hr i q hq)
  · rw [List.getElem?_append_right (by omega)] at hq
    have hl : i = ps.length := by
      have := (List.getElem?_eq_some_iff.mp hq).1
      simp only [List.length_cons, List.length_nil] at this
      omega
    subst hl
    rw [Nat.sub_self] at hq
    cases hq
    exact e _ _ (row_ne O hp hw) hp
end
local macro_rules | `(tactic| walk_at "hp") => `(tactic| first
  | ((with_reducible apply CrsIn.ex); (focus walk_at "as"); walk_at "hp")
  | ((with_reducible apply RowsAt.ex); (focus walk_at "as"); walk_at "hp"))
local macro_rules | `(tactic| walk_at "sp") => `(tactic| first
  | ((with_reducible apply g_crows); (focus walk_at "hp"); (focus with_reducible assumption))
  | ((with_reducible apply g_csize); (focus walk_at "hp"); (focus with_reducible assumption))
  | ((with_reducible apply g_cevery); (focus walk_at "hp"); (focus with_reducible assumption))
  | ((with_reducible apply g_cshift); (focus walk_at "hp"); (focus with_reducible assumption))
  | ((with_reducible apply g_cring); (focus walk_at "hp"); (focus with_reducible assumption))
  | ((with_reducible apply g_cfirst); (focus walk_at "hp"); (focus with_reducible assumption))
  | ((with_reducible apply g_clen); (focus walk_at "hp"))
  | ((with_reducible apply g_cmShifted); (focus walk_at "hp"))
  | ((with_reducible apply g_cmSettled); (focus walk_at "hp"))
  | ((with_reducible apply g_cmNext); (focus walk_at "hp"))
  | ((with_reducible apply g_cmEnd); (focus walk_at "hp"))
  | ((with_reducible apply g_cmArrival); (focus walk_at "hp")))

section
variable {P : Program} {w : World} {K : PySem.W.Frag} {mg : Str → Option Value} {base : Heap} {C CC : Addr}
def sp_is_shifted (K : PySem.W.Frag) (C CC : Addr) : Sp := fun vs H Q _ => ∃ (c r a b Rw : Addr) (ds hs : List Int) (L n : Nat), vs = [.ref c, .int (n : Int)] ∧ CrsIn K C CC H c r a b Rw ds hs L ∧ n + evN ds hs < L ∧ ∀ (v : Bool) H', Ex H H' → (v = true ↔ ShR ds hs n) → Q (.bl v) H'
theorem ok_is_shifted (Z : Blt mg) (RC : CourseC K CC) (G : CFun K CC "is_shifted" "Course.is_shifted" s_Course_is_shifted) : Mf P w K mg base CC 1 "is_shifted" ["self", "number"] (sp_is_shifted K C CC) := by
  refine Mf.of G sc_Course_is_shifted b_Course_is_shifted (fun vs H Q E h => ?_) (fun f cdv A outer s H vs Q E hr h => ?_)
  · obtain ⟨c, r, a, b, Rw, ds, hs, L, n, rfl, _⟩ := h
    rfl
  · obtain ⟨c, r, a, b, Rw, ds, hs, L, n, rfl, CI, hL, q⟩ := h
    have RW := CI.rows
    refine ⟨_, PSs.nox (pss_cons (ps_par (i := 2) (j := 3) rfl sc_Course_is_shifted.nd rfl rfl (by decide) rfl rfl (pa_cons (pe_ix ix_list (pe_fld (pv 0) rfl) (pv 1) (fun _ _ => rfl)) (pa_cons (pe_ix ix_list (pe_fld (pv 0) rfl) (pe_op op_add (pv 1) (pe_fld (pv 0) rfl)) (fun _ _ => rfl)) pa_nil)) (by rfl))
      (pss_one (ps_ret (pe_cmpR (op_eqD hr.units) (pe_lc (own := [("end", 4)]) rfl sc_Course_is_shifted.nd (pi_list (pv 2)) (blkOk_by (N := N_Course_is_shifted) (sc := defScope s_Course_is_shifted) (by decide +kernel)) (fun _ _ _ _ _ => (pg_name (i := 4) sc_Course_is_shifted.nd rfl (by first | exact Or.inl rfl | exact Or.inr rfl))) (fun _ _ _ _ _ => pts_nil) (fun _ _ _ _ _ => (pe_op op_add (pv 4) (pe_fldK K (pv 0) rfl)))) (pv 3) (nomark _))))), ?_⟩
    walk_at "g0"
    walk_at "go"
    refine g_crow RW (ixN_nat' (by omega : n < L)) fun p1 hp1 => ?_
    walk_at "go"
    refine g_crow (i := n + evN ds hs) RW (ixN_int' (by omega) hL) fun p2 hp2 => ?_
    walk_at "go"
    refine g_kLcL (SqL.of hp1) (fun A i H' => Ex H H' ∧ H' A = some (.lst ((((rowX ds hs n).take i).map fun x => x + shN ds hs).map V.int))) (fun A H1 nA e1 hA => ⟨e1, hA⟩) (fun A i H1 _ _ h => ex_l h.1 (SqL.of hp1)) ?_ ?_
    · rintro A i v H1 nA hv ⟨e1, hA⟩
      obtain ⟨x, rfl, hx, hm, hi⟩ := at_int hv
      have CI1 := CI.ex e1
      rw [rowX_len] at hi
      have o8 := CI.ring.ok.eight
      walk_at "go"
      refine g_kLcE hA (by rw [List.length_map, List.length_map, List.length_take]; exact lt1000 (by rw [rowX_len]; omega)) fun H2 e2 hA2 => ⟨Exb.ex nA e1 e2, ?_⟩
      rw [hA2, map_app, List.take_add_one, hx, List.map_append (l₂ := (some x).toList)]
      rfl
    · rintro A H1 nA ⟨e1, hA⟩
      rw [List.length_map, List.take_length] at hA
      have hp21 := e1 _ _ hp2
      walk_at "go"
      refine g_eqLI (SqL.of hA) (SqL.of hp21) ?_
      exact q _ H1 e1 (by rw [decide_eq_true_iff]; exact rowX_shift)
def sp_is_settled (K : PySem.W.Frag) (C CC : Addr) : Sp := fun vs H Q _ => ∃ (c r a b Rw : Addr) (ds hs : List Int) (L : Nat), vs = [.ref c] ∧ CrsIn K C CC H c r a b Rw ds hs L ∧ L ≤ 900 ∧
  ∀ (v : Bool) H', Ex H H' → (v = true ↔ evN ds hs + hs.sum.toNat ≤ L ∧ ∀ m, L - evN ds hs - hs.sum.toNat ≤ m → m < L - evN ds hs → ShR ds hs m) → Q (.bl v) H'
theorem ok_is_settled (Z : Blt mg) (R : RingC K C) (RC : CourseC K CC) (M_Course_is_shifted : Mf P w K mg base CC 1 "is_shifted" ["self", "number"] (sp_is_shifted K C CC)) (G : CFun K CC "is_settled" "Course.is_settled" s_Course_is_settled) :
    Mf P w K mg base CC 3 "is_settled" ["self"] (sp_is_settled K C CC) := by
  refine Mf.of G sc_Course_is_settled b_Course_is_settled (fun vs H Q E h => ?_) (fun f cdv A outer s H vs Q E hr h => ?_)
  · obtain ⟨c, r, a, b, Rw, ds, hs, L, rfl, _⟩ := h
    rfl
  · obtain ⟨c, r, a, b, Rw, ds, hs, L, rfl, CI, hL, q⟩ := h
    have cl_Ring := R.cl
    have cl_Course := RC.cl
    have RI := CI.ring
    have RW := CI.rows
    have O := RI.ok
    have o1 := O.one
    have o2 := O.twelve
    have ev := evN_pos O
    refine ⟨_, PSs.nox (pss_cons (ps_set (i := 1) sc_Course_is_settled.nd rfl (by first | exact Or.inl rfl | exact Or.inr rfl) (pe_op op_sub (pe_callB c_len (by rfl) Z.zlen PySem.boot_len (pa_cons (pe_fld (pv 0) rfl) pa_nil)) (pe_fld (pv 0) rfl)))
      (pss_cons (ps_if (pt_cmpR op_lt (pv 1) (pe_fld (pe_fld (pv 0) rfl) rfl) (nomark _)) (pss_one (ps_ret pe_bl)) pss_nil)
      (pss_one (ps_ret (pe_callB (cr_all rfl) (by rfl) Z.zall (by decide +kernel) (pa_cons (pe_lc (own := [("number", 2)]) rfl sc_Course_is_settled.nd (pi_range2 (by rfl) Z.zrange (pa_cons (pe_op op_sub (pv 1) (pe_fld (pe_fld (pv 0) rfl) rfl)) (pa_cons (pv 1) pa_nil))) (blkOk_by (N := N_Course_is_settled) (sc := defScope s_Course_is_settled) (by decide +kernel)) (fun _ _ _ _ _ => (pg_name (i := 2) sc_Course_is_settled.nd rfl (by first | exact Or.inl rfl | exact Or.inr rfl))) (fun _ _ _ _ _ => pts_nil) (fun _ _ _ _ _ => (pm (pv 0) cl_Course M_Course_is_shifted hr (pa_cons (pv 2) pa_nil)))) pa_nil)))))), ?_⟩
    walk_at "g0"
    walk_at "go"
    refine g_kIfS (fun h => ?_) (fun h => ?_)
    · have h := of_decide_eq_true h
      walk_at "go"
      exact q _ H (Ex.refl _) ⟨(fun z => by cases z), (fun z => by omega)⟩
    · have h := of_decide_eq_false h
      walk_at "go"
      have elo : ∀ i : Nat, (L : Int) - (evN ds hs : Nat) - hs.sum + (i : Int) = ((L - evN ds hs - hs.sum.toNat + i : Nat) : Int) := fun i => by omega
      refine g_kLcR2 ⟨by omega, by omega, by omega, by omega⟩ (fun A i H' => ∃ bs : List Bool, Ex H H' ∧ H' A = some (.lst (bs.map V.bl)) ∧ bs.length = i ∧ ∀ (j : Nat) (v : Bool), bs[j]? = some v → (v = true ↔ ShR ds hs (L - evN ds hs - hs.sum.toNat + j))) (fun A H1 nA e1 hA => ⟨[], e1, hA, rfl, fun j v h => by cases h⟩) ?_ ?_
      · rintro A i H1 nA hi ⟨bs, e1, hA, rfl, hbs⟩
        have CI1 := CI.ex e1
        rw [elo]
        walk_at "go"
        refine ⟨c, r, a, b, Rw, ds, hs, L, _, rfl, CI1, by omega, fun v H2 e2 hv => ?_⟩
        refine g_kLcE (e2 _ _ hA) (by rw [List.length_map]; exact lt1000 (by omega)) fun H3 e3 hA3 => ⟨bs ++ [v], Exb.ex nA (e1.trans e2) e3, by rw [hA3, List.map_append]; rfl, by rw [List.length_append]; rfl, fun j u hu => ?_⟩
        by_cases z : j < bs.length
        · rw [List.getElem?_append_left z] at hu
          exact hbs j u hu
        · rw [List.getElem?_append_right (by omega)] at hu
          have hl : j = bs.length := by
            have := (List.getElem?_eq_some_iff.mp hu).1
            simp only [List.length_cons, List.length_nil] at this
            omega
          subst hl
          rw [Nat.sub_self] at hu
          cases hu
          exact hv
      · rintro A H1 nA ⟨bs, e1, hA, hbl, hbs⟩
        walk_at "go"
        refine ⟨A, bs, rfl, SqL.of hA, q _ H1 e1 ⟨fun hall => ⟨by omega, fun m h1 h2 => ?_⟩, fun ⟨_, hall⟩ => ?_⟩⟩
        · have hj : m - (L - evN ds hs - hs.sum.toNat) < bs.length := by omega
          have h3 := List.all_eq_true.mp hall _ (List.getElem_mem hj)
          have h4 := (hbs _ _ (List.getElem?_eq_getElem hj)).mp h3
          rw [show L - evN ds hs - hs.sum.toNat + (m - (L - evN ds hs - hs.sum.toNat)) = m by omega] at h4
          exact h4
        · refine List.all_eq_true.mpr fun v hv => ?_
          obtain ⟨j, hj, e⟩ := List.getElem_of_mem hv
          exact (hbs j v (by rw [List.getElem?_eq_getElem hj, e])).mpr (hall _ (by omega) (by omega))
def sp_Course_init (K : PySem.W.Frag) (C CC : Addr) : Sp := fun vs H Q _ => ∃ (c r a b dx : Addr) (ds hs : List Int), vs = [.ref c, .ref r] ∧ H c = some (.ins CC dx []) ∧ RingIn K C H r a b ds hs ∧
  ∀ Rw L F H', Exb c H H' → CrsAt K C CC H' c r a b Rw ds hs L F → SetF ds hs F → Q .non H'
theorem RingIn.exI {H H' : Hp} {l r a b CX dx : Addr} {fs : List (Str × V)} {ds hs : List Int} (e : Exb l H H') (hl : H l = some (.ins CX dx fs)) (ne : r ≠ l) (R : RingIn K C H r a b ds hs) : RingIn K C H' r a b ds hs :=
  ⟨let ⟨dx, h⟩ := R.obj; ⟨dx, e _ _ ne h⟩, exb_ti e hl R.sp, exb_ti e hl R.hp, R.ok⟩
theorem g_fldaug {H : Hp} {σ : L2.St} {f : Str} {ta tv : TE} {rd : V → V → Hp → VK → Prop} {D : Ends} (q : ta σ H fun x H1 => ∃ a C dx fs v, x = .ref a ∧ H1 a = some (.ins C dx fs) ∧ Cls K C ∧ NoAttr K C f ∧ fs.lookup f = some v ∧
  tv σ H1 fun y H2 => rd v y H2 fun z H3 => ∃ dx' fs', H3 a = some (.ins C dx' fs') ∧ fs'.length < 1000 ∧ D.nx σ (upd H3 a (.ins C dx' (putF f z fs')))) : sFldAug K ta tv rd f D σ H := q
theorem lenp {f : Str} {v : V} {fs : List (Str × V)} {k : Nat} (h : fs.length ≤ k) : (putF f v fs).length ≤ k + 1 := Nat.le_trans (length_putF _ _ _) (Nat.succ_le_succ h)
theorem len0 : ([] : List (Str × V)).length ≤ 0 := Nat.le_refl _
theorem lt_of_lenp {n k : Nat} (h : n ≤ k) (hk : Nat.blt k 1000 = true) : n < 1000 := Nat.lt_of_le_of_lt h (by simpa [Nat.blt_eq] using hk)
theorem g_kIfQX {ta tb : TE} {σ : L2.St} {Q : VK} {c : Bool} {H : Hp} (v : V) (h1 : c = true → ∀ Q' : VK, (∀ H', Ex H H' → Q' v H') → ta σ H Q') (h2 : c = false → ∀ Q' : VK, (∀ H', Ex H H' → Q' v H') → tb σ H Q') (q : ∀ H', Ex H H' → Q v H') : kIf ta tb σ Q c H := g_kIf (fun h => h1 h Q q) (fun h => h2 h Q q)
theorem cf_make {r Rw : Addr} {N e : Nat} {s : Int} : CF r Rw N e s (putF "rows" (.ref Rw) (putF "shift" (.int s) (putF "every" (.int (e : Int)) (putF "size" (.int (N : Int)) (putF "ring" (.ref r) []))))) := by
  refine ⟨?_, ?_, ?_, ?_, ?_, ?_, ?_, ?_, ?_, ?_⟩
  all_goals (repeat (first | rw [lookup_putF, if_pos rfl] | rw [lookup_putF, if_neg (by decide +kernel)]))
  all_goals rfl
theorem ok_Course_init (Z : Blt mg) (R : RingC K C) (RC : CourseC K CC) (M_Course_is_settled : Mf P w K mg base CC 3 "is_settled" ["self"] (sp_is_settled K C CC)) (M_Course_is_shifted : Mf P w K mg base CC 1 "is_shifted" ["self", "number"] (sp_is_shifted K C CC))
    (M_Course_next_row : Mf P w K mg base CC 1 "next_row" ["self"] (sp_next_row K C CC)) (G : IFun K mg "Course" CC "Course.__init__" s_Course___init__) : If P w K mg base "Course" CC 5 ["self", "ring"] (sp_Course_init K C CC) := by
  refine If.of G sc_Course___init__ b_Course___init__ (fun vs H Q E h => ?_) (fun f cdv A outer s H vs Q E hr h => ?_)
  · obtain ⟨c, r, a, b, dx, ds, hs, rfl, _⟩ := h
    rfl
  · obtain ⟨c, r, a, b, dx, ds, hs, rfl, hc, RI, q⟩ := h
    have cl_Ring := R.cl
    have cl_Course := RC.cl
    have O := RI.ok
    have o1 := O.one
    have o2 := O.twelve
    have o8 := O.eight
    have hne := O.days.ne
    have ev := evN_pos O
    have om := O.days.mx
    have nrc : r ≠ c := by
      obtain ⟨dr, hr⟩ := RI.obj
      intro z
      rw [z, hc] at hr
      cases hr
    have hS := RI.sp
    refine ⟨_, PSs.nox (pss_cons (ps_fld (pv 0) (pv 1) rfl)
      (pss_cons (ps_fld (pv 0) (pe_callB c_len (by rfl) Z.zlen PySem.boot_len (pa_cons (pe_fld (pv 1) rfl) pa_nil)) rfl)
      (pss_cons (ps_set (i := 2) sc_Course___init__.nd rfl (by first | exact Or.inl rfl | exact Or.inr rfl) (pe_cmpR op_ge (pe_op op_mul (pe_callB (cr_maxT rfl hr.units) (by rfl) Z.zmax (by decide +kernel) (pa_cons (pe_fld (pv 1) rfl) pa_nil)) (pe_fld (pv 1) rfl)) (pe_callB (cr_sum rfl) (by rfl) Z.zsum (by decide +kernel) (pa_cons (pe_callTy c_list_of (by rfl) Z.zlist (by decide +kernel) (pa_cons (pe_fld (pv 1) rfl) pa_nil)) pa_nil)) (nomark _)))
      (pss_cons (ps_fld (pv 0) (pe_ifExp (pt_val (pv 2)) pe_int (pe_fld (pv 1) rfl)) rfl)
      (pss_cons (ps_fld (pv 0) (pe_ifExp (pt_val (pv 2)) (pe_callB (cr_maxT rfl hr.units) (by rfl) Z.zmax (by decide +kernel) (pa_cons (pe_fld (pv 1) rfl) pa_nil)) (pe_callB (cr_sum rfl) (by rfl) Z.zsum (by decide +kernel) (pa_cons (pe_callTy c_list_of (by rfl) Z.zlist (by decide +kernel) (pa_cons (pe_fld (pv 1) rfl) pa_nil)) pa_nil))) rfl)
      (pss_cons (ps_fld (pv 0) (pe_lst pa_nil) rfl)
      (pss_cons (ps_while PassesOwn.never (pt_not (pt_val (pm0 (pv 0) cl_Course M_Course_is_settled hr))) (pss_one (ps_expr (pe_bm PySem.F.plainAttrs_list PySem.F.slot_list_append PySem.F.type_list_append mt_append (pe_fld (pv 0) rfl) (pa_cons (pm0 (pv 0) cl_Course M_Course_next_row hr) pa_nil)))))
      (pss_cons (ps_fld (pv 0) (pe_op op_sub (pe_callB c_len (by rfl) Z.zlen PySem.boot_len (pa_cons (pe_fld (pv 0) rfl) pa_nil)) (pe_fld (pv 0) rfl)) rfl)
      (pss_one (ps_while PassesOwn.never (PW.pt (pw_and (pt_cmpR op_gt (pe_fld (pv 0) rfl) pe_int (nomark _)) (pw_and1 (pt_val (pm (pv 0) cl_Course M_Course_is_shifted hr (pa_cons (pe_op op_sub (pe_fld (pv 0) rfl) pe_int) pa_nil)))))) (pss_one (ps_fldaug (pv 0) pe_int in_sub)))))))))))), ?_⟩
    walk_at "g0"
    walk_at "go"
    refine g_kSFld hc cl_Course RC.n1 (by decide) fun H1 e1 hc1 => ?_
    have RI1 := RI.exI e1 hc nrc
    have hS1 := RI1.sp
    walk_at "go"
    refine g_kSFld hc1 cl_Course RC.n2 (lt_of_lenp (lenp len0) rfl) fun H2 e2 hc2 => ?_
    have RI2 := RI1.exI e2 hc1 nrc
    have hS2 := RI2.sp
    walk_at "go"
    rename_i l3 H3 n3 e3 hl3
    have RI3 := RI2.ex e3
    have hS3 := RI3.sp
    have hc3 := e3 _ _ hc2
    walk_at "go"
    refine g_kIfQ (.int (evN ds hs : Nat)) (fun h Q' q' => ?_) (fun h Q' q' => ?_) ?_
    · have h := of_decide_eq_true h
      have e : evN ds hs = 1 := if_pos h
      rw [e] at q'
      exact q'
    · have h := of_decide_eq_false h
      have e : evN ds hs = hs.sum.toNat := if_neg h
      have e' : ((evN ds hs : Nat) : Int) = hs.sum := by omega
      rw [e'] at q'
      walk_at "go"
      exact q'
    walk_at "go"
    refine g_kSFld hc3 cl_Course RC.n3 (lt_of_lenp (lenp (lenp len0)) rfl) fun H4 e4 hc4 => ?_
    have RI4 := RI3.exI e4 hc3 nrc
    have hS4 := RI4.sp
    walk_at "go"
    refine g_kIfQX (.int (shN ds hs)) (fun h Q' q' => ?_) (fun h Q' q' => ?_) fun H5 e5 => ?_
    · have h := of_decide_eq_true h
      have e : shN ds hs = mx ds := if_pos h
      rw [e] at q'
      walk_at "go"
      exact q' _ (Ex.refl _)
    · have h := of_decide_eq_false h
      have e : shN ds hs = ds.sum := if_neg h
      rw [e] at q'
      walk_at "go"
      rename_i l5 H5 n5 e5 hl5
      exact q' _ e5
    have RI5 := RI4.ex e5
    have hc5 := e5 _ _ hc4
    walk_at "go"
    refine g_kSFld hc5 cl_Course RC.n4 (lt_of_lenp (lenp (lenp (lenp len0))) rfl) fun H6 e6 hc6 => ?_
    have RI6 := RI5.exI e6 hc5 nrc
    walk_at "go"
    rename_i Rw H7 nw e7 hw7
    have hc7 := e7 _ _ hc6
    have RI7 := RI6.ex e7
    have hrw : Rw ≠ c := Ne.symm (ne_of_none hc6 nw)
    have nw0 : H Rw = none := by
      cases hz : H Rw with
      | none => rfl
      | some o => rw [e6 _ _ hrw (e5 _ _ (e4 _ _ hrw (e3 _ _ (e2 _ _ hrw (e1 _ _ hrw hz)))))] at nw; cases nw
    refine g_kSFld hc7 cl_Course RC.n5 (lt_of_lenp (lenp (lenp (lenp (lenp len0)))) rfl) fun H8 e8 hc8 => ?_
    have RI8 := RI7.exI e8 hc7 nrc
    have hw8 := e8 _ _ hrw hw7
    have e08 : Exb c H H8 := (((((((e1.trans e2).trans (Exb.of e3)).trans e4).trans (Exb.of e5)).trans e6).trans (Exb.of e7)).trans e8)
    generalize hfs : putF "rows" (V.ref Rw) _ = fs at hc8
    have hcf : CF r Rw ds.length (evN ds hs) (shN ds hs) fs := by rw [← hfs]; exact cf_make
    have hfl : fs.length ≤ 5 := by rw [← hfs]; exact lenp (lenp (lenp (lenp (lenp len0))))
    clear hfs
    generalize (decide (ds.sum ≤ mx ds * hs.sum)) = slow
    walk_at "go"
    refine g_while (fun m σ H' => ∃ (ps : List Addr), σ = [some (.ref c), some (.ref r), some (.bl slow)] ∧ Exb c H H' ∧ H' c = some (.ins CC dx fs) ∧ RingIn K C H' r a b ds hs ∧ (H' Rw = some (.lst (ps.map V.ref)) ∧ ∀ (i : Nat) (p : Addr), ps[i]? = some p → H' p = some (.lst ((rowX ds hs i).map V.int))) ∧ ps.length ≤ 400 ∧ m = 1000 - ps.length) 1000
      ⟨[], rfl, e08, hc8, RI8, ⟨hw8, fun i p h => by cases h⟩, by simp, rfl⟩ ?_
    rintro m σ H9 ⟨ps, rfl, e9, hc9, RI9, ⟨hw9, hr9⟩, hpl, rfl⟩
    have CI9 : CrsIn K C CC H9 c r a b Rw ds hs ps.length := ⟨⟨dx, fs, hc9, hcf⟩, RI9, ⟨ps, hw9, rfl, hr9⟩⟩
    walk_at "go"
    refine ⟨c, r, a, b, Rw, ds, hs, ps.length, rfl, CI9, by omega, fun v H10 e10 hv => ?_⟩
    walk_at "go"
    have CI10 := CI9.ex e10
    cases v with
    | false =>
      walk_at "go"
      refine g_kBM_list (SqL.of (e10 _ _ hw9)) ?_
      walk_at "go"
      refine ⟨c, r, a, b, Rw, ds, hs, ps.length, rfl, CI10, by omega, fun p H11 np e11 hp => ?_⟩
      walk_at "go"
      have e911 := e10.trans e11
      have hw11 := e911 _ _ hw9
      have hns : ¬ (evN ds hs + hs.sum.toNat ≤ ps.length ∧ ∀ m, ps.length - evN ds hs - hs.sum.toNat ≤ m → m < ps.length - evN ds hs → ShR ds hs m) := fun z => by
        have := hv.mpr z
        cases this
      have hlt : ps.length < 400 := by
        by_cases z : ps.length < 400
        · exact z
        · exact absurd ⟨by omega, fun m h1 _ => ShR_late O (by omega)⟩ hns
      rename_i H12 e12 hw12
      have happ := RowsAt.app O hw11 (fun i q hq => e911 _ _ (hr9 i q hq)) hp e12 hw12
      obtain ⟨ps2, w1, w2, w3⟩ := happ
      have hcw : c ≠ Rw := Ne.symm hrw
      exact ⟨1000 - ps2.length, by omega, ps2, rfl, Exb.ex2 nw0 (e9.trans (Exb.of e911)) e12, e12 _ _ hcw (e911 _ _ hc9), (RI9.ex e911).exb e12 hw11, ⟨w1, w3⟩, by omega, rfl⟩
    | true =>
      obtain ⟨hge, hall⟩ := hv.mp rfl
      have hc10 := e10 _ _ hc9
      have RI10 := RI9.ex e10
      have RW10 := CI10.rows
      walk_at "go"
      refine g_kSFld hc10 cl_Course RC.n6 (lt_of_lenp hfl rfl) fun H11 e11 hc11 => ?_
      have RI11 := RI10.exI e11 hc10 nrc
      have RW11 := RW10.exI e11 hc10
      have e011 := (e9.trans (Exb.of e10)).trans e11
      walk_at "go"
      refine g_while (fun m σ H' => ∃ (F : Nat), σ = [some (.ref c), some (.ref r), some (.bl slow)] ∧ Exb c H H' ∧ H' c = some (.ins CC dx (putF "first" (.int (F : Int)) fs)) ∧ RingIn K C H' r a b ds hs ∧ RowsAt H' Rw ds hs ps.length ∧ F + evN ds hs ≤ ps.length ∧ (∀ n, F ≤ n → n < ps.length - evN ds hs → ShR ds hs n) ∧ m = F) (ps.length - evN ds hs)
        ⟨ps.length - evN ds hs, rfl, e011, by rw [hc11, show ((ps.length : Int) - (evN ds hs : Nat)) = ((ps.length - evN ds hs : Nat) : Int) by omega], RI11, RW11, by omega, fun n h1 h2 => absurd h2 (by omega), rfl⟩ ?_
      rintro m σ H12 ⟨F, rfl, e12, hc12, RI12, RW12, hF, hsh, hmF⟩
      have CI12 : CrsIn K C CC H12 c r a b Rw ds hs ps.length := ⟨⟨dx, _, hc12, hcf.first⟩, RI12, RW12⟩
      have CA12 : CrsAt K C CC H12 c r a b Rw ds hs ps.length F := ⟨⟨dx, fs, hc12, hcf, by omega⟩, RI12, RW12, by omega, by omega⟩
      have fin : ∀ H', Ex H12 H' → (F = 0 ∨ ¬ ShR ds hs (F - 1)) → Q .non H' := fun H' e hz => by
        refine q Rw ps.length F H' (e12.trans (Exb.of e)) (CA12.ex e) ⟨?_, hz⟩
        refine Sh_all O.rg (lo := F) (hi := ps.length - evN ds hs) ?_ hsh
        by_cases y : F + hs.sum.toNat ≤ ps.length - evN ds hs
        · exact y
        · rcases hz with hz | hz
          · omega
          · exact absurd (hall (F - 1) (by omega) (by omega)) hz
      walk_at "go"
      refine g_kAnd (fun h => ?_) (fun h => ?_)
      · have h := of_decide_eq_true h
        have hF1 : (F : Int) - 1 = ((F - 1 : Nat) : Int) := by omega
        walk_at "go"
        rw [hF1]
        walk_at "go"
        refine ⟨c, r, a, b, Rw, ds, hs, ps.length, F - 1, rfl, CI12, by omega, fun u H13 e13 hu => ?_⟩
        have CA13 := CA12.ex e13
        cases u with
        | false =>
          walk_at "go"
          refine fin H13 e13 (.inr fun z => ?_)
          have := hu.mpr z
          cases this
        | true =>
          have hsF := hu.mp rfl
          have hc13 := e13 _ _ hc12
          walk_at "go"
          refine g_fldaug ?_
          walk_at "go"
          refine ⟨c, CC, dx, _, _, rfl, hc13, RC.cl, RC.n6, by rw [lookup_putF, if_pos rfl], ?_⟩
          walk_at "go"
          refine ⟨F, 1, rfl, rfl, dx, _, hc13, lt_of_lenp (lenp hfl) rfl, F - 1, by omega, F - 1, rfl, ?_, ?_, ?_, ?_, by omega, ?_, rfl⟩
          · exact (e12.trans (Exb.of e13)).trans Exb.upd
          · rw [upd_same, putF_putF, hF1]
          · exact (RI12.ex e13).exI (Exb.upd) hc13 nrc
          · exact (RW12.ex e13).exI (Exb.upd) hc13
          · intro n h1 h2
            by_cases z : n = F - 1
            · rw [z]; exact hsF
            · exact hsh n (by omega) h2
      · have h := of_decide_eq_false h
        walk_at "go"
        exact fin H12 (Ex.refl _) (.inl (by omega))
def sp_Course_end (K : PySem.W.Frag) (C CC : Addr) : Sp := fun vs H Q _ => ∃ (c r a b Rw : Addr) (ds hs : List Int) (L F k n : Nat), vs = [.ref c, .int (k : Int), .int (n : Int)] ∧ CrsAt K C CC H c r a b Rw ds hs L F ∧ SetF ds hs F ∧ k < ds.length ∧ ∀ H', Ex H H' → Q (.int (XR ds hs n k)) H'
theorem ok_Course_end (Z : Blt mg) (RC : CourseC K CC) (G : CFun K CC "end" "Course.end" s_Course_end) : Mf P w K mg base CC 1 "end" ["self", "reader", "number"] (sp_Course_end K C CC) := by
  refine Mf.of G sc_Course_end b_Course_end (fun vs H Q E h => ?_) (fun f cdv A outer s H vs Q E hr h => ?_)
  · obtain ⟨c, r, a, b, Rw, ds, hs, L, F, k, n, rfl, _⟩ := h
    rfl
  · obtain ⟨c, r, a, b, Rw, ds, hs, L, F, k, n, rfl, CA, hset, hk, q⟩ := h
    have CI := CA.into
    have RW := CI.rows
    have hle := CA.le
    have ev := evN_pos CI.ring.ok
    have sb := shN_bd CI.ring.ok
    refine ⟨_, PSs.nox (pss_cons (ps_if (pt_cmpR op_lt (pv 2) (pe_callB c_len (by rfl) Z.zlen PySem.boot_len (pa_cons (pe_fld (pv 0) rfl) pa_nil)) (nomark _)) (pss_one (ps_ret (pe_ix ix_list (pe_ix ix_list (pe_fld (pv 0) rfl) (pv 2) (fun _ _ => rfl)) (pv 1) (fun _ _ => rfl)))) pss_nil)
      (pss_cons (ps_asg (pe_callB c_divmod (by rfl) Z.zdivmod (by decide +kernel) (pa_cons (pe_op op_sub (pv 2) (pe_fld (pv 0) rfl)) (pa_cons (pe_fld (pv 0) rfl) pa_nil))) (pg_tup (by rfl) (pgs_cons (pg_name (i := 3) sc_Course_end.nd rfl (by first | exact Or.inl rfl | exact Or.inr rfl)) (pgs_cons (pg_name (i := 4) sc_Course_end.nd rfl (by first | exact Or.inl rfl | exact Or.inr rfl)) pgs_nil))))
      (pss_one (ps_ret (pe_op op_add (pe_ix ix_list (pe_ix ix_list (pe_fld (pv 0) rfl) (pe_op op_add (pe_fld (pv 0) rfl) (pv 4)) (fun _ _ => rfl)) (pv 1) (fun _ _ => rfl)) (pe_op op_mul (pv 3) (pe_fld (pv 0) rfl))))))), ?_⟩
    walk_at "g0"
    walk_at "go"
    refine g_kIfS (fun h => ?_) (fun h => ?_)
    · have h := of_decide_eq_true h
      walk_at "go"
      refine g_crow RW (ixN_nat' (by omega : n < L)) fun p hp => ?_
      walk_at "go"
      refine g_ixL (SqL.of hp) (rowX_at hk) ?_
      exact q H (Ex.refl _)
    · have h := of_decide_eq_false h
      walk_at "go"
      refine g_divmod ⟨by omega, by omega⟩ fun p H1 np e1 hp => ?_
      have CI1 := CI.ex e1
      have CA1 := CA.ex e1
      have RW1 := CI1.rows
      walk_at "go"
      have h1 := Int.mul_ediv_add_emod ((n : Int) - F) (evN ds hs : Nat)
      have h2 := Int.emod_nonneg ((n : Int) - F) (b := ((evN ds hs : Nat) : Int)) (by omega)
      have h3 := Int.emod_lt_of_pos ((n : Int) - F) (b := ((evN ds hs : Nat) : Int)) (by omega)
      have h4 : 0 ≤ ((n : Int) - F) / (evN ds hs : Nat) := Int.ediv_nonneg (by omega) (by omega)
      obtain ⟨t, ht⟩ : ∃ t : Nat, (t : Int) = ((n : Int) - F) / (evN ds hs : Nat) := ⟨(((n : Int) - F) / (evN ds hs : Nat)).toNat, by omega⟩
      obtain ⟨u, hu⟩ : ∃ u : Nat, (u : Int) = ((n : Int) - F) % (evN ds hs : Nat) := ⟨(((n : Int) - F) % (evN ds hs : Nat)).toNat, by omega⟩
      rw [← ht, ← hu] at h1
      rw [← hu] at h3
      rw [← ht, ← hu]
      refine g_crow (i := F + u) RW1 (ixN_int' (by omega) (by omega)) fun p2 hp2 => ?_
      walk_at "go"
      refine g_ixL (SqL.of hp2) (rowX_at hk) ?_
      walk_at "go"
      have e := Sh_rounds hset.1 hk t (F + u) (by omega)
      have e2 : F + u + t * evN ds hs = n := by
        have : ((evN ds hs : Nat) : Int) * (t : Int) = ((t * evN ds hs : Nat) : Int) := by rw [Int.natCast_mul, Int.mul_comm]
        omega
      rw [e2] at e
      have := q H1 e1
      rw [show XR ds hs n k = XR ds hs (F + u) k + t * shN ds hs from e] at this
      exact this
end
end G48

/-! own __call__, __getitem__ -/
namespace G48
open PySem PySem.Spec PyProof.Rows L2 Evl PySem.Calls
section
variable (P : Program) (w : World) (K : PySem.W.Frag) (mg : Str → Option Value) (base : Heap)
/-- a method called through the object itself -/
structure Cf (C : Addr) (k : Nat) (m : Str) (ps : List Str) (sp : Sp) : Prop where
  ex : ∃ f fd, Meth K C m f ∧ PySem.W.fnIn K f = true ∧ Binds K fd ps [] ∧ FnOk P w K mg base (L2.CX P w) k f fd ps sp
end
section
variable {P : Program} {w : World} {K : PySem.W.Frag} {mg : Str → Option Value} {base : Heap}
theorem fnIn_of {x q : Str} {st : Stmt} {f : Addr} {fd : FuncData} (F : Fun K x q st f fd) : PySem.W.fnIn K f = true := by
  obtain ⟨oc, od, kV, doc, pm, an, cdv, ct, osl, rfl, lk, hcd⟩ := F.ex
  unfold PySem.W.fnIn
  rw [lk]
theorem Cf.of {C : Addr} {m q : Str} {st : Stmt} {N ps : List Str} {k : Nat} {sp : Sp} (G : CFun K C m q st) (S : FnScope N ps (defScope st)) (hb : BindL q m st ps)
    (len : ∀ vs H Q E, sp vs H Q E → vs.length = ps.length) (body : ∀ f, Body P w K mg base q N st f k sp) : Cf P w K mg base C (k + 1) m ps sp := by
  obtain ⟨f, fd, hg, F⟩ := G.ex
  exact ⟨f, fd, hg, fnIn_of F, F.binds hb, F.okX S len (body f)⟩
end
def tCallO (C : Addr) (sp : Sp) (E : XK) (ta : TE) (t : TA) : TE := fun σ H Q => ta σ H fun x H1 => ∃ a, x = .ref a ∧ t σ H1 fun vs H2 => (∃ dx fs, H2 a = some (.ins C dx fs)) ∧ sp (.ref a :: vs) H2 Q E
def rItO (C : Addr) (sp : Sp) (E : XK) : R2 := fun x y H Q => ∃ a, x = .ref a ∧ (∃ dx fs, H a = some (.ins C dx fs)) ∧ sp [.ref a, y] H Q E
section
variable {X : Cx} {k j : Nat} {x : Str} {ps : List Str} {sp : Sp} {E : XK} {p pos : Pos} {e o i : Expr} {es : List Expr} {t : TA} {ta tb : TE} {C : Addr} {m : Str}
theorem own_callWith {M : Model} {A : Around} {EE : Value → Shared → Prop} {QQ : Value → Shared → Prop} {s : Shared} {a : Addr} {args : List (Bool × Sem Value)} {kws : List (Option Str × Sem Value)} (hp : (args.any (·.1) || kws.any (·.1.isNone)) = false)
    (h : wpAny M A (evalArgs (.ref a) true args kws) (fun u s1 => (∃ ox, s1.heap.get? a = some ox ∧ ox.data = .plain) ∧ wpAny M A (call (.ref a) u.pos u.kw) QQ EE s1) EE s) : wpAny M A (callWith pos (.ref a) [] args kws) QQ EE s := by
  unfold callWith
  apply wpAny_bind
  apply wpAny_holding
  refine wpAny_mono h ?_ (fun _ _ y => y)
  rintro u s1 ⟨⟨ox, hox, hd⟩, hc⟩
  apply wpAny_bind
  apply wpAny_standAt
  have L : PySem.W.Looks M s1.heap (keeperOf (.ref a)) .caller := by
    refine PySem.W.Looks.andThen (PySem.W.Looks.ld (part := none) hox) ?_
    simp only [hd]
    exact .now
  simp only [hp]
  apply wpAny_bind
  refine L.here ?_
  refine wpAny_bind (wpAny_mono (wpAny_operateT hc) ?_ (fun _ _ y => y))
  intro r s2 hr
  exact wpAny_bind (wpAny_holding (wpAny_point (wpAny_pure hr)))
theorem pe_callO (he : PE X (.Name x p) ta) (D : Cf X.prog X.w X.K X.mg X.base C k "__call__" ps sp) (hr : Room j X.A) (ha : PA X (e :: es) t) (hx : Passes (L2.CX X.prog X.w) X E := by exact passL) (hk : k ≤ j := by decide)
    (hst : starEach (e :: es) X.env = (false, eval e X.env) :: starEach es X.env := by rfl) (hpl : (backTo pos (starEach es X.env)).any (·.1) = false := by rfl) :
    PE X (.Call (.Name x p) (e :: es) [] pos) (tCallO C sp E ta t) := by
  refine ⟨fun pins s σ H Q I h => ?_⟩
  refine wpAny_Call_Name_kw (thn (he.run pins s σ H _ I h) fun fv s0 ⟨v, H0, I0, r0, a, ev, q0⟩ => ?_)
  subst ev
  obtain rfl : fv = Value.ref a := r0
  obtain ⟨f, fd, hm, hfn, b, F⟩ := D.ex
  have hA := ha.run pos pins s0 σ H0 _ I0 q0
  rw [hst] at hA ⊢
  refine own_callWith (by show ((false || (backTo pos (starEach es X.env)).any (·.1)) || false) = false; rw [hpl]; rfl) (Calls.evalArgs_plain (thn hA fun us s1 ⟨vs, H1, I1, r1, ⟨dx, fs, ea⟩, q1⟩ => ?_))
  obtain ⟨mA, O, _, _, _, _⟩ := ins_get I1.hok ea
  obtain ⟨od, J, _⟩ := O.look
  refine ⟨⟨_, J.at_, rfl⟩, ?_⟩
  have r2 : Vals (.ref a :: vs) (.ref a :: us) := .cons rfl r1
  have r3 : Vals ((.ref a :: vs) ++ []) ((.ref a :: us) ++ []) := by rw [List.append_nil, List.append_nil]; exact r2
  have hl : (Value.ref a :: us).length = ps.length := by rw [← r2.length]; exact F.len _ _ _ _ q1
  refine wpAny_call (PySem.W.kco_code I1.kIn J rfl hm.at_ hm.fn hfn (codeAny_mono (F.run X.A X.stack s1 H1 ⟨.ref a :: us, []⟩ (.ref a :: us) (.ref a :: vs) Q E (hr.mono hk) I1.env0 (by
    have hb := b s1 (.ref a :: us) I1.kIn (by rw [List.append_nil]; exact hl)
    rw [List.append_nil] at hb
    exact hb) r2 q1) fun r s' hq => ?_))
  cases r with
  | error e => exact hx pins σ H1 s1 e s' I1 hq
  | ok fl =>
    cases fl with
    | ret u => exact I1.after hq
    | next => exact False.elim hq
    | brk => exact False.elim hq
    | cont => exact False.elim hq
/-- o[i], by the own __getitem__ -/
theorem pe_itO (ho : PE X o ta) (D : Cf X.prog X.w X.K X.mg X.base C k "__getitem__" ps sp) (hr : Room j X.A) (hi : PE X i tb) (hx : Passes (L2.CX X.prog X.w) X E := by exact passL) (hk : k + 1 ≤ j := by decide)
    (hsl : ∀ v u, subscripted i true v u = runValue (.builtin "lifetime.subscript" ⟨[v, u], []⟩) := by intro _ _; with_unfolding_all rfl) :
    PE X (.Subscript o i pos) (tOp (rItO C sp E) ta tb) := by
  refine ⟨fun pins s σ H Q I h => ?_⟩
  refine Subscript_ (binT ho hi I h fun v u s2 x y H2 I2 rx ry ⟨a, ex, ⟨dx, fs, ea⟩, q⟩ => ?_)
  subst ex
  obtain rfl : v = Value.ref a := rx
  obtain ⟨f, fd, hm, hfn, b, F⟩ := D.ex
  obtain ⟨mA, O, _, _, _, _⟩ := ins_get I2.hok ea
  obtain ⟨od, J, _⟩ := O.look
  obtain ⟨m0, fr⟩ := I2.fr
  refine PySem.W.sub_K fr I2.ok.mod.kin J hm.at_ hfn hm.fn ?_ (hsl _ _)
  exact run_in1 F (hr.mono hk) b .nil hx I2 (us := [.ref a, u]) (vs := [.ref a, y]) (.cons rfl (.cons ry .nil)) q
end
end G48

namespace G48
open PySem PySem.Spec PyProof.Rows L2 Evl
abbrev N_Ring_days : List Str := ["self"]
theorem sc_Ring_days : FnScope N_Ring_days ["self"] (defScope s_Ring_days) := ⟨rfl, rfl, rfl, by decide +kernel, rfl, by decide +kernel, by decide +kernel⟩
theorem b_Ring_days : BindL "Ring.days" "days" s_Ring_days ["self"] := fun _ _ _ _ _ _ us hl => match us, hl with | [_], _ => rfl
abbrev N_Ring_starts : List Str := ["self"]
theorem sc_Ring_starts : FnScope N_Ring_starts ["self"] (defScope s_Ring_starts) := ⟨rfl, rfl, rfl, by decide +kernel, rfl, by decide +kernel, by decide +kernel⟩
theorem b_Ring_starts : BindL "Ring.starts" "starts" s_Ring_starts ["self"] := fun _ _ _ _ _ _ us hl => match us, hl with | [_], _ => rfl
abbrev N_Ring___getitem__ : List Str := ["self", "reader"]
theorem sc_Ring___getitem__ : FnScope N_Ring___getitem__ ["self", "reader"] (defScope s_Ring___getitem__) := ⟨rfl, rfl, rfl, by decide +kernel, rfl, by decide +kernel, by decide +kernel⟩
theorem b_Ring___getitem__ : BindL "Ring.__getitem__" "__getitem__" s_Ring___getitem__ ["self", "reader"] := fun _ _ _ _ _ _ us hl => match us, hl with | [_, _], _ => rfl
abbrev N_Ring___call__ : List Str := ["self", "reader", "number"]
theorem sc_Ring___call__ : FnScope N_Ring___call__ ["self", "reader", "number"] (defScope s_Ring___call__) := ⟨rfl, rfl, rfl, by decide +kernel, rfl, by decide +kernel, by decide +kernel⟩
theorem b_Ring___call__ : BindL "Ring.__call__" "__call__" s_Ring___call__ ["self", "reader", "number"] := fun _ _ _ _ _ _ us hl => match us, hl with | [_, _, _], _ => rfl
end G48
/-! a ring's course asked: calls, days, heaps -/
namespace G48
open PySem PySem.Spec PyProof.Rows L2 Evl
/-! the steps -/
local macro_rules | `(tactic| walk_at "as") => `(tactic| with_reducible assumption)
local macro_rules | `(tactic| walk_at "hp") => `(tactic| first
  | with_reducible assumption
  | ((with_reducible apply SqT.of); walk_at "as")
  | ((with_reducible apply SqL.of); walk_at "as")
  | ((with_reducible apply ex_at); (focus walk_at "as"); walk_at "hp")
  | ((with_reducible apply ex_t); (focus walk_at "as"); walk_at "hp")
  | ((with_reducible apply ex_l); (focus walk_at "as"); walk_at "hp")
  | ((with_reducible apply exb_ins); (focus walk_at "as"); (focus walk_at "hp"); walk_at "hp")
  | ((with_reducible apply exb_t); (focus walk_at "as"); (focus walk_at "hp"); walk_at "hp")
  | ((with_reducible apply exb_at); (focus walk_at "as"); (focus walk_at "ne"); walk_at "hp")
  | ((with_reducible apply exb_l); (focus walk_at "as"); (focus walk_at "ne"); walk_at "hp"))
local macro_rules | `(tactic| walk_at "ne") => `(tactic| first
  | with_reducible assumption
  | exact Ne.symm (by with_reducible assumption)
  | exact ne_of_none (by with_reducible assumption) (by with_reducible assumption)
  | exact Ne.symm (ne_of_none (by with_reducible assumption) (by with_reducible assumption)))
local macro_rules | `(tactic| walk_at "tr") => `(tactic| first
  | rfl
  | with_reducible assumption
  | exact decide_eq_true (by first | with_reducible assumption | omega)
  | exact decide_eq_false (by first | with_reducible assumption | omega)
  | (rw [Bool.not_eq_true']; exact decide_eq_false (by first | with_reducible assumption | omega))
  | (rw [Bool.not_eq_false']; exact decide_eq_true (by first | with_reducible assumption | omega)))
local macro_rules | `(tactic| walk_at "nn") => `(tactic| first | with_reducible assumption | (exact List.cons_ne_nil _ _))
local macro_rules | `(tactic| walk_at "sz") => `(tactic| first | (exact sz1000 (Nat.le_of_ble_eq_true rfl)) | (refine sz1000 ?_; simp only [List.length_map, List.length_cons, List.length_nil, List.length_append]; omega) | with_reducible assumption)
local macro_rules | `(tactic| walk_at "sl") => `(tactic| first | with_reducible assumption | (refine lt1000 ?_; simp only [List.length_map, List.length_cons, List.length_nil, List.length_append]; omega) | (refine lt1000 ?_; omega))
local macro_rules | `(tactic| walk_at "ix") => `(tactic| first | rfl | with_reducible assumption)
local macro_rules | `(tactic| walk_at "rg") => `(tactic| exact RgOk.of_le (by omega) (by omega) (by omega) (by omega))
local macro_rules | `(tactic| walk_at "sp") => `(tactic| fail "sp")
local macro_rules | `(tactic| walk_at "cl") => `(tactic| with_reducible assumption)
local macro_rules | `(tactic| walk_at "lk") => `(tactic| with_reducible assumption)
local macro_rules | `(tactic| walk_at "it") => `(tactic| first | rfl | with_reducible assumption | exact atI_nat (by with_reducible assumption))
local macro_rules | `(tactic| walk_at "g1") => `(tactic| first
  | (with_reducible apply g_var); (focus rfl)
  | with_reducible apply g_c
  | with_reducible apply g_seq
  | with_reducible apply g_asg
  | with_reducible apply gg_name
  | with_reducible apply g_op
  | with_reducible apply g_cons
  | with_reducible apply g_nil
  | with_reducible apply g_cb
  | with_reducible apply g_fld
  | ((with_reducible apply g_kFld); (focus walk_at "hp"); (focus walk_at "cl"); (focus walk_at "cl"); (focus walk_at "lk"))
  | with_reducible apply g_call
  | walk_at "sp"
  | with_reducible apply g_ret
  | with_reducible apply g_drop
  | with_reducible apply g_test
  | with_reducible apply g_B
  | with_reducible apply g_kTest
  | with_reducible apply g_ifS
  | with_reducible apply g_kIfST
  | with_reducible apply g_kIfSF
  | with_reducible apply g_add
  | with_reducible apply g_sub
  | with_reducible apply g_lt
  | with_reducible apply g_le
  | with_reducible apply g_gt
  | with_reducible apply g_ge
  | with_reducible apply g_eqI
  | with_reducible apply g_neI
  | ((with_reducible apply g_mod); (focus first | decide | omega))
  | ((with_reducible apply g_mul); (focus first | (left; constructor <;> omega) | (right; constructor <;> omega)))
  | ((with_reducible apply g_fdiv); (focus (constructor <;> omega)))
  | ((with_reducible apply g_ixT); (focus walk_at "hp"); (focus walk_at "it"))
  | ((with_reducible apply g_ixL); (focus walk_at "hp"); (focus walk_at "it"))
  | with_reducible apply g_and
  | with_reducible apply g_or
  | with_reducible apply g_not
  | with_reducible apply g_kNotT
  | with_reducible apply g_kNotF
  | with_reducible apply g_if
  | with_reducible apply g_kAndT
  | with_reducible apply g_kAndF
  | with_reducible apply g_kOrT
  | with_reducible apply g_kOrF
  | with_reducible apply g_kIfT
  | with_reducible apply g_kIfF
  | with_reducible apply g_next
  | with_reducible apply g_andV
  | with_reducible apply g_orV
  | with_reducible apply g_notV
  | with_reducible apply g_kNotV
  | with_reducible apply g_kAndVT
  | with_reducible apply g_kAndVF
  | with_reducible apply g_chain
  | with_reducible apply g_kChainT
  | with_reducible apply g_kChainF
  | with_reducible apply g_tup
  | with_reducible apply g_lst
  | ((with_reducible apply g_kT); (focus walk_at "sz"); intro _ _ _ _ _)
  | ((with_reducible apply g_kL); (focus walk_at "sz"); intro _ _ _ _ _)
  | with_reducible apply g_un
  | with_reducible apply g_neg
  | with_reducible apply g_meth
  | ((with_reducible apply g_kMeth); (focus walk_at "hp"); (focus walk_at "lk"))
  | with_reducible apply g_prop
  | ((with_reducible apply g_kProp); (focus walk_at "hp"))
  | with_reducible apply g_make
  | with_reducible apply g_par
  | with_reducible apply g_kPar
  | ((with_reducible apply g_lenLM); (focus walk_at "hp"))
  | ((with_reducible apply g_lenTM); (focus walk_at "hp"))
  | ((with_reducible apply g_lenL); (focus walk_at "hp"))
  | ((with_reducible apply g_lenT); (focus walk_at "hp"))
  | with_reducible apply g_int1
  | with_reducible apply g_max2
  | with_reducible apply g_min2
  | ((with_reducible apply g_listL); (focus walk_at "hp"); intro _ _ _ _ _)
  | ((with_reducible apply g_listT); (focus walk_at "hp"); intro _ _ _ _ _)
  | ((with_reducible apply g_tupL); (focus walk_at "hp"); intro _ _ _ _ _)
  | ((with_reducible apply g_sum); (focus walk_at "hp"))
  | with_reducible apply g_sfld
  | with_reducible apply g_sl
  | with_reducible apply g_nopart
  | with_reducible apply g_part
  | with_reducible apply g_kPart
  | with_reducible apply g_lstRg
  | with_reducible apply g_rg1
  | with_reducible apply g_kRg1
  | with_reducible apply g_bm
  | with_reducible apply gg_sub
  | ((with_reducible apply gg_tup); (focus walk_at "hp"); (focus rfl))
  | with_reducible apply gg_cons
  | with_reducible apply gg_nil
  | with_reducible apply g_forL
  | with_reducible apply g_forT
  | with_reducible apply g_forR1
  | with_reducible apply g_forR2
  | with_reducible apply g_forE
  | with_reducible apply g_forEL
  | ((with_reducible apply g_maxT); (focus walk_at "hp"); (focus walk_at "nn"))
  | ((with_reducible apply g_maxL); (focus walk_at "hp"); (focus walk_at "nn"))
  | ((with_reducible apply g_catA); (focus walk_at "hp"); (focus walk_at "hp"); (focus walk_at "sz"); intro _ _ _ _)
  | ((with_reducible apply g_slA); (focus walk_at "hp"); intro _ _ _ _)
  | ((with_reducible apply g_tupD); (focus walk_at "hp"); intro _ _ _ _ _)
  | ((with_reducible apply g_setL); (focus walk_at "hp"); (focus walk_at "ix"); intro _ _ _)
  | ((with_reducible apply g_append); (focus walk_at "hp"); (focus walk_at "sl"); intro _ _ _)
  | ((with_reducible apply g_aug); (focus rfl))
  | with_reducible apply g_ipI
  | with_reducible apply g_retN
  | with_reducible apply g_lcR1
  | with_reducible apply g_lcR2
  | with_reducible apply g_lcL
  | with_reducible apply g_lcU
  | with_reducible apply g_lcN
  | ((with_reducible apply g_kLcG); (focus rfl))
  | with_reducible apply g_yes
  | with_reducible apply g_kLcTT
  | with_reducible apply g_kLcTF
  | ((with_reducible apply g_kLcE); (focus walk_at "hp"); (focus walk_at "sl"); intro _ _ _)
  | ((with_reducible apply g_pow); (focus (constructor <;> (try constructor) <;> decide)))
  | ((with_reducible apply g_kLRg); (focus walk_at "rg"); intro _ _ _ _ _)
  | ((with_reducible apply g_cat); (focus walk_at "hp"); (focus walk_at "hp"); (focus walk_at "sz"); intro _ _ _ _ _)
  | ((with_reducible apply g_slL); (focus walk_at "hp"); intro _ _ _ _ _)
  | with_reducible apply g_bmT
  | with_reducible apply g_break
  | with_reducible apply g_cont)
local macro_rules | `(tactic| walk_at "g0") => `(tactic| try dsimp only [L2.cxOf, L2.Cx.nox, L2.Cx.wish])
local macro_rules | `(tactic| walk_at "yn") => `(tactic| first
  | ((with_reducible apply y_kIfS); (focus walk_at "tr"))
  | ((with_reducible apply n_kIfS); (focus walk_at "tr"))
  | ((with_reducible apply y_kOr); (focus walk_at "tr"))
  | ((with_reducible apply n_kOr); (focus walk_at "tr"))
  | ((with_reducible apply y_kAnd); (focus walk_at "tr"))
  | ((with_reducible apply n_kAnd); (focus walk_at "tr"))
  | ((with_reducible apply y_kNot); (focus walk_at "tr"))
  | ((with_reducible apply n_kNot); (focus walk_at "tr"))
  | ((with_reducible apply y_kIf); (focus walk_at "tr"))
  | ((with_reducible apply n_kIf); (focus walk_at "tr"))
  | ((with_reducible apply y_kAndV); (focus walk_at "tr"))
  | ((with_reducible apply n_kAndV); (focus walk_at "tr"))
  | ((with_reducible apply y_kOrV); (focus walk_at "tr"))
  | ((with_reducible apply n_kOrV); (focus walk_at "tr"))
  | ((with_reducible apply y_kChain); (focus walk_at "tr"))
  | ((with_reducible apply n_kChain); (focus walk_at "tr"))
  | ((with_reducible apply y_kLcT); (focus walk_at "tr"))
  | ((with_reducible apply n_kLcT); (focus walk_at "tr"))
  | ((with_reducible apply y_kWh); (focus walk_at "tr"))
  | ((with_reducible apply n_kWh); (focus walk_at "tr")))
local macro_rules | `(tactic| walk_at "go") => `(tactic| repeat (first | walk_at "g1" | walk_at "yn"))
local macro_rules | `(tactic| walk_at "hp") => `(tactic| first
  | ((with_reducible apply RingIn.ex); (focus walk_at "as"); walk_at "hp")
  | ((with_reducible apply RingAt.ex); (focus walk_at "as"); walk_at "hp")
  | ((with_reducible apply RingIn.exb); (focus walk_at "as"); (focus walk_at "hp"); walk_at "hp")
  | ((with_reducible apply RingAt.exb); (focus walk_at "as"); (focus walk_at "hp"); walk_at "hp")
  | ((with_reducible apply TupK.ex); (focus walk_at "as"); walk_at "hp")
  | ((with_reducible apply TupK.exb); (focus walk_at "as"); (focus walk_at "hp"); walk_at "hp"))
local macro_rules | `(tactic| walk_at "lk") => `(tactic| first | with_reducible exact rf_spans | with_reducible exact rf_heaps | with_reducible exact rf_total | with_reducible exact rf_nr | with_reducible exact rf_wd)
local macro_rules | `(tactic| walk_at "sp") => `(tactic| first
  | ((with_reducible apply g_isiTup); (focus walk_at "hp"))
  | ((with_reducible apply g_isiLst); (focus walk_at "hp"))
  | ((with_reducible apply g_isint); (focus omega); (focus omega))
  | ((with_reducible apply g_checkn); (focus omega); (focus omega))
  | ((with_reducible apply g_rbooks); (focus walk_at "hp"))
  | ((with_reducible apply g_rpace); (focus walk_at "hp"); intro _ _ _ _)
  | ((with_reducible apply g_rlen); (focus walk_at "hp"))
  | ((with_reducible apply g_rneed); (focus walk_at "hp"); (focus omega))
  | ((with_reducible apply g_rneedM); (focus walk_at "hp"))
  | ((with_reducible apply g_rwithM); (focus walk_at "hp"))
  | ((with_reducible apply g_rspans); (focus walk_at "hp"); (focus with_reducible assumption))
  | ((with_reducible apply g_rheaps); (focus walk_at "hp"); (focus with_reducible assumption))
  | ((with_reducible apply g_rtotal); (focus walk_at "hp"); (focus with_reducible assumption)))

local macro_rules | `(tactic| walk_at "hp") => `(tactic| first
  | ((with_reducible apply CrsIn.ex); (focus walk_at "as"); walk_at "hp")
  | ((with_reducible apply RowsAt.ex); (focus walk_at "as"); walk_at "hp"))
local macro_rules | `(tactic| walk_at "sp") => `(tactic| first
  | ((with_reducible apply g_crows); (focus walk_at "hp"); (focus with_reducible assumption))
  | ((with_reducible apply g_csize); (focus walk_at "hp"); (focus with_reducible assumption))
  | ((with_reducible apply g_cevery); (focus walk_at "hp"); (focus with_reducible assumption))
  | ((with_reducible apply g_cshift); (focus walk_at "hp"); (focus with_reducible assumption))
  | ((with_reducible apply g_cring); (focus walk_at "hp"); (focus with_reducible assumption))
  | ((with_reducible apply g_cfirst); (focus walk_at "hp"); (focus with_reducible assumption))
  | ((with_reducible apply g_clen); (focus walk_at "hp"))
  | ((with_reducible apply g_cmShifted); (focus walk_at "hp"))
  | ((with_reducible apply g_cmSettled); (focus walk_at "hp"))
  | ((with_reducible apply g_cmNext); (focus walk_at "hp"))
  | ((with_reducible apply g_cmEnd); (focus walk_at "hp"))
  | ((with_reducible apply g_cmArrival); (focus walk_at "hp")))

def kCallB (C : Addr) (sp : Sp) (E : XK) (a : Addr) (Q : VK) (vs : List V) (H2 : Hp) : Prop := (∃ dx fs, H2 a = some (.ins C dx fs)) ∧ sp (.ref a :: vs) H2 Q E
def kCallO (C : Addr) (sp : Sp) (E : XK) (t : TA) (σ : L2.St) (Q : VK) : VK := fun x H1 => ∃ a, x = .ref a ∧ t σ H1 (kCallB C sp E a Q)
theorem g_tCallO {C : Addr} {sp : Sp} {E : XK} {ta : TE} {t : TA} {σ : L2.St} {H : Hp} {Q : VK} (q : ta σ H (kCallO C sp E t σ Q)) : tCallO C sp E ta t σ H Q := q
theorem g_kCallO {C a : Addr} {sp : Sp} {E : XK} {t : TA} {σ : L2.St} {H : Hp} {Q : VK} (q : t σ H (kCallB C sp E a Q)) : kCallO C sp E t σ Q (.ref a) H := ⟨a, rfl, q⟩
section
variable {P : Program} {w : World} {K : PySem.W.Frag} {mg : Str → Option Value} {base : Heap} {C CC : Addr}
theorem ok_Ring_days (Z : Blt mg) (R : RingC K C) (G : PFun K C "days" "Ring.days" s_Ring_days) : Pf P w K mg base C 1 "days" ["self"] (sp_Ring_days K C) := by
  refine Pf.of G sc_Ring_days b_Ring_days (fun vs H Q E h => ?_) (fun f cdv A outer s H vs Q E hr h => ?_)
  · obtain ⟨r, a, b, ds, hs, rfl, _⟩ := h
    rfl
  · obtain ⟨r, a, b, ds, hs, rfl, RI, q⟩ := h
    have cl_Ring := R.cl
    refine ⟨_, PSs.nox (pss_one (ps_ret (pe_fld (pv 0) rfl))), ?_⟩
    walk_at "g0"
    walk_at "go"
    exact q
theorem ok_Ring_starts (Z : Blt mg) (R : RingC K C) (G : PFun K C "starts" "Ring.starts" s_Ring_starts) : Pf P w K mg base C 1 "starts" ["self"] (sp_Ring_starts K C) := by
  refine Pf.of G sc_Ring_starts b_Ring_starts (fun vs H Q E h => ?_) (fun f cdv A outer s H vs Q E hr h => ?_)
  · obtain ⟨r, a, b, ds, hs, rfl, _⟩ := h
    rfl
  · obtain ⟨r, a, b, ds, hs, rfl, RI, q⟩ := h
    have cl_Ring := R.cl
    refine ⟨_, PSs.nox (pss_one (ps_ret (pe_fld (pv 0) rfl))), ?_⟩
    walk_at "g0"
    walk_at "go"
    exact q
theorem g_rdays {H : Hp} {Q : VK} {E : XK} {r a b : Addr} {ds hs : List Int} (R : RingIn K C H r a b ds hs) (q : Q (.ref a) H) : kProp C (sp_Ring_days K C) E Q (.ref r) H :=
  let ⟨dx, ho⟩ := R.obj; ⟨r, dx, _, rfl, ho, r, a, b, ds, hs, rfl, R, q⟩
theorem g_rstarts {H : Hp} {Q : VK} {E : XK} {r a b : Addr} {ds hs : List Int} (R : RingIn K C H r a b ds hs) (q : Q (.ref b) H) : kProp C (sp_Ring_starts K C) E Q (.ref r) H :=
  let ⟨dx, ho⟩ := R.obj; ⟨r, dx, _, rfl, ho, r, a, b, ds, hs, rfl, R, q⟩
def sp_Ring_get (K : PySem.W.Frag) (C : Addr) : Sp := fun vs H Q _ => ∃ (r a b : Addr) (ds hs : List Int) (k : Nat), vs = [.ref r, .int (k : Int)] ∧ RingIn K C H r a b ds hs ∧ k < ds.length ∧ ∀ p H', Ex H H' → SqT K H' p [.int (dF ds k), .int (hF hs k : Nat)] → Q (.ref p) H'
theorem ok_Ring_get (Z : Blt mg) (R : RingC K C) (D_is_integer : Df P w K mg base 1 "is_integer" ["value", "low", "high"] (sp_is_integer K)) (G : CFun K C "__getitem__" "Ring.__getitem__" s_Ring___getitem__) : Cf P w K mg base C 2 "__getitem__" ["self", "reader"] (sp_Ring_get K C) := by
  refine Cf.of G sc_Ring___getitem__ b_Ring___getitem__ (fun vs H Q E h => ?_) (fun f cdv A outer s H vs Q E hr h => ?_)
  · obtain ⟨r, a, b, ds, hs, k, rfl, _⟩ := h
    rfl
  · obtain ⟨r, a, b, ds, hs, k, rfl, RI, hk, q⟩ := h
    have cl_Ring := R.cl
    have O := RI.ok
    have hxd := dF_at' (ds := ds) hk
    have hxh := O.hF_at hk
    have hS := RI.sp
    have hT := RI.hp
    refine ⟨_, PSs.nox (pss_cons (ps_if (pt_not (pt_val (pg D_is_integer hr (pa_cons (pv 1) (pa_cons pe_int (pa_cons (pe_op op_sub (pe_callB c_len (by rfl) Z.zlen PySem.boot_len (pa_cons (pe_fld (pv 0) rfl) pa_nil)) pe_int) pa_nil)))))) (pss_one ps_never) pss_nil)
      (pss_one (ps_ret (pe_tup (pa_cons (pe_ix ix_tup (pe_fld (pv 0) rfl) (pv 1) (fun _ _ => rfl)) (pa_cons (pe_ix ix_tup (pe_fld (pv 0) rfl) (pv 1) (fun _ _ => rfl)) pa_nil)))))), ?_⟩
    walk_at "g0"
    walk_at "go"
    rename_i p H1 np e1 hp
    exact q p H1 e1 (SqT.of hp)
theorem g_rget {H : Hp} {Q : VK} {E : XK} {r a b : Addr} {ds hs : List Int} {k : Nat} (R : RingIn K C H r a b ds hs) (hk : k < ds.length) (q : ∀ p H', Ex H H' → SqT K H' p [.int (dF ds k), .int (hF hs k : Nat)] → Q (.ref p) H') : rItO C (sp_Ring_get K C) E (.ref r) (.int (k : Int)) H Q :=
  let ⟨dx, ho⟩ := R.obj; ⟨r, rfl, ⟨dx, _, ho⟩, r, a, b, ds, hs, k, rfl, R, hk, q⟩
/-- Course(ring) -/
theorem g_mkCourse {H : Hp} {Q : VK} {E : XK} {r a b : Addr} {ds hs : List Int} (RI : RingIn K C H r a b ds hs) (q : ∀ c Rw L F H', H c = none → Ex H H' → CrsAt K C CC H' c r a b Rw ds hs L F → SetF ds hs F → Q (.ref c) H') : kMake CC (sp_Course_init K C CC) E Q [.ref r] H := by
  intro x dx nx ndx ne
  have e1 : Ex H (upd (upd H dx (.own x)) x (.ins CC dx [])) := fun c o h => by
    rw [upd_ne (ne_of_none h nx), upd_ne (ne_of_none h ndx)]
    exact h
  exact ⟨x, r, a, b, dx, ds, hs, rfl, upd_same, RI.ex e1, fun Rw L F H' e2 CA hset => ⟨rfl, q x Rw L F H' nx (Exb.ex nx e1 e2) CA hset⟩⟩
def sp_Ring_call (K : PySem.W.Frag) (C : Addr) : Sp := fun vs H Q _ => ∃ (r a b : Addr) (ds hs : List Int) (k n : Nat), vs = [.ref r, .int (k : Int), .int (n : Int)] ∧ RingIn K C H r a b ds hs ∧ k < ds.length ∧ (n : Int) ≤ 1000000000000000000 ∧ ∀ H', Ex H H' → Q (.int (XR ds hs n k)) H'
local macro_rules | `(tactic| walk_at "hp") => `(tactic| first
  | ((with_reducible apply CrsAt.ex); (focus walk_at "as"); walk_at "hp")
  | ((with_reducible apply CrsAt.into); walk_at "hp"))
local macro_rules | `(tactic| walk_at "g1") => `(tactic| first
  | ((with_reducible apply g_callO); (focus walk_at "hp"))
  | with_reducible apply g_tCallO
  | with_reducible apply g_kCallO)
local macro_rules | `(tactic| walk_at "sp") => `(tactic| first
  | ((with_reducible apply g_rdays); (focus walk_at "hp"))
  | ((with_reducible apply g_rstarts); (focus walk_at "hp"))
  | ((with_reducible apply g_rget); (focus walk_at "hp"); (focus with_reducible assumption); intro _ _ _ _)
  | ((with_reducible apply g_rcall); (focus walk_at "hp"); (focus with_reducible assumption); (focus omega); intro _ _)
  | ((with_reducible apply g_mkCourse); (focus walk_at "hp"); intro _ _ _ _ _ _ _ _ _)
  | ((with_reducible apply g_ncheckn); (focus omega); (focus omega)))

theorem ok_Ring_call (Z : Blt mg) (R : RingC K C) (RC : CourseC K CC) (c_MAX_NUMBER : ∃ t, mg "MAX_NUMBER" = some (.int 1000000000000000000 t)) (M_Ring_need_reader : Mf P w K mg base C 2 "need_reader" ["self", "reader"] (sp_Ring_need K C)) (D_check_number : Df P w K mg base 2 "check_number" ["number", "low", "high"] sp_check_number)
    (I_Course : If P w K mg base "Course" CC 5 ["self", "ring"] (sp_Course_init K C CC)) (M_Course_end : Mf P w K mg base CC 1 "end" ["self", "reader", "number"] (sp_Course_end K C CC)) (G : CFun K C "__call__" "Ring.__call__" s_Ring___call__) : Cf P w K mg base C 7 "__call__" ["self", "reader", "number"] (sp_Ring_call K C) := by
  refine Cf.of G sc_Ring___call__ b_Ring___call__ (fun vs H Q E h => ?_) (fun f cdv A outer s H vs Q E hr h => ?_)
  · obtain ⟨r, a, b, ds, hs, k, n, rfl, _⟩ := h
    rfl
  · obtain ⟨r, a, b, ds, hs, k, n, rfl, RI, hk, hn, q⟩ := h
    have cl_Ring := R.cl
    have cl_Course := RC.cl
    refine ⟨_, PSs.nox (pss_cons (ps_expr (pm (pv 0) cl_Ring M_Ring_need_reader hr (pa_cons (pv 1) pa_nil)))
      (pss_cons (ps_expr (pg D_check_number hr (pa_cons (pv 2) (pa_cons pe_int (pa_cons (pint c_MAX_NUMBER) pa_nil)))))
      (pss_one (ps_ret (pm (pk I_Course hr (pa_cons (pv 0) pa_nil)) cl_Course M_Course_end hr (pa_cons (pv 1) (pa_cons (pv 2) pa_nil))))))), ?_⟩
    walk_at "g0"
    walk_at "go"
    rename_i c Rw L F H1 n1 e1 CA hset
    walk_at "go"
    exact ⟨c, r, a, b, Rw, ds, hs, L, F, k, n, rfl, CA, hset, hk, fun H2 e2 => q H2 (e1.trans e2)⟩
theorem g_callO {H : Hp} {Q : VK} {E : XK} {r a b : Addr} {ds hs : List Int} {vs : List V} (R : RingIn K C H r a b ds hs) (q : sp_Ring_call K C (.ref r :: vs) H Q E) : kCallB C (sp_Ring_call K C) E r Q vs H :=
  let ⟨dx, ho⟩ := R.obj; ⟨⟨dx, _, ho⟩, q⟩
theorem g_rcall {H : Hp} {Q : VK} {E : XK} {r a b : Addr} {ds hs : List Int} {k n : Nat} (R : RingIn K C H r a b ds hs) (hk : k < ds.length) (hn : (n : Int) ≤ 1000000000000000000) (q : ∀ H', Ex H H' → Q (.int (XR ds hs n k)) H') : sp_Ring_call K C [.ref r, .int (k : Int), .int (n : Int)] H Q E :=
  ⟨r, a, b, ds, hs, k, n, rfl, R, hk, hn, q⟩
local macro_rules | `(tactic| walk_at "hp") => `(tactic| first
  | ((with_reducible apply CrsAt.ex); (focus walk_at "as"); walk_at "hp")
  | ((with_reducible apply CrsAt.into); walk_at "hp"))
local macro_rules | `(tactic| walk_at "g1") => `(tactic| first
  | ((with_reducible apply g_callO); (focus walk_at "hp"))
  | with_reducible apply g_tCallO
  | with_reducible apply g_kCallO)
local macro_rules | `(tactic| walk_at "sp") => `(tactic| first
  | ((with_reducible apply g_rdays); (focus walk_at "hp"))
  | ((with_reducible apply g_rstarts); (focus walk_at "hp"))
  | ((with_reducible apply g_rget); (focus walk_at "hp"); (focus with_reducible assumption); intro _ _ _ _)
  | ((with_reducible apply g_rcall); (focus walk_at "hp"); (focus with_reducible assumption); (focus omega); intro _ _)
  | ((with_reducible apply g_mkCourse); (focus walk_at "hp"); intro _ _ _ _ _ _ _ _ _)
  | ((with_reducible apply g_ncheckn); (focus omega); (focus omega)))

def sp_begin_day (K : PySem.W.Frag) (C : Addr) : Sp := fun vs H Q _ => ∃ (r a b : Addr) (ds hs : List Int) (k n : Nat), vs = [.ref r, .int (k : Int), .int (n : Int)] ∧ RingIn K C H r a b ds hs ∧ k < ds.length ∧ (n : Int) ≤ 1000000000000000000 ∧ ∀ H', Ex H H' → Q (.int (XR ds hs n k - dF ds k)) H'
/-! days: readings ended -/
def CntP (ds hs : List Int) (k : Nat) (t : Int) (c : Nat) : Prop := (∀ n, n < c → XR ds hs n k ≤ t) ∧ t < XR ds hs c k
theorem XR_step {ds hs : List Int} (O : RingOk ds hs) {k : Nat} (hk : k < ds.length) (n : Nat) : dF ds k + XR ds hs n k ≤ XR ds hs (n + 1) k := by
  have := X_same O.rg.toRg hk (n := n + 1) (by omega)
  exact this
theorem dF_pos {ds hs : List Int} (O : RingOk ds hs) {k : Nat} (hk : k < ds.length) : 1 ≤ dF ds k ∧ dF ds k ≤ 30 := by
  rw [dF_at hk]
  exact O.dd _ (List.getElem_mem hk)
theorem XR_mono {ds hs : List Int} (O : RingOk ds hs) {k : Nat} (hk : k < ds.length) {m n : Nat} (h : m ≤ n) : XR ds hs m k ≤ XR ds hs n k := by
  induction n with
  | zero => rw [show m = 0 by omega]; exact Int.le_refl _
  | succ n ih =>
    by_cases z : m = n + 1
    · rw [z]; exact Int.le_refl _
    · have h1 := ih (by omega)
      have h2 := XR_step O hk n
      have h3 := dF_pos O hk
      omega
theorem XR_ge {ds hs : List Int} (O : RingOk ds hs) {k : Nat} (hk : k < ds.length) (n : Nat) : (n : Int) < XR ds hs n k := by
  induction n with
  | zero => exact Int.lt_of_lt_of_le (by decide) (X_self O.rg.toRg hk (n := 0)).2
  | succ n ih =>
    have h2 := XR_step O hk n
    have h3 := dF_pos O hk
    omega
def sp_ended_by (K : PySem.W.Frag) (C CC : Addr) : Sp := fun vs H Q _ => ∃ (c r a b Rw : Addr) (ds hs : List Int) (L F k : Nat) (t : Int), vs = [.ref c, .int (k : Int), .int t] ∧ CrsAt K C CC H c r a b Rw ds hs L F ∧ SetF ds hs F ∧ k < ds.length ∧ 0 ≤ t ∧ ∀ n H', Ex H H' → CntP ds hs k t n → Q (.int (n : Nat)) H'
def sp_readings_by (K : PySem.W.Frag) (C : Addr) : Sp := fun vs H Q _ => ∃ (r a b : Addr) (ds hs : List Int) (k : Nat) (t : Int), vs = [.ref r, .int (k : Int), .int t] ∧ RingIn K C H r a b ds hs ∧ k < ds.length ∧ (0 ≤ t ∧ t ≤ 1000000000000000000) ∧ ∀ n H', Ex H H' → CntP ds hs k t n → Q (.int (n : Nat)) H'
def sp_waiting (K : PySem.W.Frag) (C CC : Addr) : Sp := fun vs H Q _ => ∃ (c r a b Rw : Addr) (ds hs : List Int) (L F k : Nat) (t : Int), vs = [.ref c, .int (k : Int), .int t] ∧ CrsAt K C CC H c r a b Rw ds hs L F ∧ SetF ds hs F ∧ k < ds.length ∧ 0 ≤ t ∧
  ∀ n1 n2 H', Ex H H' → CntP ds hs (prv ds.length k) t n1 → CntP ds hs k (t + dF ds k) n2 → Q (.int ((hF hs k : Nat) + (n1 : Int) - (n2 : Int))) H'
theorem prv_mod {N k : Nat} (h : k < N) : ((k : Int) - 1) % (N : Int) = ((prv N k : Nat) : Int) := by
  unfold prv
  by_cases z : k = 0
  · subst z
    rw [if_pos rfl]
    have e : ((0 : Nat) : Int) - 1 = ((N - 1 : Nat) : Int) + (N : Int) * (-1) := by omega
    rw [e, Int.add_mul_emod_self_left, Int.emod_eq_of_lt (by omega) (by omega)]
  · rw [if_neg z, Int.emod_eq_of_lt (by omega) (by omega)]
    omega
def sp_heap_on (K : PySem.W.Frag) (C : Addr) : Sp := fun vs H Q _ => ∃ (r a b : Addr) (ds hs : List Int) (k : Nat) (t : Int), vs = [.ref r, .int (k : Int), .int t] ∧ RingIn K C H r a b ds hs ∧ k < ds.length ∧ (0 ≤ t ∧ t ≤ 1000000000000000000) ∧
  ∀ n1 n2 H', Ex H H' → CntP ds hs (prv ds.length k) t n1 → CntP ds hs k (t + dF ds k) n2 → Q (.int ((hF hs k : Nat) + (n1 : Int) - (n2 : Int))) H'
def sp_settled (K : PySem.W.Frag) (C : Addr) : Sp := fun vs H Q _ => ∃ (r a b : Addr) (ds hs : List Int), vs = [.ref r] ∧ RingIn K C H r a b ds hs ∧ ∀ p F H', Ex H H' → SetF ds hs F → F ≤ 900 → SqT K H' p [.int (F : Int), .int (evN ds hs : Nat), .int (shN ds hs)] → Q (.ref p) H'
end
end G48

/-! books in order; the great draws -/
namespace G48
open PySem PySem.Spec PyProof.Rows L2 Evl
/-! the steps -/
local macro_rules | `(tactic| walk_at "as") => `(tactic| with_reducible assumption)
local macro_rules | `(tactic| walk_at "hp") => `(tactic| first
  | with_reducible assumption
  | ((with_reducible apply SqT.of); walk_at "as")
  | ((with_reducible apply SqL.of); walk_at "as")
  | ((with_reducible apply ex_at); (focus walk_at "as"); walk_at "hp")
  | ((with_reducible apply ex_t); (focus walk_at "as"); walk_at "hp")
  | ((with_reducible apply ex_l); (focus walk_at "as"); walk_at "hp")
  | ((with_reducible apply exb_ins); (focus walk_at "as"); (focus walk_at "hp"); walk_at "hp")
  | ((with_reducible apply exb_t); (focus walk_at "as"); (focus walk_at "hp"); walk_at "hp")
  | ((with_reducible apply exb_at); (focus walk_at "as"); (focus walk_at "ne"); walk_at "hp")
  | ((with_reducible apply exb_l); (focus walk_at "as"); (focus walk_at "ne"); walk_at "hp"))
local macro_rules | `(tactic| walk_at "ne") => `(tactic| first
  | with_reducible assumption
  | exact Ne.symm (by with_reducible assumption)
  | exact ne_of_none (by with_reducible assumption) (by with_reducible assumption)
  | exact Ne.symm (ne_of_none (by with_reducible assumption) (by with_reducible assumption)))
local macro_rules | `(tactic| walk_at "tr") => `(tactic| first
  | rfl
  | with_reducible assumption
  | exact decide_eq_true (by first | with_reducible assumption | omega)
  | exact decide_eq_false (by first | with_reducible assumption | omega)
  | (rw [Bool.not_eq_true']; exact decide_eq_false (by first | with_reducible assumption | omega))
  | (rw [Bool.not_eq_false']; exact decide_eq_true (by first | with_reducible assumption | omega)))
local macro_rules | `(tactic| walk_at "nn") => `(tactic| first | with_reducible assumption | (exact List.cons_ne_nil _ _))
local macro_rules | `(tactic| walk_at "sz") => `(tactic| first | (exact sz1000 (Nat.le_of_ble_eq_true rfl)) | (refine sz1000 ?_; simp only [List.length_map, List.length_cons, List.length_nil, List.length_append]; omega) | with_reducible assumption)
local macro_rules | `(tactic| walk_at "sl") => `(tactic| first | with_reducible assumption | (refine lt1000 ?_; simp only [List.length_map, List.length_cons, List.length_nil, List.length_append]; omega) | (refine lt1000 ?_; omega))
local macro_rules | `(tactic| walk_at "ix") => `(tactic| first | rfl | with_reducible assumption)
local macro_rules | `(tactic| walk_at "rg") => `(tactic| exact RgOk.of_le (by omega) (by omega) (by omega) (by omega))
local macro_rules | `(tactic| walk_at "sp") => `(tactic| fail "sp")
local macro_rules | `(tactic| walk_at "cl") => `(tactic| with_reducible assumption)
local macro_rules | `(tactic| walk_at "lk") => `(tactic| with_reducible assumption)
local macro_rules | `(tactic| walk_at "it") => `(tactic| first | rfl | with_reducible assumption | exact atI_nat (by with_reducible assumption))
local macro_rules | `(tactic| walk_at "g1") => `(tactic| first
  | (with_reducible apply g_var); (focus rfl)
  | with_reducible apply g_c
  | with_reducible apply g_seq
  | with_reducible apply g_asg
  | with_reducible apply gg_name
  | with_reducible apply g_op
  | with_reducible apply g_cons
  | with_reducible apply g_nil
  | with_reducible apply g_cb
  | with_reducible apply g_fld
  | ((with_reducible apply g_kFld); (focus walk_at "hp"); (focus walk_at "cl"); (focus walk_at "cl"); (focus walk_at "lk"))
  | with_reducible apply g_call
  | walk_at "sp"
  | with_reducible apply g_ret
  | with_reducible apply g_drop
  | with_reducible apply g_test
  | with_reducible apply g_B
  | with_reducible apply g_kTest
  | with_reducible apply g_ifS
  | with_reducible apply g_kIfST
  | with_reducible apply g_kIfSF
  | with_reducible apply g_add
  | with_reducible apply g_sub
  | with_reducible apply g_lt
  | with_reducible apply g_le
  | with_reducible apply g_gt
  | with_reducible apply g_ge
  | with_reducible apply g_eqI
  | with_reducible apply g_neI
  | ((with_reducible apply g_mod); (focus first | decide | omega))
  | ((with_reducible apply g_mul); (focus first | (left; constructor <;> omega) | (right; constructor <;> omega)))
  | ((with_reducible apply g_fdiv); (focus (constructor <;> omega)))
  | ((with_reducible apply g_ixT); (focus walk_at "hp"); (focus walk_at "it"))
  | ((with_reducible apply g_ixL); (focus walk_at "hp"); (focus walk_at "it"))
  | with_reducible apply g_and
  | with_reducible apply g_or
  | with_reducible apply g_not
  | with_reducible apply g_kNotT
  | with_reducible apply g_kNotF
  | with_reducible apply g_if
  | with_reducible apply g_kAndT
  | with_reducible apply g_kAndF
  | with_reducible apply g_kOrT
  | with_reducible apply g_kOrF
  | with_reducible apply g_kIfT
  | with_reducible apply g_kIfF
  | with_reducible apply g_next
  | with_reducible apply g_andV
  | with_reducible apply g_orV
  | with_reducible apply g_notV
  | with_reducible apply g_kNotV
  | with_reducible apply g_kAndVT
  | with_reducible apply g_kAndVF
  | with_reducible apply g_chain
  | with_reducible apply g_kChainT
  | with_reducible apply g_kChainF
  | with_reducible apply g_tup
  | with_reducible apply g_lst
  | ((with_reducible apply g_kT); (focus walk_at "sz"); intro _ _ _ _ _)
  | ((with_reducible apply g_kL); (focus walk_at "sz"); intro _ _ _ _ _)
  | with_reducible apply g_un
  | with_reducible apply g_neg
  | with_reducible apply g_meth
  | ((with_reducible apply g_kMeth); (focus walk_at "hp"); (focus walk_at "lk"))
  | with_reducible apply g_prop
  | ((with_reducible apply g_kProp); (focus walk_at "hp"))
  | with_reducible apply g_make
  | with_reducible apply g_par
  | with_reducible apply g_kPar
  | ((with_reducible apply g_lenLM); (focus walk_at "hp"))
  | ((with_reducible apply g_lenTM); (focus walk_at "hp"))
  | ((with_reducible apply g_lenL); (focus walk_at "hp"))
  | ((with_reducible apply g_lenT); (focus walk_at "hp"))
  | with_reducible apply g_int1
  | with_reducible apply g_max2
  | with_reducible apply g_min2
  | ((with_reducible apply g_listL); (focus walk_at "hp"); intro _ _ _ _ _)
  | ((with_reducible apply g_listT); (focus walk_at "hp"); intro _ _ _ _ _)
  | ((with_reducible apply g_tupL); (focus walk_at "hp"); intro _ _ _ _ _)
  | ((with_reducible apply g_sum); (focus walk_at "hp"))
  | with_reducible apply g_sfld
  | with_reducible apply g_sl
  | with_reducible apply g_nopart
  | with_reducible apply g_part
  | with_reducible apply g_kPart
  | with_reducible apply g_lstRg
  | with_reducible apply g_rg1
  | with_reducible apply g_kRg1
  | with_reducible apply g_bm
  | with_reducible apply gg_sub
  | ((with_reducible apply gg_tup); (focus walk_at "hp"); (focus rfl))
  | with_reducible apply gg_cons
  | with_reducible apply gg_nil
  | with_reducible apply g_forL
  | with_reducible apply g_forT
  | with_reducible apply g_forR1
  | with_reducible apply g_forR2
  | with_reducible apply g_forE
  | with_reducible apply g_forEL
  | ((with_reducible apply g_maxT); (focus walk_at "hp"); (focus walk_at "nn"))
  | ((with_reducible apply g_maxL); (focus walk_at "hp"); (focus walk_at "nn"))
  | ((with_reducible apply g_catA); (focus walk_at "hp"); (focus walk_at "hp"); (focus walk_at "sz"); intro _ _ _ _)
  | ((with_reducible apply g_slA); (focus walk_at "hp"); intro _ _ _ _)
  | ((with_reducible apply g_tupD); (focus walk_at "hp"); intro _ _ _ _ _)
  | ((with_reducible apply g_setL); (focus walk_at "hp"); (focus walk_at "ix"); intro _ _ _)
  | ((with_reducible apply g_append); (focus walk_at "hp"); (focus walk_at "sl"); intro _ _ _)
  | ((with_reducible apply g_aug); (focus rfl))
  | with_reducible apply g_ipI
  | with_reducible apply g_retN
  | with_reducible apply g_lcR1
  | with_reducible apply g_lcR2
  | with_reducible apply g_lcL
  | with_reducible apply g_lcU
  | with_reducible apply g_lcN
  | ((with_reducible apply g_kLcG); (focus rfl))
  | with_reducible apply g_yes
  | with_reducible apply g_kLcTT
  | with_reducible apply g_kLcTF
  | ((with_reducible apply g_kLcE); (focus walk_at "hp"); (focus walk_at "sl"); intro _ _ _)
  | ((with_reducible apply g_pow); (focus (constructor <;> (try constructor) <;> decide)))
  | ((with_reducible apply g_kLRg); (focus walk_at "rg"); intro _ _ _ _ _)
  | ((with_reducible apply g_cat); (focus walk_at "hp"); (focus walk_at "hp"); (focus walk_at "sz"); intro _ _ _ _ _)
  | ((with_reducible apply g_slL); (focus walk_at "hp"); intro _ _ _ _ _)
  | with_reducible apply g_bmT
  | with_reducible apply g_break
  | with_reducible apply g_cont)
local macro_rules | `(tactic| walk_at "g0") => `(tactic| try dsimp only [L2.cxOf, L2.Cx.nox, L2.Cx.wish])
local macro_rules | `(tactic| walk_at "yn") => `(tactic| first
  | ((with_reducible apply y_kIfS); (focus walk_at "tr"))
  | ((with_reducible apply n_kIfS); (focus walk_at "tr"))
  | ((with_reducible apply y_kOr); (focus walk_at "tr"))
  | ((with_reducible apply n_kOr); (focus walk_at "tr"))
  | ((with_reducible apply y_kAnd); (focus walk_at "tr"))
  | ((with_reducible apply n_kAnd); (focus walk_at "tr"))
  | ((with_reducible apply y_kNot); (focus walk_at "tr"))
  | ((with_reducible apply n_kNot); (focus walk_at "tr"))
  | ((with_reducible apply y_kIf); (focus walk_at "tr"))
  | ((with_reducible apply n_kIf); (focus walk_at "tr"))
  | ((with_reducible apply y_kAndV); (focus walk_at "tr"))
  | ((with_reducible apply n_kAndV); (focus walk_at "tr"))
  | ((with_reducible apply y_kOrV); (focus walk_at "tr"))
  | ((with_reducible apply n_kOrV); (focus walk_at "tr"))
  | ((with_reducible apply y_kChain); (focus walk_at "tr"))
  | ((with_reducible apply n_kChain); (focus walk_at "tr"))
  | ((with_reducible apply y_kLcT); (focus walk_at "tr"))
  | ((with_reducible apply n_kLcT); (focus walk_at "tr"))
  | ((with_reducible apply y_kWh); (focus walk_at "tr"))
  | ((with_reducible apply n_kWh); (focus walk_at "tr")))
local macro_rules | `(tactic| walk_at "go") => `(tactic| repeat (first | walk_at "g1" | walk_at "yn"))
local macro_rules | `(tactic| walk_at "hp") => `(tactic| first
  | ((with_reducible apply RingIn.ex); (focus walk_at "as"); walk_at "hp")
  | ((with_reducible apply RingAt.ex); (focus walk_at "as"); walk_at "hp")
  | ((with_reducible apply RingIn.exb); (focus walk_at "as"); (focus walk_at "hp"); walk_at "hp")
  | ((with_reducible apply RingAt.exb); (focus walk_at "as"); (focus walk_at "hp"); walk_at "hp")
  | ((with_reducible apply TupK.ex); (focus walk_at "as"); walk_at "hp")
  | ((with_reducible apply TupK.exb); (focus walk_at "as"); (focus walk_at "hp"); walk_at "hp"))
local macro_rules | `(tactic| walk_at "lk") => `(tactic| first | with_reducible exact rf_spans | with_reducible exact rf_heaps | with_reducible exact rf_total | with_reducible exact rf_nr | with_reducible exact rf_wd)
local macro_rules | `(tactic| walk_at "sp") => `(tactic| first
  | ((with_reducible apply g_isiTup); (focus walk_at "hp"))
  | ((with_reducible apply g_isiLst); (focus walk_at "hp"))
  | ((with_reducible apply g_isint); (focus omega); (focus omega))
  | ((with_reducible apply g_checkn); (focus omega); (focus omega))
  | ((with_reducible apply g_rbooks); (focus walk_at "hp"))
  | ((with_reducible apply g_rpace); (focus walk_at "hp"); intro _ _ _ _)
  | ((with_reducible apply g_rlen); (focus walk_at "hp"))
  | ((with_reducible apply g_rneed); (focus walk_at "hp"); (focus omega))
  | ((with_reducible apply g_rneedM); (focus walk_at "hp"))
  | ((with_reducible apply g_rwithM); (focus walk_at "hp"))
  | ((with_reducible apply g_rspans); (focus walk_at "hp"); (focus with_reducible assumption))
  | ((with_reducible apply g_rheaps); (focus walk_at "hp"); (focus with_reducible assumption))
  | ((with_reducible apply g_rtotal); (focus walk_at "hp"); (focus with_reducible assumption)))

local macro_rules | `(tactic| walk_at "hp") => `(tactic| first
  | ((with_reducible apply CrsIn.ex); (focus walk_at "as"); walk_at "hp")
  | ((with_reducible apply RowsAt.ex); (focus walk_at "as"); walk_at "hp"))
local macro_rules | `(tactic| walk_at "sp") => `(tactic| first
  | ((with_reducible apply g_crows); (focus walk_at "hp"); (focus with_reducible assumption))
  | ((with_reducible apply g_csize); (focus walk_at "hp"); (focus with_reducible assumption))
  | ((with_reducible apply g_cevery); (focus walk_at "hp"); (focus with_reducible assumption))
  | ((with_reducible apply g_cshift); (focus walk_at "hp"); (focus with_reducible assumption))
  | ((with_reducible apply g_cring); (focus walk_at "hp"); (focus with_reducible assumption))
  | ((with_reducible apply g_cfirst); (focus walk_at "hp"); (focus with_reducible assumption))
  | ((with_reducible apply g_clen); (focus walk_at "hp"))
  | ((with_reducible apply g_cmShifted); (focus walk_at "hp"))
  | ((with_reducible apply g_cmSettled); (focus walk_at "hp"))
  | ((with_reducible apply g_cmNext); (focus walk_at "hp"))
  | ((with_reducible apply g_cmEnd); (focus walk_at "hp"))
  | ((with_reducible apply g_cmArrival); (focus walk_at "hp")))

local macro_rules | `(tactic| walk_at "sp") => `(tactic| first
  | ((with_reducible apply g_taken); (focus walk_at "hp"); (focus first | decide | omega); (focus first | decide | omega); intro _ _ _ _ _ _))
local macro_rules | `(tactic| walk_at "hp") => `(tactic| first
  | ((with_reducible apply DiceAt.ex); (focus walk_at "as"); walk_at "hp")
  | ((with_reducible apply exb_tD); (focus walk_at "as"); (focus walk_at "hp"); walk_at "hp")
  | ((with_reducible apply exb_insD); (focus walk_at "as"); (focus walk_at "hp"); walk_at "hp")
  | ((with_reducible apply RingIn.exD); (focus walk_at "as"); (focus walk_at "hp"); walk_at "hp")
  | ((with_reducible apply TupK.exD); (focus walk_at "as"); (focus walk_at "hp"); walk_at "hp"))

local macro_rules | `(tactic| walk_at "hp") => `(tactic| first
  | ((with_reducible apply CrsAt.ex); (focus walk_at "as"); walk_at "hp")
  | ((with_reducible apply CrsAt.into); walk_at "hp"))
local macro_rules | `(tactic| walk_at "g1") => `(tactic| first
  | ((with_reducible apply g_callO); (focus walk_at "hp"))
  | with_reducible apply g_tCallO
  | with_reducible apply g_kCallO)
local macro_rules | `(tactic| walk_at "sp") => `(tactic| first
  | ((with_reducible apply g_rdays); (focus walk_at "hp"))
  | ((with_reducible apply g_rstarts); (focus walk_at "hp"))
  | ((with_reducible apply g_rget); (focus walk_at "hp"); (focus with_reducible assumption); intro _ _ _ _)
  | ((with_reducible apply g_rcall); (focus walk_at "hp"); (focus with_reducible assumption); (focus omega); intro _ _)
  | ((with_reducible apply g_mkCourse); (focus walk_at "hp"); intro _ _ _ _ _ _ _ _ _)
  | ((with_reducible apply g_ncheckn); (focus omega); (focus omega)))

def rng (a : Int) (n : Nat) : List Int := (List.range n).map fun (i : Nat) => a + (i : Int)
def ordX (hs : List Int) (N k : Nat) : Nat → List Int
  | 0 => []
  | t + 1 => ordX hs N k t ++ rng ((hs.take (bkw N k t)).sum) (hF hs (bkw N k t))
theorem rng_V (a : Int) (n : Nat) : rgV a (a + (n : Int)) = (rng a n).map V.int := by
  unfold rgV rng
  rw [List.map_map]
  have e : (a + (n : Int) - a).toNat = n := by omega
  rw [e]
  rfl
theorem rng_len (a : Int) (n : Nat) : (rng a n).length = n := by unfold rng; rw [List.length_map, List.length_range]
theorem bkw_succ {N r k : Nat} : bkw N r (k + 1) = prv N (bkw N r k) := pv_add k 1 r
theorem Sg_succ {f : Nat → Int} {N r k : Nat} : Sg f N r (k + 1) = Sg f N r k + f (bkw N r k) := by
  rw [Sg_add]
  show _ + (f (bkw N r k) + 0) = _
  omega
theorem ordX_len {hs : List Int} {N k : Nat} : ∀ t, ((ordX hs N k t).length : Int) = Hs (hF hs) N k t
  | 0 => rfl
  | t + 1 => by
    show (((ordX hs N k t ++ rng _ _).length : Nat) : Int) = Sg (fun i => ((hF hs i : Nat) : Int)) N k (t + 1)
    rw [List.length_append, rng_len, Sg_succ, Int.natCast_add, ordX_len t]
    rfl
theorem ordX_all {ds hs : List Int} (O : RingOk ds hs) {k : Nat} (hk : k < ds.length) : (ordX hs ds.length k ds.length).length = hs.sum.toNat := by
  have h1 := ordX_len (hs := hs) (N := ds.length) (k := k) ds.length
  rw [O.rg.tB k hk] at h1
  omega
def bookN (ds hs : List Int) (k n : Nat) : Int := (ordX hs ds.length k ds.length).getD (n % hs.sum.toNat) 0
section
variable {P : Program} {w : World} {K : PySem.W.Frag} {mg : Str → Option Value} {base : Heap} {C CC : Addr}
def sp_in_order (K : PySem.W.Frag) (C : Addr) : Sp := fun vs H Q _ => ∃ (r a b : Addr) (ds hs : List Int) (k : Nat), vs = [.ref r, .int (k : Int)] ∧ RingIn K C H r a b ds hs ∧ k < ds.length ∧ ∀ p H', H p = none → Ex H H' → H' p = some (.lst ((ordX hs ds.length k ds.length).map V.int)) → Q (.ref p) H'
theorem g_in_order {H : Hp} {Q : VK} {E : XK} {r a b : Addr} {ds hs : List Int} {k : Nat} (R : RingIn K C H r a b ds hs) (hk : k < ds.length) (q : ∀ p H', H p = none → Ex H H' → H' p = some (.lst ((ordX hs ds.length k ds.length).map V.int)) → Q (.ref p) H') : sp_in_order K C [.ref r, .int (k : Int)] H Q E := ⟨r, a, b, ds, hs, k, rfl, R, hk, q⟩
def sp_book_of (K : PySem.W.Frag) (C : Addr) : Sp := fun vs H Q _ => ∃ (r a b : Addr) (ds hs : List Int) (k n : Nat), vs = [.ref r, .int (k : Int), .int (n : Int)] ∧ RingIn K C H r a b ds hs ∧ k < ds.length ∧ (n : Int) ≤ 1000000000000000000 ∧ ∀ H', Ex H H' → Q (.int (bookN ds hs k n)) H'
def sp_great (K : PySem.W.Frag) : Sp := fun vs H Q _ => ∃ (d : Addr) (many : Int), vs = [.ref d, .int many] ∧ DiceAt K H d ∧ 0 < many ∧ ∀ k H', 0 ≤ k → k < many → Dx K d H H' → Q (.int k) H'
theorem g_great {H : Hp} {Q : VK} {E : XK} {d : Addr} {many : Int} (D : DiceAt K H d) (h1 : 0 < many) (q : ∀ k H', 0 ≤ k → k < many → Exb d H H' → DiceAt K H' d → Q (.int k) H') : sp_great K [.ref d, .int many] H Q E :=
  ⟨d, many, rfl, D, h1, fun k H' a b c => q k H' a b c.1 c.2⟩
end
end G48

/-! the plain law of k56 -/
namespace G48
open PySem PySem.Spec PyProof.Rows L2 Evl
theorem low_mul {a b : Int} (ha : 0 < a) : ∃ g : Int, 0 < g ∧ (low a b).1 * g = a ∧ (low a b).2 * g = b := by
  have hg : 0 < (Int.gcd a b : Int) := by
    have := (Int.gcd_pos_iff (a := a) (b := b)).mpr (Or.inl (by omega))
    omega
  exact ⟨Int.gcd a b, hg, Int.ediv_mul_cancel (Int.gcd_dvd_left ..), Int.ediv_mul_cancel (Int.gcd_dvd_right ..)⟩
theorem paceN_slow {ds : List Int} {B : Int} (h : ds.sum ≤ mx ds * B) : paceN ds B = (mx ds, 1) := by unfold paceN; rw [if_pos h]
theorem paceN_quick {ds : List Int} {B : Int} (h : ¬ ds.sum ≤ mx ds * B) : paceN ds B = low ds.sum B := by unfold paceN; rw [if_neg h]
theorem PR.shows {ds rs : List Int} {B : Int} (h2 : 2 ≤ ds.length) (h : PR ds B rs) : Shows rs ds.length := by
  unfold PR at h
  by_cases hc : ds.sum ≤ mx ds * B
  · rw [if_pos hc] at h
    obtain ⟨j, rfl, hj, _⟩ := h
    have hjl := (List.getElem?_eq_some_iff.mp hj).1
    refine ⟨fun i x hx => ?_, fun i x y hx hy => ?_, .inl rfl⟩
    · cases i with
      | zero => cases hx; omega
      | succ i => cases hx
    · cases hy
  · rw [if_neg hc] at h
    subst h
    exact ⟨fun i x hx => by
      have hl := (List.getElem?_eq_some_iff.mp hx).1
      rw [upto_len] at hl
      rw [upto_at hl] at hx
      cases hx
      omega, fun i x y hx hy => by
      have hl := (List.getElem?_eq_some_iff.mp hy).1
      rw [upto_len] at hl
      rw [upto_at hl] at hy
      rw [upto_at (by omega)] at hx
      cases hx
      cases hy
      rw [Int.emod_eq_of_lt (by omega) (by omega)]
      omega, .inr (upto_len _)⟩
theorem shows_one {n k : Nat} (h : k < n) : Shows [(k : Int)] n := by
  refine ⟨fun i x hx => ?_, fun i x y hx hy => ?_, Or.inl rfl⟩
  · cases i with
    | zero => cases hx; omega
    | succ i => cases hx
  · cases hy
theorem shows_all {n : Nat} : Shows (upto n) n :=
  ⟨fun i x hx => by
    have hl := (List.getElem?_eq_some_iff.mp hx).1
    rw [upto_len] at hl
    rw [upto_at hl] at hx
    cases hx
    omega, fun i x y hx hy => by
    have hl := (List.getElem?_eq_some_iff.mp hy).1
    rw [upto_len] at hl
    rw [upto_at hl] at hy
    rw [upto_at (by omega)] at hx
    cases hx
    cases hy
    rw [Int.emod_eq_of_lt (by omega) (by omega)]
    omega, .inr (upto_len _)⟩
theorem shown_one {ds : List Int} {B : Int} {k : Nat} : shown ds B [(k : Int)] = (ds.getD k 0, 1) := by
  unfold shown
  rw [if_pos (show ([(k : Int)] : List Int).length = 1 from rfl)]
  rfl
theorem shown_all {ds : List Int} {B : Int} (h : 2 ≤ ds.length) : shown ds B (upto ds.length) = low ds.sum B := by
  unfold shown
  rw [if_neg (by rw [upto_len]; omega)]
theorem PR.shown {ds rs : List Int} {B : Int} (h2 : 2 ≤ ds.length) (h : PR ds B rs) : shown ds B rs = paceN ds B := by
  unfold PR at h
  by_cases hc : ds.sum ≤ mx ds * B
  · rw [if_pos hc] at h
    obtain ⟨j, rfl, hj, _⟩ := h
    rw [shown_one, paceN_slow hc]
    simp [List.getD, hj]
  · rw [if_neg hc] at h
    subst h
    rw [shown_all h2, paceN_quick hc]
/-- the cross differences: none above 0, one is 0 -/
def crossN (ds : List Int) (B : Int) : List Int := ((List.range ds.length).map fun k => ds.getD k 0 * (paceN ds B).2 - (paceN ds B).1 * 1) ++ [(low ds.sum B).1 * (paceN ds B).2 - (paceN ds B).1 * (low ds.sum B).2]
theorem mx_zero {ns : List Int} (h0 : (0 : Int) ∈ ns) (h : ∀ x ∈ ns, x ≤ 0) : mx ns = 0 := (mx_eq h0 h).symm
theorem crossN_mx {ds : List Int} {B : Int} (O : DaysOk ds) (hb : 1 ≤ B) : mx (crossN ds B) = 0 := by
  have hs := O.sum
  have hm := O.mx
  obtain ⟨g, g0, g1, g2⟩ := low_mul (a := ds.sum) (b := B) (by omega)
  by_cases hc : ds.sum ≤ mx ds * B
  · refine mx_zero ?_ ?_
    · refine List.mem_append_left _ ?_
      obtain ⟨j, hj, _⟩ := first_at (mx_mem O.ne)
      have hjl := (List.getElem?_eq_some_iff.mp hj).1
      refine List.mem_map.mpr ⟨j, List.mem_range.mpr hjl, ?_⟩
      rw [paceN_slow hc]
      simp [List.getD, hj]
    · intro x hx
      rcases List.mem_append.mp hx with hx | hx
      · obtain ⟨k, hk, rfl⟩ := List.mem_map.mp hx
        have hk := List.mem_range.mp hk
        rw [paceN_slow hc]
        have : ds.getD k 0 ≤ mx ds := le_mx (by simp [List.getD, List.getElem?_eq_getElem hk])
        show ds.getD k 0 * 1 - mx ds * 1 ≤ 0
        omega
      · rw [List.mem_singleton.mp hx, paceN_slow hc]
        show (low ds.sum B).1 * 1 - mx ds * (low ds.sum B).2 ≤ 0
        have h1 : (low ds.sum B).1 * g ≤ mx ds * (low ds.sum B).2 * g := by
          rw [Int.mul_assoc, g1, g2]
          exact hc
        have := Int.le_of_mul_le_mul_right h1 g0
        omega
  · refine mx_zero ?_ ?_
    · refine List.mem_append_right _ ?_
      rw [paceN_quick hc, Int.sub_self]
      exact List.mem_singleton.mpr rfl
    · intro x hx
      rcases List.mem_append.mp hx with hx | hx
      · obtain ⟨k, hk, rfl⟩ := List.mem_map.mp hx
        have hk := List.mem_range.mp hk
        rw [paceN_quick hc]
        have h3 : ds.getD k 0 ≤ mx ds := le_mx (by simp [List.getD, List.getElem?_eq_getElem hk])
        show ds.getD k 0 * (low ds.sum B).2 - (low ds.sum B).1 * 1 ≤ 0
        have hl := low_bd (a := ds.sum) (b := B) (by omega) (by omega)
        have h1 : mx ds * (low ds.sum B).2 * g ≤ (low ds.sum B).1 * g := by
          rw [Int.mul_assoc, g1, g2]
          omega
        have h2 := Int.le_of_mul_le_mul_right h1 g0
        have h4 : ds.getD k 0 * (low ds.sum B).2 ≤ mx ds * (low ds.sum B).2 := Int.mul_le_mul_of_nonneg_right h3 (by omega)
        omega
      · rw [List.mem_singleton.mp hx, paceN_quick hc, Int.sub_self]
        exact Int.le_refl _
/-- the fewest books -/
theorem few_bd {ds : List Int} (O : DaysOk ds) : ds.sum ≤ mx ds * fewN ds ∧ 1 ≤ fewN ds ∧ fewN ds ≤ 1000 ∧ mx ds * (fewN ds - 1) < ds.sum := by
  have hs := O.sum
  have hm := O.mx
  have h1 := Int.mul_ediv_add_emod (ds.sum + mx ds - 1) (mx ds)
  have h2 := Int.emod_nonneg (ds.sum + mx ds - 1) (b := mx ds) (by omega)
  have h3 := Int.emod_lt_of_pos (ds.sum + mx ds - 1) (b := mx ds) (by omega)
  have e : fewN ds = (ds.sum + mx ds - 1) / mx ds := rfl
  rw [← e] at h1
  have e2 : mx ds * (fewN ds - 1) = mx ds * fewN ds - mx ds := by rw [Int.mul_sub, Int.mul_one]
  refine ⟨by omega, ?_, ?_, by omega⟩
  · by_cases hz : fewN ds ≤ 0
    · have : mx ds * fewN ds ≤ 0 := Int.mul_nonpos_of_nonneg_of_nonpos (by omega) hz
      omega
    · omega
  · by_cases hz : 1000 < fewN ds
    · have : 1 * fewN ds ≤ mx ds * fewN ds := Int.mul_le_mul_of_nonneg_right (by omega) (by omega)
      omega
    · omega
theorem best_pace {ds : List Int} (O : DaysOk ds) : paceN ds 1000 = (mx ds, 1) := paceN_slow (by have := O.sum; have := O.mx; omega)
theorem few_pace {ds : List Int} (O : DaysOk ds) : paceN ds (fewN ds) = (mx ds, 1) := paceN_slow (few_bd O).1
theorem few_less {ds : List Int} (O : DaysOk ds) (h : 1 < fewN ds) : ¬ paceN ds (fewN ds - 1) = (mx ds, 1) := by
  have hb := (few_bd O).2.2.2
  have hs := O.sum
  rw [paceN_quick (by omega)]
  obtain ⟨g, g0, g1, g2⟩ := low_mul (a := ds.sum) (b := fewN ds - 1) (by omega)
  intro z
  rw [z] at g1 g2
  have g1 : mx ds * g = ds.sum := g1
  have g2 : 1 * g = fewN ds - 1 := g2
  rw [Int.one_mul] at g2
  rw [g2] at g1
  omega
/-- nothing less is needed for the pace that stands -/
theorem sum_max0 {ds : List Int} {q : Int} (h : ∀ d ∈ ds, d ≤ q) : (ds.map fun d => max 0 (d - q)).sum = 0 := by
  induction ds with
  | nil => rfl
  | cons d r ih =>
    rw [List.map_cons, List.sum_cons, ih fun x hx => h x (List.mem_cons_of_mem _ hx)]
    have := h d List.mem_cons_self
    omega
theorem less_none {ds : List Int} {B : Int} (O : DaysOk ds) (hb : 1 ≤ B) : lessN ds B (paceN ds B).1 (paceN ds B).2 = some 0 := by
  have hs := O.sum
  have hm := O.mx
  have hn := (sum_le (lo := 1) (hi := 30) O.dd).1
  rw [Int.one_mul] at hn
  unfold lessN
  by_cases hc : ds.sum ≤ mx ds * B
  · rw [paceN_slow hc]
    show (if mx ds / 1 = 0 ∨ mx ds * B < (ds.length : Int) * 1 then none else some (max (ds.map fun d => max 0 (d - mx ds / 1)).sum (ds.sum - mx ds * B / 1))) = some 0
    rw [Int.ediv_one, Int.ediv_one, if_neg (by rintro (h | h) <;> omega), sum_max0 fun d hd => le_mx hd]
    congr 1
    omega
  · rw [paceN_quick hc]
    obtain ⟨g, g0, g1, g2⟩ := low_mul (a := ds.sum) (b := B) (by omega)
    have hl := low_bd (a := ds.sum) (b := B) (by omega) (by omega)
    generalize (low ds.sum B).1 = x at *
    generalize (low ds.sum B).2 = y at *
    have hq : mx ds ≤ x / y := by
      refine (Int.le_ediv_iff_mul_le (by omega)).mpr ?_
      refine Int.le_of_mul_le_mul_right (a := g) ?_ g0
      rw [Int.mul_assoc, g1, g2]
      omega
    have hxB : x * B = ds.sum * y := by
      rw [← g1, ← g2, Int.mul_assoc, Int.mul_comm g y]
    have hny : (ds.length : Int) * y ≤ x * B := by
      rw [hxB]
      exact Int.mul_le_mul_of_nonneg_right hn (by omega)
    rw [if_neg (by rintro (h | h) <;> omega), sum_max0 fun d hd => Int.le_trans (le_mx hd) hq, hxB, Int.mul_ediv_cancel _ (by omega), Int.sub_self]
    rfl
end G48

/-! the plain law of k54 -/
namespace G48
open PySem PySem.Spec PyProof.Rows L2 Evl
theorem X_le {d : Nat → Int} {h : Nat → Nat} {N b B : Nat} {S D : Int} (R : Rg d h N b B S D) (hD : 0 ≤ D) : ∀ (n r : Nat), r < N → X d h N b n r ≤ ((n * N + posn N b r + 1 : Nat) : Int) * D := by
  have main : ∀ (n p r : Nat), posn N b r = p → r < N → X d h N b n r ≤ ((n * N + posn N b r + 1 : Nat) : Int) * D := by
    intro n
    induction n using Nat.strongRecOn with
    | _ n ihn =>
      intro p
      induction p using Nat.strongRecOn with
      | _ p ihp =>
        intro r hp hr
        have hd := R.dD r hr
        have hN := R.n2
        have step : ∀ (z : Int) (c : Nat), z ≤ (c : Int) * D → c + 1 ≤ n * N + posn N b r + 1 → d r + z ≤ ((n * N + posn N b r + 1 : Nat) : Int) * D := fun z c h1 h2 => by
          have h3 : ((c + 1 : Nat) : Int) * D ≤ ((n * N + posn N b r + 1 : Nat) : Int) * D := Int.mul_le_mul_of_nonneg_right (by omega) hD
          have h4 : ((c + 1 : Nat) : Int) * D = (c : Int) * D + D := by rw [Int.natCast_add]; exact mul_succ' _ _
          omega
        rw [X_rec R hr]
        have hA : (if 0 < n then X d h N b (n - 1) r else 0) ≤ ((n * N + posn N b r : Nat) : Int) * D := by
          by_cases z : 0 < n
          · rw [if_pos z]
            have h1 := ihn (n - 1) (by omega) _ r rfl hr
            have e : n * N = (n - 1) * N + N := by
              have : n = (n - 1) + 1 := by omega
              rw [this, Nat.succ_mul, Nat.add_sub_cancel]
            refine Int.le_trans h1 (Int.mul_le_mul_of_nonneg_right (by omega) hD)
          · rw [if_neg z]
            exact Int.mul_nonneg (by omega) hD
        have hB : (if h r ≤ n then X d h N b (n - h r) (prv N r) else 0) ≤ ((n * N + posn N b r : Nat) : Int) * D := by
          by_cases z : h r ≤ n
          · rw [if_pos z]
            have hpl : posn N b (prv N r) + 1 ≤ N := by
              have := prv_lt hr
              have := R.lb
              unfold posn
              split <;> omega
            by_cases y : 0 < h r
            · have h1 := ihn (n - h r) (by omega) _ (prv N r) rfl (prv_lt hr)
              have e : n * N = (n - h r) * N + h r * N := by
                rw [← Nat.add_mul]
                congr 1
                omega
              have e2 : N ≤ h r * N := Nat.le_mul_of_pos_left N y
              refine Int.le_trans h1 (Int.mul_le_mul_of_nonneg_right (by omega) hD)
            · have e0 : n - h r = n := by omega
              rw [e0]
              have hlt : posn N b (prv N r) < posn N b r := posn_prv hr R.lb fun e => by
                rw [e] at y
                exact y R.hb
              have h1 := ihp _ (by rw [← hp]; exact hlt) (prv N r) rfl (prv_lt hr)
              refine Int.le_trans h1 (Int.mul_le_mul_of_nonneg_right (by omega) hD)
          · rw [if_neg z]
            exact Int.mul_nonneg (by omega) hD
        exact step _ (n * N + posn N b r) (by omega) (Nat.le_refl _)
  exact fun n r hr => main n _ r rfl hr
section
variable {ds hs : List Int}
theorem XR_le (O : RingOk ds hs) {k : Nat} (hk : k < ds.length) (n : Nat) : XR ds hs n k ≤ ((n : Int) + 1) * 240 := by
  have h8 := O.eight
  have om := O.days.mx
  have h1 := X_le O.rg.toRg (by omega) n k hk
  have hp : posn ds.length (bF hs) k + 1 ≤ ds.length := by
    have := O.rg.lb
    unfold posn
    split <;> omega
  have h2 : ((n * ds.length + posn ds.length (bF hs) k + 1 : Nat) : Int) ≤ ((n : Int) + 1) * 8 := by
    have : n * ds.length ≤ n * 8 := Nat.mul_le_mul_left n h8
    omega
  have h3 : ((n * ds.length + posn ds.length (bF hs) k + 1 : Nat) : Int) * mx ds ≤ ((n : Int) + 1) * 8 * mx ds := Int.mul_le_mul_of_nonneg_right h2 (by omega)
  have h4 : ((n : Int) + 1) * 8 * mx ds ≤ ((n : Int) + 1) * 8 * 30 := Int.mul_le_mul_of_nonneg_left (by omega) (by omega)
  have h5 : XR ds hs n k ≤ ((n * ds.length + posn ds.length (bF hs) k + 1 : Nat) : Int) * mx ds := h1
  omega
theorem pace_cross (O : RingOk ds hs) : shN ds hs * (paceN ds hs.sum).2 = ((evN ds hs : Nat) : Int) * (paceN ds hs.sum).1 := by
  have o1 := O.one
  have hS := O.days.sum
  unfold shN evN
  by_cases hc : ds.sum ≤ mx ds * hs.sum
  · rw [if_pos hc, if_pos hc, paceN_slow hc]
    show mx ds * 1 = ((1 : Nat) : Int) * mx ds
    omega
  · rw [if_neg hc, if_neg hc, paceN_quick hc]
    obtain ⟨g, g0, g1, g2⟩ := low_mul (a := ds.sum) (b := hs.sum) (by omega)
    have e : ((hs.sum.toNat : Nat) : Int) = hs.sum := by omega
    rw [e]
    generalize (low ds.sum hs.sum).1 = x at *
    generalize (low ds.sum hs.sum).2 = y at *
    rw [← g1, ← g2, Int.mul_assoc, Int.mul_comm g y, Int.mul_comm x (y * g)]
theorem CntP.uni (O : RingOk ds hs) {k : Nat} (hk : k < ds.length) {t : Int} {m n : Nat} (h1 : CntP ds hs k t m) (h2 : CntP ds hs k t n) : m = n := by
  by_cases a : m < n
  · have := h2.1 m a
    have := h1.2
    omega
  · by_cases b : n < m
    · have := h1.1 n b
      have := h2.2
      omega
    · omega
theorem CntP.at_ (O : RingOk ds hs) {k : Nat} (hk : k < ds.length) (n : Nat) : CntP ds hs k (XR ds hs n k) (n + 1) := by
  have h1 := XR_step O hk n
  have h2 := dF_pos O hk
  exact ⟨fun m hm => XR_mono O hk (by omega), by omega⟩
theorem CntP.before (O : RingOk ds hs) {k : Nat} (hk : k < ds.length) (n : Nat) : CntP ds hs k (XR ds hs n k - 1) n := by
  refine ⟨fun m hm => ?_, by omega⟩
  have h1 := XR_step O hk m
  have h2 := dF_pos O hk
  have h3 := XR_mono O hk (show m + 1 ≤ n by omega)
  omega
theorem CntP.some (O : RingOk ds hs) {k : Nat} (hk : k < ds.length) {t : Int} (ht : 0 ≤ t) : ∃ c, CntP ds hs k t c := by
  have main : ∀ m : Nat, t < XR ds hs m k → ∃ c, CntP ds hs k t c := by
    intro m
    induction m with
    | zero => exact fun h => ⟨0, fun n hn => absurd hn (Nat.not_lt_zero n), h⟩
    | succ m ih =>
      intro h
      by_cases z : t < XR ds hs m k
      · exact ih z
      · exact ⟨m + 1, fun n hn => Int.le_trans (XR_mono O hk (show n ≤ m by omega)) (by omega), h⟩
  exact main (t + 1).toNat (by have := XR_ge O hk (t + 1).toNat; omega)
noncomputable def cntX (ds hs : List Int) (k : Nat) (t : Int) : Nat := Classical.epsilon (CntP ds hs k t)
theorem cntX_ok (O : RingOk ds hs) {k : Nat} (hk : k < ds.length) {t : Int} (ht : 0 ≤ t) : CntP ds hs k t (cntX ds hs k t) := Classical.epsilon_spec (CntP.some O hk ht)
theorem cntX_eq (O : RingOk ds hs) {k : Nat} (hk : k < ds.length) {t : Int} (ht : 0 ≤ t) {n : Nat} (h : CntP ds hs k t n) : cntX ds hs k t = n := CntP.uni O hk (cntX_ok O hk ht) h
theorem Sg_le {f g : Nat → Int} {N : Nat} (hfg : ∀ r, r < N → f r ≤ g r) : ∀ {k r : Nat}, r < N → Sg f N r k ≤ Sg g N r k
  | 0, _, _ => Int.le_refl _
  | k + 1, r, hr => by
    show f r + Sg f N (prv N r) k ≤ g r + Sg g N (prv N r) k
    have := hfg r hr
    have := Sg_le hfg (k := k) (prv_lt hr)
    omega
theorem Sg_lin {a c e : Nat → Int} {N : Nat} : ∀ {k r : Nat}, Sg (fun i => a i + c i - e i) N r k = Sg a N r k + Sg c N r k - Sg e N r k
  | 0, _ => rfl
  | k + 1, r => by
    show a r + c r - e r + Sg _ N (prv N r) k = a r + Sg a N (prv N r) k + (c r + Sg c N (prv N r) k) - (e r + Sg e N (prv N r) k)
    have := Sg_lin (a := a) (c := c) (e := e) (N := N) (k := k) (r := prv N r)
    omega
theorem Sg_prv {f : Nat → Int} {N : Nat} : ∀ {k r : Nat}, Sg (fun i => f (prv N i)) N r k = Sg f N (prv N r) k
  | 0, _ => rfl
  | k + 1, r => by
    show f (prv N r) + Sg _ N (prv N r) k = f (prv N r) + Sg f N (prv N (prv N r)) k
    rw [Sg_prv (f := f) (N := N) (k := k) (r := prv N r)]
theorem Sg_cong {f g : Nat → Int} {N : Nat} (hfg : ∀ r, r < N → f r = g r) {k r : Nat} (hr : r < N) : Sg f N r k = Sg g N r k := by
  have h1 := Sg_le (f := f) (g := g) (N := N) (k := k) (fun r hr => Int.le_of_eq (hfg r hr)) hr
  have h2 := Sg_le (f := g) (g := f) (N := N) (k := k) (fun r hr => Int.le_of_eq (hfg r hr).symm) hr
  omega
theorem Sg_const {c : Int} {N : Nat} : ∀ {k r : Nat}, Sg (fun _ => c) N r k = (k : Int) * c
  | 0, _ => by
    show (0 : Int) = ((0 : Nat) : Int) * c
    rw [show ((0 : Nat) : Int) = 0 from rfl, Int.zero_mul]
  | k + 1, r => by
    show c + Sg (fun _ => c) N (prv N r) k = _
    rw [Sg_const (c := c) (N := N) (k := k), Int.natCast_add]
    have : ((k : Int) + ((1 : Nat) : Int)) * c = (k : Int) * c + c := mul_succ' _ _
    omega
/-- the heaps' sum on a day -/
theorem heaps_sum (O : RingOk ds hs) {t : Int} (ht : 0 ≤ t) {vs : List Int} (hl : vs.length = ds.length) (hv : ∀ j, j < ds.length → vs.getD j 0 = (hF hs j : Nat) + (cntX ds hs (prv ds.length j) t : Nat) - (cntX ds hs j (t + dF ds j) : Nat)) :
    hs.sum - ds.length ≤ vs.sum ∧ vs.sum < hs.sum := by
  have G := O.rg
  have o1 := O.one
  have o2 := O.two
  have hN0 : 0 < ds.length := by omega
  have e1 : vs.sum = Sg (fun i => vs.getD i 0) ds.length 0 ds.length := (Sg_tot hl hN0).symm
  have e2 : Sg (fun i => vs.getD i 0) ds.length 0 ds.length = Sg (fun j => ((hF hs j : Nat) : Int) + ((cntX ds hs (prv ds.length j) t : Nat) : Int) - ((cntX ds hs j (t + dF ds j) : Nat) : Int)) ds.length 0 ds.length := Sg_cong hv hN0
  rw [e2, Sg_lin, Sg_prv (f := fun i => ((cntX ds hs i t : Nat) : Int))] at e1
  have e3 : Sg (fun i => ((hF hs i : Nat) : Int)) ds.length 0 ds.length = hs.sum := by
    have := G.tB 0 hN0
    unfold Hs at this
    omega
  have e4 : Sg (fun i => ((cntX ds hs i t : Nat) : Int)) ds.length (prv ds.length 0) ds.length = Sg (fun i => ((cntX ds hs i t : Nat) : Int)) ds.length 0 ds.length := by
    rw [Sg_N _ (prv_lt hN0), Sg_N _ hN0]
  rw [e3, e4] at e1
  have lo : ∀ j, j < ds.length → ((cntX ds hs j t : Nat) : Int) ≤ ((cntX ds hs j (t + dF ds j) : Nat) : Int) := fun j hj => by
    have dp := dF_pos O hj
    have c1 := cntX_ok O hj ht
    have c2 := cntX_ok O hj (show 0 ≤ t + dF ds j by omega)
    by_cases z : cntX ds hs j (t + dF ds j) < cntX ds hs j t
    · have := c1.1 _ z
      have := c2.2
      omega
    · omega
  have hi : ∀ j, j < ds.length → ((cntX ds hs j (t + dF ds j) : Nat) : Int) + 0 - 0 ≤ ((cntX ds hs j t : Nat) : Int) + 1 - 0 := fun j hj => by
    have dp := dF_pos O hj
    have c1 := cntX_ok O hj ht
    have c2 := cntX_ok O hj (show 0 ≤ t + dF ds j by omega)
    by_cases z : cntX ds hs j t + 1 < cntX ds hs j (t + dF ds j)
    · have h1 := c2.1 _ z
      have h2 := XR_step O hj (cntX ds hs j t)
      have h3 := c1.2
      omega
    · omega
  have s1 := Sg_le (k := ds.length) hi hN0
  rw [Sg_lin, Sg_lin, Sg_const, Sg_const] at s1
  have z0 : ((ds.length : Nat) : Int) * 0 = 0 := Int.mul_zero _
  rw [z0, Int.mul_one] at s1
  refine ⟨by omega, ?_⟩
  by_cases hlt : vs.sum < hs.sum
  · exact hlt
  · exfalso
    have s2 := Sg_le (k := ds.length) lo hN0
    -- none of them reads
    have eq : Sg (fun j => ((cntX ds hs j (t + dF ds j) : Nat) : Int)) ds.length 0 ds.length = Sg (fun i => ((cntX ds hs i t : Nat) : Int)) ds.length 0 ds.length := by omega
    have each : ∀ j, j < ds.length → cntX ds hs j (t + dF ds j) = cntX ds hs j t := by
      intro j hj
      have hper := Sg_N (fun j => ((cntX ds hs j (t + dF ds j) : Nat) : Int)) hj
      have hper2 := Sg_N (fun i => ((cntX ds hs i t : Nat) : Int)) hj
      rw [Sg_N _ hN0, Sg_N _ hN0, ← hper, ← hper2] at eq
      have hsp : ∀ f : Nat → Int, Sg f ds.length j ds.length = f j + Sg f ds.length (prv ds.length j) (ds.length - 1) := fun f => by
        rw [show ds.length = (ds.length - 1) + 1 by omega]
        show f j + _ = _
        rw [Nat.add_sub_cancel]
      rw [hsp, hsp] at eq
      have h1 := Sg_le (k := ds.length - 1) lo (prv_lt hj)
      have h2 := lo j hj
      omega
    have all : ∀ j, j < ds.length → ((hF hs j : Nat) : Int) + ((cntX ds hs (prv ds.length j) t : Nat) : Int) - 0 ≤ ((cntX ds hs j t : Nat) : Int) + 0 - 0 := by
      intro j hj
      have dp := dF_pos O hj
      have hp := prv_lt hj
      have c1 := cntX_ok O hj ht
      have c2 := cntX_ok O hj (show 0 ≤ t + dF ds j by omega)
      have cp := cntX_ok O hp ht
      rw [each j hj] at c2
      have h1 := c2.2
      have hrec : XR ds hs (cntX ds hs j t) j = dF ds j + max (if 0 < cntX ds hs j t then XR ds hs (cntX ds hs j t - 1) j else 0) (if hF hs j ≤ cntX ds hs j t then XR ds hs (cntX ds hs j t - hF hs j) (prv ds.length j) else 0) := X_rec G.toRg hj
      have hA : (if 0 < cntX ds hs j t then XR ds hs (cntX ds hs j t - 1) j else 0) ≤ t := by
        by_cases z : 0 < cntX ds hs j t
        · rw [if_pos z]
          exact c1.1 _ (by omega)
        · rw [if_neg z]
          exact ht
      by_cases z : hF hs j ≤ cntX ds hs j t
      · rw [if_pos z] at hrec
        have hgt : t < XR ds hs (cntX ds hs j t - hF hs j) (prv ds.length j) := by omega
        by_cases y : cntX ds hs j t - hF hs j < cntX ds hs (prv ds.length j) t
        · have := cp.1 _ y
          omega
        · omega
      · rw [if_neg z] at hrec
        omega
    have s3 := Sg_le (k := ds.length) all hN0
    rw [Sg_lin, Sg_lin, Sg_const, Sg_prv (f := fun i => ((cntX ds hs i t : Nat) : Int)), e3, e4] at s3
    omega
end
end G48

/-! rings from another reader on -/
namespace G48
open PySem PySem.Spec PyProof.Rows L2 Evl
section
variable {ds hs ds' hs' : List Int}
/-- a ring whose readers stand otherwise, in the same order round -/
structure Turn (ds hs ds' hs' : List Int) (τ : Nat → Nat) : Prop where
  len : ds'.length = ds.length
  lt : ∀ j, j < ds.length → τ j < ds.length
  d : ∀ j, j < ds.length → dF ds' j = dF ds (τ j)
  h : ∀ j, j < ds.length → hF hs' j = hF hs (τ j)
  p : ∀ j, j < ds.length → τ (prv ds.length j) = prv ds.length (τ j)
theorem XR_turn {τ : Nat → Nat} (O : RingOk ds hs) (O' : RingOk ds' hs') (T : Turn ds hs ds' hs' τ) : ∀ (n j : Nat), j < ds.length → XR ds' hs' n j = XR ds hs n (τ j) := by
  have main : ∀ (n q j : Nat), posn ds.length (bF hs) (τ j) = q → j < ds.length → XR ds' hs' n j = XR ds hs n (τ j) := by
    intro n
    induction n using Nat.strongRecOn with
    | _ n ihn =>
      intro q
      induction q using Nat.strongRecOn with
      | _ q ihq =>
        intro j hq hj
        have hj' : j < ds'.length := by rw [T.len]; exact hj
        have hp := prv_lt hj
        have r1 : XR ds' hs' n j = dF ds' j + max (if 0 < n then XR ds' hs' (n - 1) j else 0) (if hF hs' j ≤ n then XR ds' hs' (n - hF hs' j) (prv ds'.length j) else 0) := X_rec O'.rg.toRg hj'
        have r2 : XR ds hs n (τ j) = dF ds (τ j) + max (if 0 < n then XR ds hs (n - 1) (τ j) else 0) (if hF hs (τ j) ≤ n then XR ds hs (n - hF hs (τ j)) (prv ds.length (τ j)) else 0) := X_rec O.rg.toRg (T.lt j hj)
        rw [r1, r2, T.d j hj, T.h j hj, T.len, ← T.p j hj]
        have e1 : (if 0 < n then XR ds' hs' (n - 1) j else 0) = if 0 < n then XR ds hs (n - 1) (τ j) else 0 := by
          by_cases z : 0 < n
          · rw [if_pos z, if_pos z, ihn (n - 1) (by omega) _ j rfl hj]
          · rw [if_neg z, if_neg z]
        have e2 : (if hF hs (τ j) ≤ n then XR ds' hs' (n - hF hs (τ j)) (prv ds.length j) else 0) = if hF hs (τ j) ≤ n then XR ds hs (n - hF hs (τ j)) (τ (prv ds.length j)) else 0 := by
          by_cases z : hF hs (τ j) ≤ n
          · rw [if_pos z, if_pos z]
            by_cases y : 0 < hF hs (τ j)
            · exact ihn (n - hF hs (τ j)) (by omega) _ _ rfl hp
            · have e0 : n - hF hs (τ j) = n := by omega
              rw [e0]
              refine ihq _ ?_ _ rfl hp
              rw [T.p j hj, ← hq]
              refine posn_prv (T.lt j hj) O.rg.lb fun e => ?_
              rw [e] at y
              exact y O.rg.hb
          · rw [if_neg z, if_neg z]
        rw [e1, e2]
  exact fun n j hj => main n _ j rfl hj
/-- a list from place s on -/
def rot (s : Nat) (xs : List Int) : List Int := xs.drop s ++ xs.take s
def tau (N s j : Nat) : Nat := if j + s < N then j + s else j + s - N
theorem rot_len {s : Nat} {xs : List Int} (h : s ≤ xs.length) : (rot s xs).length = xs.length := by
  unfold rot
  rw [List.length_append, List.length_drop, List.length_take]
  omega
theorem rot_get {s j : Nat} {xs : List Int} (hs : s < xs.length) (hj : j < xs.length) : (rot s xs)[j]? = xs[tau xs.length s j]? := by
  unfold rot tau
  by_cases z : j + s < xs.length
  · rw [if_pos z, List.getElem?_append_left (by rw [List.length_drop]; omega), List.getElem?_drop, Nat.add_comm]
  · rw [if_neg z, List.getElem?_append_right (by rw [List.length_drop]; omega), List.length_drop, List.getElem?_take_of_lt (by omega)]
    congr 1
    omega
theorem rot_sum {s : Nat} {xs : List Int} : (rot s xs).sum = xs.sum := by
  unfold rot
  rw [List.sum_append, Int.add_comm, ← List.sum_append, List.take_append_drop]
theorem rot_mem {s : Nat} {xs : List Int} {x : Int} : x ∈ rot s xs ↔ x ∈ xs := by
  unfold rot
  constructor
  · intro h
    rcases List.mem_append.mp h with h | h
    · exact List.mem_of_mem_drop h
    · exact List.mem_of_mem_take h
  · intro h
    rw [← List.take_append_drop s xs] at h
    rcases List.mem_append.mp h with h | h
    · exact List.mem_append_right _ h
    · exact List.mem_append_left _ h
theorem rot_mx {s : Nat} {xs : List Int} (hn : xs ≠ []) : mx (rot s xs) = mx xs := by
  have h1 := mx_mem hn
  exact (mx_eq (rot_mem.mpr h1) fun y hy => le_mx (rot_mem.mp hy)).symm
theorem RingOk.rot {s : Nat} (O : RingOk ds hs) (h : s < ds.length) : RingOk (rot s ds) (G48.rot s hs) := by
  have h' : s ≤ hs.length := by rw [O.len]; omega
  exact ⟨by rw [rot_len (by omega)]; exact O.two, by rw [rot_len (by omega)]; exact O.eight, by rw [rot_len h', rot_len (by omega)]; exact O.len, fun d hd => O.dd d (rot_mem.mp hd), fun x hx => O.hh x (rot_mem.mp hx), by rw [rot_sum]; exact O.one, by rw [rot_sum]; exact O.twelve⟩
theorem Turn.rot {s : Nat} (O : RingOk ds hs) (h : s < ds.length) : Turn ds hs (rot s ds) (G48.rot s hs) (tau ds.length s) := by
  refine ⟨rot_len (by omega), fun j hj => ?_, fun j hj => ?_, fun j hj => ?_, fun j hj => ?_⟩
  · unfold tau
    split <;> omega
  · unfold dF
    simp only [List.getD]
    rw [rot_get h hj]
  · unfold hF
    simp only [List.getD]
    rw [rot_get (by rw [O.len]; exact h) (by rw [O.len]; exact hj), O.len]
  · unfold tau prv
    split <;> split <;> split <;> (try split) <;> omega
theorem rot_pace {s : Nat} (O : RingOk ds hs) : paceN (rot s ds) (rot s hs).sum = paceN ds hs.sum := by
  unfold paceN
  rw [rot_sum, rot_sum, rot_mx O.days.ne]
theorem rot_ev {s : Nat} (O : RingOk ds hs) : evN (rot s ds) (rot s hs) = evN ds hs ∧ shN (rot s ds) (rot s hs) = shN ds hs := by
  unfold evN shN
  rw [rot_sum, rot_sum, rot_mx O.days.ne]
  exact ⟨rfl, rfl⟩
theorem SetF.uni {F F' : Nat} (h1 : SetF ds hs F) (h2 : SetF ds hs F') : F = F' := by
  by_cases a : F < F'
  · rcases h2.2 with z | z
    · omega
    · exact absurd (h1.1 (F' - 1) (by omega)) z
  · by_cases b : F' < F
    · rcases h1.2 with z | z
      · omega
      · exact absurd (h2.1 (F - 1) (by omega)) z
    · omega
end
end G48

/-! o >> n by the own __rshift__ -/
namespace G48
open PySem PySem.Spec PyProof.Rows L2 Evl
def rShr (C : Addr) (sp : Sp) (E : XK) : R2 := fun x y H Q => ∃ (a : Addr) (n : Int), x = .ref a ∧ y = .int n ∧ (∃ dx fs, H a = some (.ins C dx fs)) ∧ sp [.ref a, .int n] H (fun v H2 => ∃ p, v = .ref p ∧ Q v H2) E
section
variable {X : Cx} {k j : Nat} {ps : List Str} {sp : Sp} {E : XK} {C : Addr}
theorem op_shrO (D : Cf X.prog X.w X.K X.mg X.base C k "__rshift__" ps sp) (S : ShrC X.K C) (hr : Room j X.A) (hx : Passes (L2.CX X.prog X.w) X E := by exact passL) (hk : k ≤ j := by decide) : OpR X (binaryOp .RShift) (rShr C sp E) := by
  intro pins s σ H x y v u Q I rx ry h
  obtain ⟨a, n, rfl, rfl, ⟨dx, fs, ea⟩, q⟩ := h
  obtain rfl : v = Value.ref a := rx
  obtain ⟨t, rfl⟩ := ry
  obtain ⟨f, fd, hm, hfn, b, F⟩ := D.ex
  obtain ⟨mA, O, _, _, _, _⟩ := ins_get I.hok ea
  obtain ⟨od, J, _⟩ := O.look
  obtain ⟨m0, fr⟩ := I.fr
  obtain ⟨fo, h1⟩ := S.h1
  obtain ⟨ro, h2⟩ := S.h2
  refine PySem.W.ksp_binT (T := "int") fr I.ok.mod.kin J rfl S.hc hm.at_ hm.fn S.hr (.inl rfl) h1 h2 S.hsub ?_
  refine thn (run_fn F (hr.mono hk) b .nil hx I (us := [.ref a, .int n t]) (vs := [.ref a, .int n]) (.cons rfl (.cons ⟨t, rfl⟩ .nil)) q) fun w s1 hw => ?_
  obtain ⟨v1, H1, I1, rv, p, ev, q1⟩ := hw
  subst ev
  obtain rfl : w = Value.ref p := rv
  exact ⟨.ref p, H1, I1, rfl, q1⟩
end
end G48

/-! a number out of range -/
namespace G48
open PySem PySem.Spec PyProof.Rows L2 Evl
/-! the steps -/
local macro_rules | `(tactic| walk_at "as") => `(tactic| with_reducible assumption)
local macro_rules | `(tactic| walk_at "hp") => `(tactic| first
  | with_reducible assumption
  | ((with_reducible apply SqT.of); walk_at "as")
  | ((with_reducible apply SqL.of); walk_at "as")
  | ((with_reducible apply ex_at); (focus walk_at "as"); walk_at "hp")
  | ((with_reducible apply ex_t); (focus walk_at "as"); walk_at "hp")
  | ((with_reducible apply ex_l); (focus walk_at "as"); walk_at "hp")
  | ((with_reducible apply exb_ins); (focus walk_at "as"); (focus walk_at "hp"); walk_at "hp")
  | ((with_reducible apply exb_t); (focus walk_at "as"); (focus walk_at "hp"); walk_at "hp")
  | ((with_reducible apply exb_at); (focus walk_at "as"); (focus walk_at "ne"); walk_at "hp")
  | ((with_reducible apply exb_l); (focus walk_at "as"); (focus walk_at "ne"); walk_at "hp"))
local macro_rules | `(tactic| walk_at "ne") => `(tactic| first
  | with_reducible assumption
  | exact Ne.symm (by with_reducible assumption)
  | exact ne_of_none (by with_reducible assumption) (by with_reducible assumption)
  | exact Ne.symm (ne_of_none (by with_reducible assumption) (by with_reducible assumption)))
local macro_rules | `(tactic| walk_at "tr") => `(tactic| first
  | rfl
  | with_reducible assumption
  | exact decide_eq_true (by first | with_reducible assumption | omega)
  | exact decide_eq_false (by first | with_reducible assumption | omega)
  | (rw [Bool.not_eq_true']; exact decide_eq_false (by first | with_reducible assumption | omega))
  | (rw [Bool.not_eq_false']; exact decide_eq_true (by first | with_reducible assumption | omega)))
local macro_rules | `(tactic| walk_at "nn") => `(tactic| first | with_reducible assumption | (exact List.cons_ne_nil _ _))
local macro_rules | `(tactic| walk_at "sz") => `(tactic| first | (exact sz1000 (Nat.le_of_ble_eq_true rfl)) | (refine sz1000 ?_; simp only [List.length_map, List.length_cons, List.length_nil, List.length_append]; omega) | with_reducible assumption)
local macro_rules | `(tactic| walk_at "sl") => `(tactic| first | with_reducible assumption | (refine lt1000 ?_; simp only [List.length_map, List.length_cons, List.length_nil, List.length_append]; omega) | (refine lt1000 ?_; omega))
local macro_rules | `(tactic| walk_at "ix") => `(tactic| first | rfl | with_reducible assumption)
local macro_rules | `(tactic| walk_at "rg") => `(tactic| exact RgOk.of_le (by omega) (by omega) (by omega) (by omega))
local macro_rules | `(tactic| walk_at "sp") => `(tactic| fail "sp")
local macro_rules | `(tactic| walk_at "cl") => `(tactic| with_reducible assumption)
local macro_rules | `(tactic| walk_at "lk") => `(tactic| with_reducible assumption)
local macro_rules | `(tactic| walk_at "it") => `(tactic| first | rfl | with_reducible assumption | exact atI_nat (by with_reducible assumption))
local macro_rules | `(tactic| walk_at "g1") => `(tactic| first
  | (with_reducible apply g_var); (focus rfl)
  | with_reducible apply g_c
  | with_reducible apply g_seq
  | with_reducible apply g_asg
  | with_reducible apply gg_name
  | with_reducible apply g_op
  | with_reducible apply g_cons
  | with_reducible apply g_nil
  | with_reducible apply g_cb
  | with_reducible apply g_fld
  | ((with_reducible apply g_kFld); (focus walk_at "hp"); (focus walk_at "cl"); (focus walk_at "cl"); (focus walk_at "lk"))
  | with_reducible apply g_call
  | walk_at "sp"
  | with_reducible apply g_ret
  | with_reducible apply g_drop
  | with_reducible apply g_test
  | with_reducible apply g_B
  | with_reducible apply g_kTest
  | with_reducible apply g_ifS
  | with_reducible apply g_kIfST
  | with_reducible apply g_kIfSF
  | with_reducible apply g_add
  | with_reducible apply g_sub
  | with_reducible apply g_lt
  | with_reducible apply g_le
  | with_reducible apply g_gt
  | with_reducible apply g_ge
  | with_reducible apply g_eqI
  | with_reducible apply g_neI
  | ((with_reducible apply g_mod); (focus first | decide | omega))
  | ((with_reducible apply g_mul); (focus first | (left; constructor <;> omega) | (right; constructor <;> omega)))
  | ((with_reducible apply g_fdiv); (focus (constructor <;> omega)))
  | ((with_reducible apply g_ixT); (focus walk_at "hp"); (focus walk_at "it"))
  | ((with_reducible apply g_ixL); (focus walk_at "hp"); (focus walk_at "it"))
  | with_reducible apply g_and
  | with_reducible apply g_or
  | with_reducible apply g_not
  | with_reducible apply g_kNotT
  | with_reducible apply g_kNotF
  | with_reducible apply g_if
  | with_reducible apply g_kAndT
  | with_reducible apply g_kAndF
  | with_reducible apply g_kOrT
  | with_reducible apply g_kOrF
  | with_reducible apply g_kIfT
  | with_reducible apply g_kIfF
  | with_reducible apply g_next
  | with_reducible apply g_andV
  | with_reducible apply g_orV
  | with_reducible apply g_notV
  | with_reducible apply g_kNotV
  | with_reducible apply g_kAndVT
  | with_reducible apply g_kAndVF
  | with_reducible apply g_chain
  | with_reducible apply g_kChainT
  | with_reducible apply g_kChainF
  | with_reducible apply g_tup
  | with_reducible apply g_lst
  | ((with_reducible apply g_kT); (focus walk_at "sz"); intro _ _ _ _ _)
  | ((with_reducible apply g_kL); (focus walk_at "sz"); intro _ _ _ _ _)
  | with_reducible apply g_un
  | with_reducible apply g_neg
  | with_reducible apply g_meth
  | ((with_reducible apply g_kMeth); (focus walk_at "hp"); (focus walk_at "lk"))
  | with_reducible apply g_prop
  | ((with_reducible apply g_kProp); (focus walk_at "hp"))
  | with_reducible apply g_make
  | with_reducible apply g_par
  | with_reducible apply g_kPar
  | ((with_reducible apply g_lenLM); (focus walk_at "hp"))
  | ((with_reducible apply g_lenTM); (focus walk_at "hp"))
  | ((with_reducible apply g_lenL); (focus walk_at "hp"))
  | ((with_reducible apply g_lenT); (focus walk_at "hp"))
  | with_reducible apply g_int1
  | with_reducible apply g_max2
  | with_reducible apply g_min2
  | ((with_reducible apply g_listL); (focus walk_at "hp"); intro _ _ _ _ _)
  | ((with_reducible apply g_listT); (focus walk_at "hp"); intro _ _ _ _ _)
  | ((with_reducible apply g_tupL); (focus walk_at "hp"); intro _ _ _ _ _)
  | ((with_reducible apply g_sum); (focus walk_at "hp"))
  | with_reducible apply g_sfld
  | with_reducible apply g_sl
  | with_reducible apply g_nopart
  | with_reducible apply g_part
  | with_reducible apply g_kPart
  | with_reducible apply g_lstRg
  | with_reducible apply g_rg1
  | with_reducible apply g_kRg1
  | with_reducible apply g_bm
  | with_reducible apply gg_sub
  | ((with_reducible apply gg_tup); (focus walk_at "hp"); (focus rfl))
  | with_reducible apply gg_cons
  | with_reducible apply gg_nil
  | with_reducible apply g_forL
  | with_reducible apply g_forT
  | with_reducible apply g_forR1
  | with_reducible apply g_forR2
  | with_reducible apply g_forE
  | with_reducible apply g_forEL
  | ((with_reducible apply g_maxT); (focus walk_at "hp"); (focus walk_at "nn"))
  | ((with_reducible apply g_maxL); (focus walk_at "hp"); (focus walk_at "nn"))
  | ((with_reducible apply g_catA); (focus walk_at "hp"); (focus walk_at "hp"); (focus walk_at "sz"); intro _ _ _ _)
  | ((with_reducible apply g_slA); (focus walk_at "hp"); intro _ _ _ _)
  | ((with_reducible apply g_tupD); (focus walk_at "hp"); intro _ _ _ _ _)
  | ((with_reducible apply g_setL); (focus walk_at "hp"); (focus walk_at "ix"); intro _ _ _)
  | ((with_reducible apply g_append); (focus walk_at "hp"); (focus walk_at "sl"); intro _ _ _)
  | ((with_reducible apply g_aug); (focus rfl))
  | with_reducible apply g_ipI
  | with_reducible apply g_retN
  | with_reducible apply g_lcR1
  | with_reducible apply g_lcR2
  | with_reducible apply g_lcL
  | with_reducible apply g_lcU
  | with_reducible apply g_lcN
  | ((with_reducible apply g_kLcG); (focus rfl))
  | with_reducible apply g_yes
  | with_reducible apply g_kLcTT
  | with_reducible apply g_kLcTF
  | ((with_reducible apply g_kLcE); (focus walk_at "hp"); (focus walk_at "sl"); intro _ _ _)
  | ((with_reducible apply g_pow); (focus (constructor <;> (try constructor) <;> decide)))
  | ((with_reducible apply g_kLRg); (focus walk_at "rg"); intro _ _ _ _ _)
  | ((with_reducible apply g_cat); (focus walk_at "hp"); (focus walk_at "hp"); (focus walk_at "sz"); intro _ _ _ _ _)
  | ((with_reducible apply g_slL); (focus walk_at "hp"); intro _ _ _ _ _)
  | with_reducible apply g_bmT
  | with_reducible apply g_break
  | with_reducible apply g_cont)
local macro_rules | `(tactic| walk_at "g0") => `(tactic| try dsimp only [L2.cxOf, L2.Cx.nox, L2.Cx.wish])
local macro_rules | `(tactic| walk_at "yn") => `(tactic| first
  | ((with_reducible apply y_kIfS); (focus walk_at "tr"))
  | ((with_reducible apply n_kIfS); (focus walk_at "tr"))
  | ((with_reducible apply y_kOr); (focus walk_at "tr"))
  | ((with_reducible apply n_kOr); (focus walk_at "tr"))
  | ((with_reducible apply y_kAnd); (focus walk_at "tr"))
  | ((with_reducible apply n_kAnd); (focus walk_at "tr"))
  | ((with_reducible apply y_kNot); (focus walk_at "tr"))
  | ((with_reducible apply n_kNot); (focus walk_at "tr"))
  | ((with_reducible apply y_kIf); (focus walk_at "tr"))
  | ((with_reducible apply n_kIf); (focus walk_at "tr"))
  | ((with_reducible apply y_kAndV); (focus walk_at "tr"))
  | ((with_reducible apply n_kAndV); (focus walk_at "tr"))
  | ((with_reducible apply y_kOrV); (focus walk_at "tr"))
  | ((with_reducible apply n_kOrV); (focus walk_at "tr"))
  | ((with_reducible apply y_kChain); (focus walk_at "tr"))
  | ((with_reducible apply n_kChain); (focus walk_at "tr"))
  | ((with_reducible apply y_kLcT); (focus walk_at "tr"))
  | ((with_reducible apply n_kLcT); (focus walk_at "tr"))
  | ((with_reducible apply y_kWh); (focus walk_at "tr"))
  | ((with_reducible apply n_kWh); (focus walk_at "tr")))
local macro_rules | `(tactic| walk_at "go") => `(tactic| repeat (first | walk_at "g1" | walk_at "yn"))
local macro_rules | `(tactic| walk_at "hp") => `(tactic| first
  | ((with_reducible apply RingIn.ex); (focus walk_at "as"); walk_at "hp")
  | ((with_reducible apply RingAt.ex); (focus walk_at "as"); walk_at "hp")
  | ((with_reducible apply RingIn.exb); (focus walk_at "as"); (focus walk_at "hp"); walk_at "hp")
  | ((with_reducible apply RingAt.exb); (focus walk_at "as"); (focus walk_at "hp"); walk_at "hp")
  | ((with_reducible apply TupK.ex); (focus walk_at "as"); walk_at "hp")
  | ((with_reducible apply TupK.exb); (focus walk_at "as"); (focus walk_at "hp"); walk_at "hp"))
local macro_rules | `(tactic| walk_at "lk") => `(tactic| first | with_reducible exact rf_spans | with_reducible exact rf_heaps | with_reducible exact rf_total | with_reducible exact rf_nr | with_reducible exact rf_wd)
local macro_rules | `(tactic| walk_at "sp") => `(tactic| first
  | ((with_reducible apply g_isiTup); (focus walk_at "hp"))
  | ((with_reducible apply g_isiLst); (focus walk_at "hp"))
  | ((with_reducible apply g_isint); (focus omega); (focus omega))
  | ((with_reducible apply g_checkn); (focus omega); (focus omega))
  | ((with_reducible apply g_rbooks); (focus walk_at "hp"))
  | ((with_reducible apply g_rpace); (focus walk_at "hp"); intro _ _ _ _)
  | ((with_reducible apply g_rlen); (focus walk_at "hp"))
  | ((with_reducible apply g_rneed); (focus walk_at "hp"); (focus omega))
  | ((with_reducible apply g_rneedM); (focus walk_at "hp"))
  | ((with_reducible apply g_rwithM); (focus walk_at "hp"))
  | ((with_reducible apply g_rspans); (focus walk_at "hp"); (focus with_reducible assumption))
  | ((with_reducible apply g_rheaps); (focus walk_at "hp"); (focus with_reducible assumption))
  | ((with_reducible apply g_rtotal); (focus walk_at "hp"); (focus with_reducible assumption)))

local macro_rules | `(tactic| walk_at "sp") => `(tactic| first
  | ((with_reducible apply g_taken); (focus walk_at "hp"); (focus first | decide | omega); (focus first | decide | omega); intro _ _ _ _ _ _))
local macro_rules | `(tactic| walk_at "hp") => `(tactic| first
  | ((with_reducible apply DiceAt.ex); (focus walk_at "as"); walk_at "hp")
  | ((with_reducible apply exb_tD); (focus walk_at "as"); (focus walk_at "hp"); walk_at "hp")
  | ((with_reducible apply exb_insD); (focus walk_at "as"); (focus walk_at "hp"); walk_at "hp")
  | ((with_reducible apply RingIn.exD); (focus walk_at "as"); (focus walk_at "hp"); walk_at "hp")
  | ((with_reducible apply TupK.exD); (focus walk_at "as"); (focus walk_at "hp"); walk_at "hp"))

section
variable {P : Program} {w : World} {K : PySem.W.Frag} {mg : Str → Option Value} {base : Heap} {C CC : Addr}
theorem g_notint {H : Hp} {Q : VK} {E : XK} {v : V} {lo hi : Int} (p : Pl K H v) (h : inB lo hi v = false) (q : Q (.bl false) H) : sp_is_integer K [v, .int lo, .int hi] H Q E := ⟨_, lo, hi, rfl, p, by rw [h]; exact q⟩
def sp_check_numberX (K : PySem.W.Frag) : Sp := fun vs H Q E => ∃ v lo hi, vs = [v, .int lo, .int hi] ∧ Pl K H v ∧ inB lo hi v = false ∧ E (.ref (He.ga K "InvalidNumber")) none H
theorem okx_check_number (Z : Blt mg) (Exc_InvalidNumber : ExcT K (He.ga K "InvalidNumber") 4) (g_InvalidNumber : mg "InvalidNumber" = some (.ref (He.ga K "InvalidNumber"))) (D_is_integer : Df P w K mg base 1 "is_integer" ["value", "low", "high"] (sp_is_integer K)) (G : GFun K mg "check_number" s_check_number) : Df P w K mg base 2 "check_number" ["number", "low", "high"] (sp_check_numberX K) := by
  refine Df.of G sc_check_number b_check_number (fun vs H Q E h => ?_) (fun f cdv A outer s H vs Q E hr h => ?_)
  · obtain ⟨v, lo, hi, rfl, _⟩ := h
    rfl
  · obtain ⟨v, lo, hi, rfl, hp, hb, q⟩ := h
    refine ⟨_, (pss_one (ps_if (pt_not (pt_val (pg D_is_integer hr (pa_cons (pv 0) (pa_cons (pv 1) (pa_cons (pv 2) pa_nil)))))) (pss_one (psr_own Exc_InvalidNumber g_InvalidNumber rfl (takes_of rfl rfl rfl rfl))) pss_nil)), ?_⟩
    walk_at "g0"
    walk_at "go"
    refine g_notint hp hb ?_
    walk_at "go"
    exact q
theorem g_checkX {H : Hp} {Q : VK} {E : XK} {v : V} {lo hi : Int} (p : Pl K H v) (h : inB lo hi v = false) (q : E (.ref (He.ga K "InvalidNumber")) none H) : sp_check_numberX K [v, .int lo, .int hi] H Q E := ⟨v, lo, hi, rfl, p, h, q⟩
def sp_pace_withX (K : PySem.W.Frag) : Sp := fun vs H Q E => ∃ (r : Addr) (v : V), vs = [.ref r, v] ∧ Pl K H v ∧ inB 1 1000 v = false ∧ E (.ref (He.ga K "InvalidNumber")) none H
end
end G48

/-! tuples turned about; own operators with a value of another kind; a class method with a star parameter -/
namespace G48
open PySem PySem.Spec PyProof.Rows L2 Evl
/-! ### t[::-1] -/
theorem places_rev (n : Nat) : Builtin.Slice.slicePlaces ((n : Int) - 1) (-1) (-1) = n := by
  unfold Builtin.Slice.slicePlaces
  rw [if_neg (by decide : ¬ ((-1 : Int) > 0)), show (- -1 : Int) = 1 by decide, Int.ediv_one]
  split <;> omega
theorem fm_congr {α β : Type} {f g : α → Option β} : ∀ {xs : List α}, (∀ x ∈ xs, f x = g x) → xs.filterMap f = xs.filterMap g
  | [], _ => rfl
  | x :: xs, h => by
    rw [List.filterMap_cons, List.filterMap_cons, h x (List.mem_cons_self ..), fm_congr fun y hy => h y (List.mem_cons_of_mem _ hy)]
theorem pick_rev (xs : Array Value) : ((List.range xs.size).filterMap fun (k : Nat) => xs[(((xs.size : Int) - 1) + (k : Int) * (-1)).toNat]?).toArray = xs.toList.reverse.toArray := by
  have h := PySem.W.krv_pick xs
  unfold slicePick at h
  rw [PySem.W.krv_bounds] at h
  rw [← h]
  show _ = ((sliceRange ((xs.size : Int) - 1) (-1) (-1)).filterMap (xs[·]?)).toArray
  rw [PySem.W.krv_sliceRange, List.filterMap_map]
  rw [fm_congr fun k hk => ?_]
  have := List.mem_range.mp hk
  show _ = xs[xs.size - 1 - k]?
  rw [show (((xs.size : Int) - 1) + (k : Int) * (-1)).toNat = xs.size - 1 - k by omega]
section
variable {prog : Program} {w : World} {A : Around} {s : Shared} {E : Value → Shared → Prop}
theorem sliceApplied_rev {sl : Addr} {vl vu vs : Value} {n : Nat} {Q : Int × Int × Nat → Shared → Prop} (hs : s.heap.IsSliceOf sl vl vu vs) (pl : IsPart vl none) (pu : IsPart vu none) (ps : IsPart vs (some (-1)))
    (h : Q ((n : Int) - 1, -1, n) s) : wpAny (model prog w) A (Builtin.Slice.sliceApplied (.ref sl) (pure (n : Int))) Q E s := by
  obtain ⟨os, hos, hcs, hds⟩ := id hs
  unfold Builtin.Slice.sliceApplied Builtin.Slice.sliceFields
  refine wpAny_bind (wpAny_bind (wpAny_field hos hds (x := vl) rfl (wpAny_bind (wpAny_field hos hds (x := vu) rfl (wpAny_bind (wpAny_field hos hds (x := vs) rfl (wpAny_pure ?_)))))))
  refine wpAny_bind (HT.slicePart_ ps ?_)
  show wpAny _ _ (if ((-1 : Int) == 0) = true then _ else _) _ _ s
  rw [if_neg (by decide)]
  refine wpAny_bind (HT.slicePart_ pl (wpAny_bind (HT.slicePart_ pu (wpAny_bind (wpAny_pure ?_)))))
  show wpAny _ _ (pure (((n : Int) - 1), (-1 : Int), Builtin.Slice.slicePlaces ((n : Int) - 1) (-1) (-1))) _ _ s
  rw [places_rev]
  exact wpAny_pure h
theorem getItem_tuple_rev {t sl : Addr} {items : Array Value} {vl vu vs : Value} {Q : Value → Shared → Prop} (ht : IsTup s.heap t items) (hs : s.heap.IsSliceOf sl vl vu vs) (pl : IsPart vl none) (pu : IsPart vu none) (ps : IsPart vs (some (-1)))
    (h : Q (.ref s.heap.objs.size) { s with heap := s.heap.push { cls := .type "tuple", data := .seq items.toList.reverse.toArray } }) (hsz : items.size ≤ sizeLine) : wpAny (model prog w) A (getItem (.ref t) (.ref sl)) Q E s := by
  have htake : sizeOk (.seq items.toList.reverse.toArray) := by
    show items.toList.reverse.toArray.size ≤ sizeLine
    rw [List.size_toArray, List.length_reverse, Array.length_toList]
    exact hsz
  obtain ⟨os, hos, hcs, hds⟩ := id hs
  have hTs : s.TypeIs (.ref sl) "slice" := ⟨os, hos, hcs⟩
  unfold getItem
  try with_reducible refine wpAny_holding ?_
  first | refine wpAny_bind (wpAny_pure ?_) | skip
  refine wpAny_bind (wpAny_sequenceKey ht.typeIs (by decide) ?_)
  refine wpAny_bind (wpAny_callSpecial?_slot (name := Str.ofString "__getitem__") ht.typeIs PyProof.Rows.slot_tuple_getitem
    (wpAny_call_entry PyProof.Rows.slot_tuple_getitem ht.typeIs PyProof.Rows.entry_tuple_getitem ?_ (PyProof.Rows.args_tuple_getitem _ _)))
  show wpAny _ _ (Builtin.Tuple.tupleItemsOf (.ref t) >>= _) _ _ s
  refine wpAny_bind (tupleItemsOf_ ht ?_)
  refine wpAny_bind (wpAny_typeOf hTs ?_)
  rw [if_pos (by decide)]
  refine wpAny_bind (sliceApplied_rev hs pl pu ps ?_)
  have hno : ¬ ((((items.size : Int) - 1) == 0 && (-1 : Int) == 1 && items.size == items.size) = true) := by
    intro q
    rw [Bool.and_eq_true, Bool.and_eq_true] at q
    exact absurd (eq_of_beq q.1.2) (by decide)
  show wpAny _ _ (if (((items.size : Int) - 1) == 0 && (-1 : Int) == 1 && items.size == items.size) = true then _ else _) _ _ s
  rw [if_neg hno, pick_rev]
  first
    | exact wpAny_bind (m := Builtin.Tuple.tupleExact _) (wpAny_newObj_type (wpAny_pure ⟨_, rfl, wpAny_pure h⟩) htake)
    | exact wpAny_bind (m := Builtin.Tuple.tupleExact _) (wpAny_newObj_type (wpAny_bind (wpAny_pure (wpAny_pure ⟨_, rfl, wpAny_pure h⟩))) htake)
    | exact wpAny_bind (wpAny_bind (m := Builtin.Tuple.tupleExact _) (wpAny_newObj_type (wpAny_pure (wpAny_pure ⟨_, rfl, wpAny_pure h⟩)) htake))
    | exact wpAny_bind (wpAny_bind (m := Builtin.Tuple.tupleExact _) (wpAny_newObj_type (wpAny_pure ⟨_, rfl, wpAny_pure h⟩) htake))
end
def tRevT (K : PySem.W.Frag) (te : TE) : TE := fun σ H Q => te σ H fun x H1 => ∃ a xs, x = .ref a ∧ SqT K H1 a xs ∧ ∀ p, H1 p = none → Q (.ref p) (upd H1 p (.tup xs.reverse))
theorem pe_revT {X : Cx} {e : Expr} {te : TE} {k : Nat} {p1 p2 p3 pos : Pos} (he : PE X e te) : PE X (.Subscript e (.Slice none none (some (.UnaryOp .USub (.Constant (.int 1) k p1) p2)) p3) pos) (tRevT X.K te) := by
  refine ⟨fun pins s σ H Q I h => ?_⟩
  refine Subscript_ (thn (he.run pins s σ H _ I h) fun v s1 ⟨x, H1, I1, r1, q1⟩ => ?_)
  obtain ⟨a, xs, ex, hx, q⟩ := q1
  subst ex
  cases r1
  have hst : PO X (some (.UnaryOp .USub (.Constant (.int 1) k p1) p2)) (tPart (tUn (rU fun i => .int (-i)) (tC (.int 1)))) := po_some (pe_un un_neg pe_int)
  refine wpAny_Slice (thn (po_none.run pins s1 σ H1 (fun o H2 => o = none ∧ H2 = H1) I1 ⟨rfl, rfl⟩) fun vl s2 ⟨l, H2, I2, pl, el, e2⟩ => ?_)
  subst el e2
  refine thn (po_none.run pins s2 σ H2 (fun o H3 => o = none ∧ H3 = H2) I2 ⟨rfl, rfl⟩) fun vu s3 ⟨u, H3, I3, pu, eu, e3⟩ => ?_
  subst eu e3
  refine thn (hst.run pins s3 σ H3 (fun o H4 => o = some (-1) ∧ H4 = H3) I3 ⟨1, rfl, -1, rfl, rfl, rfl⟩) fun vs s4 ⟨o, H4, I4, ps, eo, e4⟩ => ?_
  subst eo e4
  have I5 : Inv X pins σ H4 { s4 with heap := s4.heap.push { cls := .type "slice", data := .fields #[vl, vu, vs] } } := I4.kept (t' := s4.toks) fun b ob q => Heap.get?_push_of_some _ q
  obtain ⟨its, r, ht, hz⟩ := I5.tuple hx
  have hlen := r.length
  show wpAny (model X.prog X.w) X.A (subscriptTail e (.Slice none none (some (.UnaryOp .USub (.Constant (.int 1) k p1) p2)) p3) (.ref a) (.ref s4.heap.objs.size)) (EP X pins σ Q) X.xe { s4 with heap := s4.heap.push { cls := .type "slice", data := .fields #[vl, vu, vs] } }
  refine tail_any (ops := [.ref a, .ref s4.heap.objs.size]) ht.typeIs (PyProof.Rows.slot_tuple_getitem.lookup) ?_ (by with_unfolding_all rfl)
  refine getItem_tuple_rev ht (Heap.IsSliceOf.new _ vl vu vs) pl pu ps ?_ (by rw [List.size_toArray]; omega)
  refine ⟨.ref _, _, I5.laid (t' := s4.toks) (o := .tup xs.reverse) (fun b ob q => Heap.get?_push_of_some _ q) (Nat.le_refl _) ?_, rfl, q _ (I5.hok.fresh (Nat.le_refl _))⟩
  exact ⟨by rw [List.length_reverse]; exact hz, _, r.reverse, IsTup.new _ _⟩
def kRevT (K : PySem.W.Frag) (Q : VK) : VK := fun x H1 => ∃ a xs, x = .ref a ∧ SqT K H1 a xs ∧ ∀ p, H1 p = none → Q (.ref p) (upd H1 p (.tup xs.reverse))
theorem g_revT {K : PySem.W.Frag} {te : TE} {σ : L2.St} {H : Hp} {Q : VK} (q : te σ H (kRevT K Q)) : tRevT K te σ H Q := q
theorem g_kRevT {K : PySem.W.Frag} {H : Hp} {Q : VK} {a : Addr} {xs : List V} (h : SqT K H a xs) (q : ∀ p H2, Ex H H2 → SqT K H2 p xs.reverse → Q (.ref p) H2) : kRevT K Q (.ref a) H := ⟨a, xs, rfl, h, fun p hp => q p _ (Ex.new hp) (SqT.of upd_same)⟩
/-! ### o >> v, v None, a bool, an int, a text -/
def shrKd (y : V) : Prop := y = .non ∨ (∃ b, y = .bl b) ∨ (∃ i, y = .int i) ∨ ∃ t, y = .str t
def rShrV (C : Addr) (sp : Sp) (E : XK) : R2 := fun x y H Q => ∃ a, x = .ref a ∧ shrKd y ∧ (∃ dx fs, H a = some (.ins C dx fs)) ∧ sp [.ref a, y] H (fun v H2 => ∃ p, v = .ref p ∧ Q v H2) E
section
variable {X : Cx} {k j : Nat} {ps : List Str} {sp : Sp} {E : XK} {C : Addr}
theorem op_shrV (D : Cf X.prog X.w X.K X.mg X.base C k "__rshift__" ps sp) (S : ShrV X.K C) (hr : Room j X.A) (hx : Passes (L2.CX X.prog X.w) X E := by exact passL) (hk : k ≤ j := by decide) : OpR X (binaryOp .RShift) (rShrV C sp E) := by
  intro pins s σ H x y v u Q I rx ry h
  obtain ⟨a, rfl, hy, ⟨dx, fs, ea⟩, q⟩ := h
  obtain rfl : v = Value.ref a := rx
  obtain ⟨f, fd, hm, hfn, b, F⟩ := D.ex
  obtain ⟨mA, O, _, _, _, _⟩ := ins_get I.hok ea
  obtain ⟨od, J, _⟩ := O.look
  obtain ⟨m0, fr⟩ := I.fr
  have go : ∀ T ∈ shrT, typeOf u = pure (.type T) → wpAny (model X.prog X.w) X.A (binaryOp .RShift (.ref a) u) (EP X pins σ Q) X.xe s := fun T hT ht => by
    obtain ⟨⟨fo, h1⟩, ⟨ro, h2⟩, h3⟩ := S.hT T hT
    refine PySem.W.ksp_binT (T := T) fr I.ok.mod.kin J ht S.hc hm.at_ hm.fn S.hr (.inl rfl) h1 h2 h3 ?_
    refine thn (run_fn F (hr.mono hk) b .nil hx I (us := [.ref a, u]) (vs := [.ref a, y]) (.cons rfl (.cons ry .nil)) q) fun w s1 hw => ?_
    obtain ⟨v1, H1, I1, rv, p, ev, q1⟩ := hw
    subst ev
    obtain rfl : w = Value.ref p := rv
    exact ⟨.ref p, H1, I1, rfl, q1⟩
  rcases hy with rfl | ⟨c, rfl⟩ | ⟨i, rfl⟩ | ⟨t, rfl⟩
  · obtain rfl : u = Value.none := ry
    exact go "NoneType" (by decide) rfl
  · obtain rfl : u = Value.bool c := ry
    exact go "bool" (by decide) rfl
  · obtain ⟨t, rfl⟩ := ry
    exact go "int" (by decide) rfl
  · obtain ⟨t, rfl⟩ := ry
    exact go "str" (by decide) rfl
end
/-! ### o == t, t a tuple, by an own def -/
theorem tb_tup {M : Model} {h : Heap} {b : Addr} {its : Array Value} (ht : IsTup h b its) : PySem.W.Looks M h (typeOf (.ref b)) (.type "tuple") := by
  obtain ⟨o, ho, hc, n, hd⟩ := ht
  exact fun A Q E s k q => wpAny_typeOf ⟨o, k _ _ ho, hc⟩ q
def rEqT (K : PySem.W.Frag) (C : Addr) (sp : Sp) (E : XK) : R2 := fun x y H Q => ∃ a b xs, x = .ref a ∧ y = .ref b ∧ (∃ dx fs, H a = some (.ins C dx fs)) ∧ SqT K H b xs ∧ sp [.ref a, .ref b] H (kBl Q) E
theorem op_eqOT {X : Cx} {k j : Nat} {ps : List Str} {sp : Sp} {E : XK} {C : Addr} (D : Mf X.prog X.w X.K X.mg X.base C k "__eq__" ps sp) (S : EqtC X.K C) (hr : Room j X.A) (hx : Passes (L2.CX X.prog X.w) X E := by exact passL) (hk : k ≤ j := by decide) : OpR X (compareOp .Eq) (rEqT X.K C sp E) := by
  intro pins s σ H x y v u Q I rx ry h
  obtain ⟨a, b, xs, rfl, rfl, ⟨dx, fs, ha⟩, hb', q⟩ := h
  obtain rfl : v = Value.ref a := rx
  obtain rfl : u = Value.ref b := ry
  obtain ⟨f, fd, hm, hb, F⟩ := D.ex
  obtain ⟨mA, J, _⟩ := ins_get I.hok ha
  obtain ⟨od, J, _⟩ := J.look
  obtain ⟨its, r, ht, hz⟩ := I.tuple hb'
  obtain ⟨m, hF⟩ := I.fr
  show wpAny (model X.prog X.w) X.A (richCompare .Eq (.ref a) (.ref b)) (EP X pins σ Q) X.xe s
  refine PySem.W.cmp_K (op := .Eq) (tb := .type "tuple") hr.units0 hF I.ok.mod.kin J (tb_tup ht) S.nf hm.at_ hm.fn ?_
  refine thn (run_fn F (hr.mono hk) hb .nil hx I (us := [.ref a, .ref b]) (vs := [.ref a, .ref b]) (.cons rfl (.cons rfl .nil)) q) fun v s1 hv => ?_
  obtain ⟨z, H1, I1, rz, c, ez, q1⟩ := hv
  subst ez
  cases rz
  exact ⟨.bl c, H1, I1, rfl, q1⟩
theorem g_eqOT {K : PySem.W.Frag} {C a b : Addr} {sp : Sp} {E : XK} {H : Hp} {Q : VK} {dx : Addr} {fs : List (Str × V)} {xs : List V} (h1 : H a = some (.ins C dx fs)) (h2 : SqT K H b xs) (q : sp [.ref a, .ref b] H (kBl Q) E) : rEqT K C sp E (.ref a) (.ref b) H Q := ⟨a, b, xs, rfl, rfl, ⟨dx, fs, h1⟩, h2, q⟩
/-! ### cls(..), cls a parameter -/
def tMakeV (C : Addr) (sp : Sp) (E : XK) (tf : TE) (t : TA) : TE := fun σ H Q => tf σ H fun y H1 => y = .ref C ∧ tMake C sp [] E t σ H1 Q
theorem pkV {X : Cx} {k j : Nat} {x xn : Str} {ps : List Str} {sp : Sp} {E : XK} {C : Addr} {p pos : Pos} {e : Expr} {es : List Expr} {tf : TE} {t : TA} (D : If X.prog X.w X.K X.mg X.base xn C k ps sp) (hr : Room j X.A) (hf : PE X (.Name x p) tf) (ha : PA X (e :: es) t) (hx : Passes (L2.CX X.prog X.w) X E := by exact passL) (hk : k + 1 ≤ j := by decide)
    (he : starEach (e :: es) X.env = (false, eval e X.env) :: starEach es X.env := by rfl) (hpl : (backTo pos (starEach es X.env)).any (·.1) = false := by rfl) :
    PE X (.Call (.Name x p) (e :: es) [] pos) (tMakeV C sp E tf t) := by
  obtain ⟨f, fd, M, hm, b, F⟩ := D.ex
  refine ⟨fun pins s σ H Q I h => ?_⟩
  refine wpAny_Call_Name_kw (thn (hf.run pins s σ H _ I h) fun fv s0 ⟨v, H0, I0, r0, ev, q0⟩ => ?_)
  subst ev
  obtain rfl : fv = Value.ref C := r0
  refine PySem.W.callWith_K (h₀ := X.base) I0.ok.mod.kin M.kp (thn (ha.run pos pins s0 σ H0 _ I0 q0) fun us s1 ⟨vs, H1, I1, r, q⟩ => ⟨I1.kIn, ?_⟩) he hpl
  exact run_make M F (hr.mono hk) b .nil hx I1 r q
def kMakeV (C : Addr) (sp : Sp) (E : XK) (t : TA) (σ : L2.St) (Q : VK) : VK := fun y H1 => y = .ref C ∧ tMake C sp [] E t σ H1 Q
theorem g_makeV {C : Addr} {sp : Sp} {E : XK} {tf : TE} {t : TA} {σ : L2.St} {H : Hp} {Q : VK} (q : tf σ H (kMakeV C sp E t σ Q)) : tMakeV C sp E tf t σ H Q := q
theorem g_kMakeV {C : Addr} {sp : Sp} {E : XK} {t : TA} {σ : L2.St} {H : Hp} {Q : VK} (q : tMake C sp [] E t σ H Q) : kMakeV C sp E t σ Q (.ref C) H := ⟨rfl, q⟩
/-! ### a class method with a star parameter -/
/-- what a def with a star parameter binds -/
abbrev BindS (q x : Str) (st : Stmt) (p1 pv : Str) : Prop := ∀ (kV doc pm : Value) (an : Option Addr) (cdv ct : Value) (us rest : List Value), us.length = [p1].length → bindArgs (PySem.W.fnOf x q (defArgs st) (defBody st) (defScope st) .none kV doc pm an cdv ct) ⟨us ++ rest, []⟩ = (newTuple rest >>= fun t => pure ([p1].zip us ++ [(pv, t)]))
structure SFun (K : PySem.W.Frag) (C : Addr) (m q : Str) (st : Stmt) : Prop where
  ex : CmC K C m ∧ ∃ fd, Fun K m q st (cmA K C m) fd
structure Sf (P : Program) (w : World) (K : PySem.W.Frag) (mg : Str → Option Value) (base : Heap) (C : Addr) (k : Nat) (m : Str) (sp : Sp) : Prop where
  ex : ∃ p g, ClX.CRead K C (.type "type") ∧ ClX.CMet K C (.type "type") m p g ∧ FnR P w K mg base (L2.CX P w) k g sp
theorem Sf.of {P : Program} {w : World} {K : PySem.W.Frag} {mg : Str → Option Value} {base : Heap} {C : Addr} {m q p1 pv : Str} {st : Stmt} {N : List Str} {k : Nat} {sp0 sp : Sp} (G : SFun K C m q st) (S : FnScope N [p1, pv] (defScope st)) (hb : BindS q m st p1 pv)
    (hs : ∀ vs H Q E, sp vs H Q E → ∃ w rest, vs = w :: rest ∧ rest.length ≤ sizeLine ∧ ∀ p, H p = none → sp0 [w, .ref p] (upd H p (.tup rest)) Q E) (body : ∀ f, Body P w K mg base q N st f k sp0) : Sf P w K mg base C (k + 1) m sp := by
  obtain ⟨c, fd, F⟩ := G.ex
  obtain ⟨oc, od, kV, doc, pm, an, cdv, ct, osl, rfl, lk, hcd⟩ := F.ex
  have hf : PySem.W.fnIn K (cmA K C m) = true := by
    unfold PySem.W.fnIn
    rw [lk]
  refine ⟨_, _, c.rd, ⟨c.wr.1, c.wr.2, hf⟩, ?_⟩
  have R := StX.fn_star (P := P) (w := w) (mg := mg) (base := base) (CX := L2.CX P w) (ps := [p1]) (pv := pv) (sp := sp0) (k := k) lk hcd S StX.cxUp (fun us rest hl => hb kV doc pm an cdv ct us rest hl) (fun A outer s H vs Q E hr h => body _ cdv A outer s H vs Q E hr h)
  intro A outer s H us vs Q E hr e0 rv h
  refine R A outer s H us vs Q E hr e0 rv ?_
  obtain ⟨w, rest, rfl, hl, hq⟩ := hs vs H Q E h
  exact ⟨[w], rest, rfl, rfl, hl, hq⟩
theorem pcm {X : Cx} {k j : Nat} {C : Addr} {sp : Sp} {E : XK} {o e : Expr} {es : List Expr} {m : Str} {pos apos : Pos} {ta : TE} {t : TA} {pl : Sem Bool} (ho : PE X o ta) (D : Sf X.prog X.w X.K X.mg X.base C k m sp) (hr : Room j X.A) (ha : PA X (e :: es) t) (hx : Passes (L2.CX X.prog X.w) X E := by exact passL) (hk : k ≤ j := by decide)
    (hst : starEach (e :: es) X.env = (false, eval e X.env) :: starEach es X.env := by rfl) (hpl : (backTo pos (starEach es X.env)).any (·.1) = false := by rfl)
    (ht : eval (.Call (.Attribute o m apos) (e :: es) [] pos) X.env = (do
      let ov ← eval o X.env
      standAt apos.atName
      let (f, first) ← holding [ov] (getMethod ov m pl)
      callWith pos f first (backTo pos (starEach (e :: es) X.env)) (backToKw pos (keywordEach [] X.env))) := by rfl) : PE X (.Call (.Attribute o m apos) (e :: es) [] pos) (ClX.tCMeth C sp E ta t) := by
  obtain ⟨p, g, r, c, F⟩ := D.ex
  exact ClX.pe_cmeth ho r c F (hr.mono hk) hx ha hst hpl ht
def kCMeth (C : Addr) (sp : Sp) (E : XK) (t : TA) (σ : L2.St) (Q : VK) : VK := fun x H1 => x = .ref C ∧ t σ H1 fun vs H2 => sp (.ref C :: vs) H2 Q E
theorem g_cm {C : Addr} {sp : Sp} {E : XK} {ta : TE} {t : TA} {σ : L2.St} {H : Hp} {Q : VK} (q : ta σ H (kCMeth C sp E t σ Q)) : ClX.tCMeth C sp E ta t σ H Q := q
theorem g_kCM {C : Addr} {sp : Sp} {E : XK} {t : TA} {σ : L2.St} {H : Hp} {Q : VK} (q : t σ H fun vs H2 => sp (.ref C :: vs) H2 Q E) : kCMeth C sp E t σ Q (.ref C) H := ⟨rfl, q⟩
end G48

namespace G48
open PySem PySem.Spec PyProof.Rows L2 Evl
abbrev N_Ring___rshift__ : List Str := ["self", "steps"]
theorem sc_Ring___rshift__ : FnScope N_Ring___rshift__ ["self", "steps"] (defScope s_Ring___rshift__) := ⟨rfl, rfl, rfl, by decide +kernel, rfl, by decide +kernel, by decide +kernel⟩
theorem b_Ring___rshift__ : BindL "Ring.__rshift__" "__rshift__" s_Ring___rshift__ ["self", "steps"] := fun _ _ _ _ _ _ us hl => match us, hl with | [_, _], _ => rfl
end G48
/-! ring >> steps -/
namespace G48
open PySem PySem.Spec PyProof.Rows L2 Evl
/-! the steps -/
local macro_rules | `(tactic| walk_at "as") => `(tactic| with_reducible assumption)
local macro_rules | `(tactic| walk_at "hp") => `(tactic| first
  | with_reducible assumption
  | ((with_reducible apply SqT.of); walk_at "as")
  | ((with_reducible apply SqL.of); walk_at "as")
  | ((with_reducible apply ex_at); (focus walk_at "as"); walk_at "hp")
  | ((with_reducible apply ex_t); (focus walk_at "as"); walk_at "hp")
  | ((with_reducible apply ex_l); (focus walk_at "as"); walk_at "hp")
  | ((with_reducible apply exb_ins); (focus walk_at "as"); (focus walk_at "hp"); walk_at "hp")
  | ((with_reducible apply exb_t); (focus walk_at "as"); (focus walk_at "hp"); walk_at "hp")
  | ((with_reducible apply exb_at); (focus walk_at "as"); (focus walk_at "ne"); walk_at "hp")
  | ((with_reducible apply exb_l); (focus walk_at "as"); (focus walk_at "ne"); walk_at "hp"))
local macro_rules | `(tactic| walk_at "ne") => `(tactic| first
  | with_reducible assumption
  | exact Ne.symm (by with_reducible assumption)
  | exact ne_of_none (by with_reducible assumption) (by with_reducible assumption)
  | exact Ne.symm (ne_of_none (by with_reducible assumption) (by with_reducible assumption)))
local macro_rules | `(tactic| walk_at "tr") => `(tactic| first
  | rfl
  | with_reducible assumption
  | exact decide_eq_true (by first | with_reducible assumption | omega)
  | exact decide_eq_false (by first | with_reducible assumption | omega)
  | (rw [Bool.not_eq_true']; exact decide_eq_false (by first | with_reducible assumption | omega))
  | (rw [Bool.not_eq_false']; exact decide_eq_true (by first | with_reducible assumption | omega)))
local macro_rules | `(tactic| walk_at "nn") => `(tactic| first | with_reducible assumption | (exact List.cons_ne_nil _ _))
local macro_rules | `(tactic| walk_at "sz") => `(tactic| first | (exact sz1000 (Nat.le_of_ble_eq_true rfl)) | (refine sz1000 ?_; simp only [List.length_map, List.length_cons, List.length_nil, List.length_append]; omega) | with_reducible assumption)
local macro_rules | `(tactic| walk_at "sl") => `(tactic| first | with_reducible assumption | (refine lt1000 ?_; simp only [List.length_map, List.length_cons, List.length_nil, List.length_append]; omega) | (refine lt1000 ?_; omega))
local macro_rules | `(tactic| walk_at "ix") => `(tactic| first | rfl | with_reducible assumption)
local macro_rules | `(tactic| walk_at "rg") => `(tactic| exact RgOk.of_le (by omega) (by omega) (by omega) (by omega))
local macro_rules | `(tactic| walk_at "sp") => `(tactic| fail "sp")
local macro_rules | `(tactic| walk_at "cl") => `(tactic| with_reducible assumption)
local macro_rules | `(tactic| walk_at "lk") => `(tactic| with_reducible assumption)
local macro_rules | `(tactic| walk_at "it") => `(tactic| first | rfl | with_reducible assumption | exact atI_nat (by with_reducible assumption))
local macro_rules | `(tactic| walk_at "g1") => `(tactic| first
  | (with_reducible apply g_var); (focus rfl)
  | with_reducible apply g_c
  | with_reducible apply g_seq
  | with_reducible apply g_asg
  | with_reducible apply gg_name
  | with_reducible apply g_op
  | with_reducible apply g_cons
  | with_reducible apply g_nil
  | with_reducible apply g_cb
  | with_reducible apply g_fld
  | ((with_reducible apply g_kFld); (focus walk_at "hp"); (focus walk_at "cl"); (focus walk_at "cl"); (focus walk_at "lk"))
  | with_reducible apply g_call
  | walk_at "sp"
  | with_reducible apply g_ret
  | with_reducible apply g_drop
  | with_reducible apply g_test
  | with_reducible apply g_B
  | with_reducible apply g_kTest
  | with_reducible apply g_ifS
  | with_reducible apply g_kIfST
  | with_reducible apply g_kIfSF
  | with_reducible apply g_add
  | with_reducible apply g_sub
  | with_reducible apply g_lt
  | with_reducible apply g_le
  | with_reducible apply g_gt
  | with_reducible apply g_ge
  | with_reducible apply g_eqI
  | with_reducible apply g_neI
  | ((with_reducible apply g_mod); (focus first | decide | omega))
  | ((with_reducible apply g_mul); (focus first | (left; constructor <;> omega) | (right; constructor <;> omega)))
  | ((with_reducible apply g_fdiv); (focus (constructor <;> omega)))
  | ((with_reducible apply g_ixT); (focus walk_at "hp"); (focus walk_at "it"))
  | ((with_reducible apply g_ixL); (focus walk_at "hp"); (focus walk_at "it"))
  | with_reducible apply g_and
  | with_reducible apply g_or
  | with_reducible apply g_not
  | with_reducible apply g_kNotT
  | with_reducible apply g_kNotF
  | with_reducible apply g_if
  | with_reducible apply g_kAndT
  | with_reducible apply g_kAndF
  | with_reducible apply g_kOrT
  | with_reducible apply g_kOrF
  | with_reducible apply g_kIfT
  | with_reducible apply g_kIfF
  | with_reducible apply g_next
  | with_reducible apply g_andV
  | with_reducible apply g_orV
  | with_reducible apply g_notV
  | with_reducible apply g_kNotV
  | with_reducible apply g_kAndVT
  | with_reducible apply g_kAndVF
  | with_reducible apply g_chain
  | with_reducible apply g_kChainT
  | with_reducible apply g_kChainF
  | with_reducible apply g_tup
  | with_reducible apply g_lst
  | ((with_reducible apply g_kT); (focus walk_at "sz"); intro _ _ _ _ _)
  | ((with_reducible apply g_kL); (focus walk_at "sz"); intro _ _ _ _ _)
  | with_reducible apply g_un
  | with_reducible apply g_neg
  | with_reducible apply g_meth
  | ((with_reducible apply g_kMeth); (focus walk_at "hp"); (focus walk_at "lk"))
  | with_reducible apply g_prop
  | ((with_reducible apply g_kProp); (focus walk_at "hp"))
  | with_reducible apply g_make
  | with_reducible apply g_par
  | with_reducible apply g_kPar
  | ((with_reducible apply g_lenLM); (focus walk_at "hp"))
  | ((with_reducible apply g_lenTM); (focus walk_at "hp"))
  | ((with_reducible apply g_lenL); (focus walk_at "hp"))
  | ((with_reducible apply g_lenT); (focus walk_at "hp"))
  | with_reducible apply g_int1
  | with_reducible apply g_max2
  | with_reducible apply g_min2
  | ((with_reducible apply g_listL); (focus walk_at "hp"); intro _ _ _ _ _)
  | ((with_reducible apply g_listT); (focus walk_at "hp"); intro _ _ _ _ _)
  | ((with_reducible apply g_tupL); (focus walk_at "hp"); intro _ _ _ _ _)
  | ((with_reducible apply g_sum); (focus walk_at "hp"))
  | with_reducible apply g_sfld
  | with_reducible apply g_sl
  | with_reducible apply g_nopart
  | with_reducible apply g_part
  | with_reducible apply g_kPart
  | with_reducible apply g_lstRg
  | with_reducible apply g_rg1
  | with_reducible apply g_kRg1
  | with_reducible apply g_bm
  | with_reducible apply gg_sub
  | ((with_reducible apply gg_tup); (focus walk_at "hp"); (focus rfl))
  | with_reducible apply gg_cons
  | with_reducible apply gg_nil
  | with_reducible apply g_forL
  | with_reducible apply g_forT
  | with_reducible apply g_forR1
  | with_reducible apply g_forR2
  | with_reducible apply g_forE
  | with_reducible apply g_forEL
  | ((with_reducible apply g_maxT); (focus walk_at "hp"); (focus walk_at "nn"))
  | ((with_reducible apply g_maxL); (focus walk_at "hp"); (focus walk_at "nn"))
  | ((with_reducible apply g_catA); (focus walk_at "hp"); (focus walk_at "hp"); (focus walk_at "sz"); intro _ _ _ _)
  | ((with_reducible apply g_slA); (focus walk_at "hp"); intro _ _ _ _)
  | ((with_reducible apply g_tupD); (focus walk_at "hp"); intro _ _ _ _ _)
  | ((with_reducible apply g_setL); (focus walk_at "hp"); (focus walk_at "ix"); intro _ _ _)
  | ((with_reducible apply g_append); (focus walk_at "hp"); (focus walk_at "sl"); intro _ _ _)
  | ((with_reducible apply g_aug); (focus rfl))
  | with_reducible apply g_ipI
  | with_reducible apply g_retN
  | with_reducible apply g_lcR1
  | with_reducible apply g_lcR2
  | with_reducible apply g_lcL
  | with_reducible apply g_lcU
  | with_reducible apply g_lcN
  | ((with_reducible apply g_kLcG); (focus rfl))
  | with_reducible apply g_yes
  | with_reducible apply g_kLcTT
  | with_reducible apply g_kLcTF
  | ((with_reducible apply g_kLcE); (focus walk_at "hp"); (focus walk_at "sl"); intro _ _ _)
  | ((with_reducible apply g_pow); (focus (constructor <;> (try constructor) <;> decide)))
  | ((with_reducible apply g_kLRg); (focus walk_at "rg"); intro _ _ _ _ _)
  | ((with_reducible apply g_cat); (focus walk_at "hp"); (focus walk_at "hp"); (focus walk_at "sz"); intro _ _ _ _ _)
  | ((with_reducible apply g_slL); (focus walk_at "hp"); intro _ _ _ _ _)
  | with_reducible apply g_bmT
  | with_reducible apply g_break
  | with_reducible apply g_cont)
local macro_rules | `(tactic| walk_at "g0") => `(tactic| try dsimp only [L2.cxOf, L2.Cx.nox, L2.Cx.wish])
local macro_rules | `(tactic| walk_at "yn") => `(tactic| first
  | ((with_reducible apply y_kIfS); (focus walk_at "tr"))
  | ((with_reducible apply n_kIfS); (focus walk_at "tr"))
  | ((with_reducible apply y_kOr); (focus walk_at "tr"))
  | ((with_reducible apply n_kOr); (focus walk_at "tr"))
  | ((with_reducible apply y_kAnd); (focus walk_at "tr"))
  | ((with_reducible apply n_kAnd); (focus walk_at "tr"))
  | ((with_reducible apply y_kNot); (focus walk_at "tr"))
  | ((with_reducible apply n_kNot); (focus walk_at "tr"))
  | ((with_reducible apply y_kIf); (focus walk_at "tr"))
  | ((with_reducible apply n_kIf); (focus walk_at "tr"))
  | ((with_reducible apply y_kAndV); (focus walk_at "tr"))
  | ((with_reducible apply n_kAndV); (focus walk_at "tr"))
  | ((with_reducible apply y_kOrV); (focus walk_at "tr"))
  | ((with_reducible apply n_kOrV); (focus walk_at "tr"))
  | ((with_reducible apply y_kChain); (focus walk_at "tr"))
  | ((with_reducible apply n_kChain); (focus walk_at "tr"))
  | ((with_reducible apply y_kLcT); (focus walk_at "tr"))
  | ((with_reducible apply n_kLcT); (focus walk_at "tr"))
  | ((with_reducible apply y_kWh); (focus walk_at "tr"))
  | ((with_reducible apply n_kWh); (focus walk_at "tr")))
local macro_rules | `(tactic| walk_at "go") => `(tactic| repeat (first | walk_at "g1" | walk_at "yn"))
local macro_rules | `(tactic| walk_at "hp") => `(tactic| first
  | ((with_reducible apply RingIn.ex); (focus walk_at "as"); walk_at "hp")
  | ((with_reducible apply RingAt.ex); (focus walk_at "as"); walk_at "hp")
  | ((with_reducible apply RingIn.exb); (focus walk_at "as"); (focus walk_at "hp"); walk_at "hp")
  | ((with_reducible apply RingAt.exb); (focus walk_at "as"); (focus walk_at "hp"); walk_at "hp")
  | ((with_reducible apply TupK.ex); (focus walk_at "as"); walk_at "hp")
  | ((with_reducible apply TupK.exb); (focus walk_at "as"); (focus walk_at "hp"); walk_at "hp"))
local macro_rules | `(tactic| walk_at "lk") => `(tactic| first | with_reducible exact rf_spans | with_reducible exact rf_heaps | with_reducible exact rf_total | with_reducible exact rf_nr | with_reducible exact rf_wd)
local macro_rules | `(tactic| walk_at "sp") => `(tactic| first
  | ((with_reducible apply g_isiTup); (focus walk_at "hp"))
  | ((with_reducible apply g_isiLst); (focus walk_at "hp"))
  | ((with_reducible apply g_isint); (focus omega); (focus omega))
  | ((with_reducible apply g_checkn); (focus omega); (focus omega))
  | ((with_reducible apply g_rbooks); (focus walk_at "hp"))
  | ((with_reducible apply g_rpace); (focus walk_at "hp"); intro _ _ _ _)
  | ((with_reducible apply g_rlen); (focus walk_at "hp"))
  | ((with_reducible apply g_rneed); (focus walk_at "hp"); (focus omega))
  | ((with_reducible apply g_rneedM); (focus walk_at "hp"))
  | ((with_reducible apply g_rwithM); (focus walk_at "hp"))
  | ((with_reducible apply g_rspans); (focus walk_at "hp"); (focus with_reducible assumption))
  | ((with_reducible apply g_rheaps); (focus walk_at "hp"); (focus with_reducible assumption))
  | ((with_reducible apply g_rtotal); (focus walk_at "hp"); (focus with_reducible assumption)))

local macro_rules | `(tactic| walk_at "hp") => `(tactic| first
  | ((with_reducible apply CrsAt.ex); (focus walk_at "as"); walk_at "hp")
  | ((with_reducible apply CrsAt.into); walk_at "hp"))
local macro_rules | `(tactic| walk_at "g1") => `(tactic| first
  | ((with_reducible apply g_callO); (focus walk_at "hp"))
  | with_reducible apply g_tCallO
  | with_reducible apply g_kCallO)
local macro_rules | `(tactic| walk_at "sp") => `(tactic| first
  | ((with_reducible apply g_rdays); (focus walk_at "hp"))
  | ((with_reducible apply g_rstarts); (focus walk_at "hp"))
  | ((with_reducible apply g_rget); (focus walk_at "hp"); (focus with_reducible assumption); intro _ _ _ _)
  | ((with_reducible apply g_rcall); (focus walk_at "hp"); (focus with_reducible assumption); (focus omega); intro _ _)
  | ((with_reducible apply g_mkCourse); (focus walk_at "hp"); intro _ _ _ _ _ _ _ _ _)
  | ((with_reducible apply g_ncheckn); (focus omega); (focus omega)))

section
variable {P : Program} {w : World} {K : PySem.W.Frag} {mg : Str → Option Value} {base : Heap} {C CC : Addr}
def sp_Ring_shr (K : PySem.W.Frag) (C : Addr) : Sp := fun vs H Q _ => ∃ (r a b : Addr) (ds hs : List Int) (s : Nat), vs = [.ref r, .int (s : Int)] ∧ RingIn K C H r a b ds hs ∧ s < ds.length ∧ ∀ r' a' b' H', H r' = none → Ex H H' → RingIn K C H' r' a' b' (rot s ds) (rot s hs) → Q (.ref r') H'
theorem ok_Ring_shr (Z : Blt mg) (R : RingC K C) (D_is_integer : Df P w K mg base 1 "is_integer" ["value", "low", "high"] (sp_is_integer K)) (I_Ring : If P w K mg base "Ring" C 3 ["self", "days", "starts"] (sp_Ring_init K C)) (G : CFun K C "__rshift__" "Ring.__rshift__" s_Ring___rshift__) : Cf P w K mg base C 5 "__rshift__" ["self", "steps"] (sp_Ring_shr K C) := by
  refine Cf.of G sc_Ring___rshift__ b_Ring___rshift__ (fun vs H Q E h => ?_) (fun f cdv A outer st H vs Q E hr h => ?_)
  · obtain ⟨r, a, b, ds, hs, s, rfl, _⟩ := h
    rfl
  · obtain ⟨r, a, b, ds, hs, s, rfl, RI, hs1, q⟩ := h
    have cl_Ring := R.cl
    have O := RI.ok
    have o8 := O.eight
    have hlen := O.len
    have hS := RI.sp
    have hT := RI.hp
    refine ⟨_, PSs.nox (pss_cons (ps_if (pt_not (pt_val (pg D_is_integer hr (pa_cons (pv 1) (pa_cons pe_int (pa_cons (pe_op op_sub (pe_callB c_len (by rfl) Z.zlen PySem.boot_len (pa_cons (pe_fld (pv 0) rfl) pa_nil)) pe_int) pa_nil)))))) (pss_one ps_never) pss_nil)
      (pss_one (ps_ret (pk I_Ring hr (pa_cons (pe_op op_catA (pe_slice sl_tupA (pe_fld (pv 0) rfl) (po_some (pv 1)) po_none) (pe_slice sl_tupA (pe_fld (pv 0) rfl) po_none (po_some (pv 1)))) (pa_cons (pe_op op_catA (pe_slice sl_tupA (pe_fld (pv 0) rfl) (po_some (pv 1)) po_none) (pe_slice sl_tupA (pe_fld (pv 0) rfl) po_none (po_some (pv 1)))) pa_nil)))))), ?_⟩
    walk_at "g0"
    walk_at "go"
    rename_i p1 H1 e1 s1 p2 H2 e2 s2
    rw [cut_hi ds s (by omega)] at s1
    rw [cut_lo ds s (by omega)] at s2
    refine g_catA (ex_t e2 s1) s2 (sz1000 (by simp only [List.length_map, List.length_drop, List.length_take]; omega)) fun p3 H3 e3 s3 => ?_
    have RI3 := RI.ex ((e1.trans e2).trans e3)
    walk_at "go"
    rename_i p4 H4 e4 s4 p5 H5 e5 s5
    rw [cut_hi hs s (by omega)] at s4
    rw [cut_lo hs s (by omega)] at s5
    refine g_catA (ex_t e5 s4) s5 (sz1000 (by simp only [List.length_map, List.length_drop, List.length_take]; omega)) fun p6 H6 e6 s6 => ?_
    walk_at "go"
    have e06 := ((((e1.trans e2).trans e3).trans e4).trans e5).trans e6
    have s3' : SqT K H6 p3 ((rot s ds).map V.int) := by
      unfold rot
      rw [List.map_append]
      exact ex_t ((e4.trans e5).trans e6) s3
    have s6' : SqT K H6 p6 ((rot s hs).map V.int) := by
      unfold rot
      rw [List.map_append]
      exact s6
    exact g_mkRing s3' s6' (O.rot hs1) fun r' H7 n7 e7 R7 => q r' p3 p6 H7 (fresh_back e06 n7) (e06.trans e7) R7
end
end G48

namespace G48
open PySem PySem.Spec PyProof.Rows L2 Evl
abbrev N_Ring___eq__ : List Str := ["self", "other"]
theorem sc_Ring___eq__ : FnScope N_Ring___eq__ ["self", "other"] (defScope s_Ring___eq__) := ⟨rfl, rfl, rfl, by decide +kernel, rfl, by decide +kernel, by decide +kernel⟩
theorem b_Ring___eq__ : BindL "Ring.__eq__" "__eq__" s_Ring___eq__ ["self", "other"] := fun _ _ _ _ _ _ us hl => match us, hl with | [_, _], _ => rfl
end G48
/-! own == of rings (as in PW) -/
namespace G48
open PySem PySem.Spec PyProof.Rows L2 Evl
/-! the steps -/
local macro_rules | `(tactic| walk_at "as") => `(tactic| with_reducible assumption)
local macro_rules | `(tactic| walk_at "hp") => `(tactic| first
  | with_reducible assumption
  | ((with_reducible apply SqT.of); walk_at "as")
  | ((with_reducible apply SqL.of); walk_at "as")
  | ((with_reducible apply ex_at); (focus walk_at "as"); walk_at "hp")
  | ((with_reducible apply ex_t); (focus walk_at "as"); walk_at "hp")
  | ((with_reducible apply ex_l); (focus walk_at "as"); walk_at "hp")
  | ((with_reducible apply exb_ins); (focus walk_at "as"); (focus walk_at "hp"); walk_at "hp")
  | ((with_reducible apply exb_t); (focus walk_at "as"); (focus walk_at "hp"); walk_at "hp")
  | ((with_reducible apply exb_at); (focus walk_at "as"); (focus walk_at "ne"); walk_at "hp")
  | ((with_reducible apply exb_l); (focus walk_at "as"); (focus walk_at "ne"); walk_at "hp"))
local macro_rules | `(tactic| walk_at "ne") => `(tactic| first
  | with_reducible assumption
  | exact Ne.symm (by with_reducible assumption)
  | exact ne_of_none (by with_reducible assumption) (by with_reducible assumption)
  | exact Ne.symm (ne_of_none (by with_reducible assumption) (by with_reducible assumption)))
local macro_rules | `(tactic| walk_at "tr") => `(tactic| first
  | rfl
  | with_reducible assumption
  | exact decide_eq_true (by first | with_reducible assumption | omega)
  | exact decide_eq_false (by first | with_reducible assumption | omega)
  | (rw [Bool.not_eq_true']; exact decide_eq_false (by first | with_reducible assumption | omega))
  | (rw [Bool.not_eq_false']; exact decide_eq_true (by first | with_reducible assumption | omega)))
local macro_rules | `(tactic| walk_at "nn") => `(tactic| first | with_reducible assumption | (exact List.cons_ne_nil _ _))
local macro_rules | `(tactic| walk_at "sz") => `(tactic| first | (exact sz1000 (Nat.le_of_ble_eq_true rfl)) | (refine sz1000 ?_; simp only [List.length_map, List.length_cons, List.length_nil, List.length_append]; omega) | with_reducible assumption)
local macro_rules | `(tactic| walk_at "sl") => `(tactic| first | with_reducible assumption | (refine lt1000 ?_; simp only [List.length_map, List.length_cons, List.length_nil, List.length_append]; omega) | (refine lt1000 ?_; omega))
local macro_rules | `(tactic| walk_at "ix") => `(tactic| first | rfl | with_reducible assumption)
local macro_rules | `(tactic| walk_at "rg") => `(tactic| exact RgOk.of_le (by omega) (by omega) (by omega) (by omega))
local macro_rules | `(tactic| walk_at "sp") => `(tactic| fail "sp")
local macro_rules | `(tactic| walk_at "cl") => `(tactic| with_reducible assumption)
local macro_rules | `(tactic| walk_at "lk") => `(tactic| with_reducible assumption)
local macro_rules | `(tactic| walk_at "it") => `(tactic| first | rfl | with_reducible assumption | exact atI_nat (by with_reducible assumption))
local macro_rules | `(tactic| walk_at "g1") => `(tactic| first
  | (with_reducible apply g_var); (focus rfl)
  | with_reducible apply g_c
  | with_reducible apply g_seq
  | with_reducible apply g_asg
  | with_reducible apply gg_name
  | with_reducible apply g_op
  | with_reducible apply g_cons
  | with_reducible apply g_nil
  | with_reducible apply g_cb
  | with_reducible apply g_fld
  | ((with_reducible apply g_kFld); (focus walk_at "hp"); (focus walk_at "cl"); (focus walk_at "cl"); (focus walk_at "lk"))
  | with_reducible apply g_call
  | walk_at "sp"
  | with_reducible apply g_ret
  | with_reducible apply g_drop
  | with_reducible apply g_test
  | with_reducible apply g_B
  | with_reducible apply g_kTest
  | with_reducible apply g_ifS
  | with_reducible apply g_kIfST
  | with_reducible apply g_kIfSF
  | with_reducible apply g_add
  | with_reducible apply g_sub
  | with_reducible apply g_lt
  | with_reducible apply g_le
  | with_reducible apply g_gt
  | with_reducible apply g_ge
  | with_reducible apply g_eqI
  | with_reducible apply g_neI
  | ((with_reducible apply g_mod); (focus first | decide | omega))
  | ((with_reducible apply g_mul); (focus first | (left; constructor <;> omega) | (right; constructor <;> omega)))
  | ((with_reducible apply g_fdiv); (focus (constructor <;> omega)))
  | ((with_reducible apply g_ixT); (focus walk_at "hp"); (focus walk_at "it"))
  | ((with_reducible apply g_ixL); (focus walk_at "hp"); (focus walk_at "it"))
  | with_reducible apply g_and
  | with_reducible apply g_or
  | with_reducible apply g_not
  | with_reducible apply g_kNotT
  | with_reducible apply g_kNotF
  | with_reducible apply g_if
  | with_reducible apply g_kAndT
  | with_reducible apply g_kAndF
  | with_reducible apply g_kOrT
  | with_reducible apply g_kOrF
  | with_reducible apply g_kIfT
  | with_reducible apply g_kIfF
  | with_reducible apply g_next
  | with_reducible apply g_andV
  | with_reducible apply g_orV
  | with_reducible apply g_notV
  | with_reducible apply g_kNotV
  | with_reducible apply g_kAndVT
  | with_reducible apply g_kAndVF
  | with_reducible apply g_chain
  | with_reducible apply g_kChainT
  | with_reducible apply g_kChainF
  | with_reducible apply g_tup
  | with_reducible apply g_lst
  | ((with_reducible apply g_kT); (focus walk_at "sz"); intro _ _ _ _ _)
  | ((with_reducible apply g_kL); (focus walk_at "sz"); intro _ _ _ _ _)
  | with_reducible apply g_un
  | with_reducible apply g_neg
  | with_reducible apply g_meth
  | ((with_reducible apply g_kMeth); (focus walk_at "hp"); (focus walk_at "lk"))
  | with_reducible apply g_prop
  | ((with_reducible apply g_kProp); (focus walk_at "hp"))
  | with_reducible apply g_make
  | with_reducible apply g_par
  | with_reducible apply g_kPar
  | ((with_reducible apply g_lenLM); (focus walk_at "hp"))
  | ((with_reducible apply g_lenTM); (focus walk_at "hp"))
  | ((with_reducible apply g_lenL); (focus walk_at "hp"))
  | ((with_reducible apply g_lenT); (focus walk_at "hp"))
  | with_reducible apply g_int1
  | with_reducible apply g_max2
  | with_reducible apply g_min2
  | ((with_reducible apply g_listL); (focus walk_at "hp"); intro _ _ _ _ _)
  | ((with_reducible apply g_listT); (focus walk_at "hp"); intro _ _ _ _ _)
  | ((with_reducible apply g_tupL); (focus walk_at "hp"); intro _ _ _ _ _)
  | ((with_reducible apply g_sum); (focus walk_at "hp"))
  | with_reducible apply g_sfld
  | with_reducible apply g_sl
  | with_reducible apply g_nopart
  | with_reducible apply g_part
  | with_reducible apply g_kPart
  | with_reducible apply g_lstRg
  | with_reducible apply g_rg1
  | with_reducible apply g_kRg1
  | with_reducible apply g_bm
  | with_reducible apply gg_sub
  | ((with_reducible apply gg_tup); (focus walk_at "hp"); (focus rfl))
  | with_reducible apply gg_cons
  | with_reducible apply gg_nil
  | with_reducible apply g_forL
  | with_reducible apply g_forT
  | with_reducible apply g_forR1
  | with_reducible apply g_forR2
  | with_reducible apply g_forE
  | with_reducible apply g_forEL
  | ((with_reducible apply g_maxT); (focus walk_at "hp"); (focus walk_at "nn"))
  | ((with_reducible apply g_maxL); (focus walk_at "hp"); (focus walk_at "nn"))
  | ((with_reducible apply g_catA); (focus walk_at "hp"); (focus walk_at "hp"); (focus walk_at "sz"); intro _ _ _ _)
  | ((with_reducible apply g_slA); (focus walk_at "hp"); intro _ _ _ _)
  | ((with_reducible apply g_tupD); (focus walk_at "hp"); intro _ _ _ _ _)
  | ((with_reducible apply g_setL); (focus walk_at "hp"); (focus walk_at "ix"); intro _ _ _)
  | ((with_reducible apply g_append); (focus walk_at "hp"); (focus walk_at "sl"); intro _ _ _)
  | ((with_reducible apply g_aug); (focus rfl))
  | with_reducible apply g_ipI
  | with_reducible apply g_retN
  | with_reducible apply g_lcR1
  | with_reducible apply g_lcR2
  | with_reducible apply g_lcL
  | with_reducible apply g_lcU
  | with_reducible apply g_lcN
  | ((with_reducible apply g_kLcG); (focus rfl))
  | with_reducible apply g_yes
  | with_reducible apply g_kLcTT
  | with_reducible apply g_kLcTF
  | ((with_reducible apply g_kLcE); (focus walk_at "hp"); (focus walk_at "sl"); intro _ _ _)
  | ((with_reducible apply g_pow); (focus (constructor <;> (try constructor) <;> decide)))
  | ((with_reducible apply g_kLRg); (focus walk_at "rg"); intro _ _ _ _ _)
  | ((with_reducible apply g_cat); (focus walk_at "hp"); (focus walk_at "hp"); (focus walk_at "sz"); intro _ _ _ _ _)
  | ((with_reducible apply g_slL); (focus walk_at "hp"); intro _ _ _ _ _)
  | with_reducible apply g_bmT
  | with_reducible apply g_break
  | with_reducible apply g_cont)
local macro_rules | `(tactic| walk_at "g0") => `(tactic| try dsimp only [L2.cxOf, L2.Cx.nox, L2.Cx.wish])
local macro_rules | `(tactic| walk_at "yn") => `(tactic| first
  | ((with_reducible apply y_kIfS); (focus walk_at "tr"))
  | ((with_reducible apply n_kIfS); (focus walk_at "tr"))
  | ((with_reducible apply y_kOr); (focus walk_at "tr"))
  | ((with_reducible apply n_kOr); (focus walk_at "tr"))
  | ((with_reducible apply y_kAnd); (focus walk_at "tr"))
  | ((with_reducible apply n_kAnd); (focus walk_at "tr"))
  | ((with_reducible apply y_kNot); (focus walk_at "tr"))
  | ((with_reducible apply n_kNot); (focus walk_at "tr"))
  | ((with_reducible apply y_kIf); (focus walk_at "tr"))
  | ((with_reducible apply n_kIf); (focus walk_at "tr"))
  | ((with_reducible apply y_kAndV); (focus walk_at "tr"))
  | ((with_reducible apply n_kAndV); (focus walk_at "tr"))
  | ((with_reducible apply y_kOrV); (focus walk_at "tr"))
  | ((with_reducible apply n_kOrV); (focus walk_at "tr"))
  | ((with_reducible apply y_kChain); (focus walk_at "tr"))
  | ((with_reducible apply n_kChain); (focus walk_at "tr"))
  | ((with_reducible apply y_kLcT); (focus walk_at "tr"))
  | ((with_reducible apply n_kLcT); (focus walk_at "tr"))
  | ((with_reducible apply y_kWh); (focus walk_at "tr"))
  | ((with_reducible apply n_kWh); (focus walk_at "tr")))
local macro_rules | `(tactic| walk_at "go") => `(tactic| repeat (first | walk_at "g1" | walk_at "yn"))
local macro_rules | `(tactic| walk_at "hp") => `(tactic| first
  | ((with_reducible apply RingIn.ex); (focus walk_at "as"); walk_at "hp")
  | ((with_reducible apply RingAt.ex); (focus walk_at "as"); walk_at "hp")
  | ((with_reducible apply RingIn.exb); (focus walk_at "as"); (focus walk_at "hp"); walk_at "hp")
  | ((with_reducible apply RingAt.exb); (focus walk_at "as"); (focus walk_at "hp"); walk_at "hp")
  | ((with_reducible apply TupK.ex); (focus walk_at "as"); walk_at "hp")
  | ((with_reducible apply TupK.exb); (focus walk_at "as"); (focus walk_at "hp"); walk_at "hp"))
local macro_rules | `(tactic| walk_at "lk") => `(tactic| first | with_reducible exact rf_spans | with_reducible exact rf_heaps | with_reducible exact rf_total | with_reducible exact rf_nr | with_reducible exact rf_wd)
local macro_rules | `(tactic| walk_at "sp") => `(tactic| first
  | ((with_reducible apply g_isiTup); (focus walk_at "hp"))
  | ((with_reducible apply g_isiLst); (focus walk_at "hp"))
  | ((with_reducible apply g_isint); (focus omega); (focus omega))
  | ((with_reducible apply g_checkn); (focus omega); (focus omega))
  | ((with_reducible apply g_rbooks); (focus walk_at "hp"))
  | ((with_reducible apply g_rpace); (focus walk_at "hp"); intro _ _ _ _)
  | ((with_reducible apply g_rlen); (focus walk_at "hp"))
  | ((with_reducible apply g_rneed); (focus walk_at "hp"); (focus omega))
  | ((with_reducible apply g_rneedM); (focus walk_at "hp"))
  | ((with_reducible apply g_rwithM); (focus walk_at "hp"))
  | ((with_reducible apply g_rspans); (focus walk_at "hp"); (focus with_reducible assumption))
  | ((with_reducible apply g_rheaps); (focus walk_at "hp"); (focus with_reducible assumption))
  | ((with_reducible apply g_rtotal); (focus walk_at "hp"); (focus with_reducible assumption)))

local macro_rules | `(tactic| walk_at "hp") => `(tactic| first
  | ((with_reducible apply CrsIn.ex); (focus walk_at "as"); walk_at "hp")
  | ((with_reducible apply RowsAt.ex); (focus walk_at "as"); walk_at "hp"))
local macro_rules | `(tactic| walk_at "sp") => `(tactic| first
  | ((with_reducible apply g_crows); (focus walk_at "hp"); (focus with_reducible assumption))
  | ((with_reducible apply g_csize); (focus walk_at "hp"); (focus with_reducible assumption))
  | ((with_reducible apply g_cevery); (focus walk_at "hp"); (focus with_reducible assumption))
  | ((with_reducible apply g_cshift); (focus walk_at "hp"); (focus with_reducible assumption))
  | ((with_reducible apply g_cring); (focus walk_at "hp"); (focus with_reducible assumption))
  | ((with_reducible apply g_cfirst); (focus walk_at "hp"); (focus with_reducible assumption))
  | ((with_reducible apply g_clen); (focus walk_at "hp"))
  | ((with_reducible apply g_cmShifted); (focus walk_at "hp"))
  | ((with_reducible apply g_cmSettled); (focus walk_at "hp"))
  | ((with_reducible apply g_cmNext); (focus walk_at "hp"))
  | ((with_reducible apply g_cmEnd); (focus walk_at "hp"))
  | ((with_reducible apply g_cmArrival); (focus walk_at "hp")))

local macro_rules | `(tactic| walk_at "hp") => `(tactic| first
  | ((with_reducible apply CrsAt.ex); (focus walk_at "as"); walk_at "hp")
  | ((with_reducible apply CrsAt.into); walk_at "hp"))
local macro_rules | `(tactic| walk_at "g1") => `(tactic| first
  | ((with_reducible apply g_callO); (focus walk_at "hp"))
  | with_reducible apply g_tCallO
  | with_reducible apply g_kCallO)
local macro_rules | `(tactic| walk_at "sp") => `(tactic| first
  | ((with_reducible apply g_rdays); (focus walk_at "hp"))
  | ((with_reducible apply g_rstarts); (focus walk_at "hp"))
  | ((with_reducible apply g_rget); (focus walk_at "hp"); (focus with_reducible assumption); intro _ _ _ _)
  | ((with_reducible apply g_rcall); (focus walk_at "hp"); (focus with_reducible assumption); (focus omega); intro _ _)
  | ((with_reducible apply g_mkCourse); (focus walk_at "hp"); intro _ _ _ _ _ _ _ _ _)
  | ((with_reducible apply g_ncheckn); (focus omega); (focus omega)))

section
variable {P : Program} {w : World} {K : PySem.W.Frag} {mg : Str → Option Value} {base : Heap} {C CC : Addr}
def sp_Ring_eq (K : PySem.W.Frag) (C : Addr) : Sp := fun vs H Q _ => ∃ (r a b r' a' b' : Addr) (ds hs ds' hs' : List Int), vs = [.ref r, .ref r'] ∧ RingIn K C H r a b ds hs ∧ RingIn K C H r' a' b' ds' hs' ∧ Q (.bl (decide (ds = ds' ∧ hs = hs'))) H
theorem ok_Ring_eq (Z : Blt mg) (R : RingC K C) (Isi_Ring : IsiC K C) (g_Ring : mg "Ring" = some (.ref C)) (G : CFun K C "__eq__" "Ring.__eq__" s_Ring___eq__) : Mf P w K mg base C 1 "__eq__" ["self", "other"] (sp_Ring_eq K C) := by
  refine Mf.of G sc_Ring___eq__ b_Ring___eq__ (fun vs H Q E h => ?_) (fun f cdv A outer s H vs Q E hr h => ?_)
  · obtain ⟨r, a, b, r', a', b', ds, hs, ds', hs', rfl, _⟩ := h
    rfl
  · obtain ⟨r, a, b, r', a', b', ds, hs, ds', hs', rfl, RI, RI', q⟩ := h
    have cl_Ring := R.cl
    obtain ⟨dx, ho⟩ := RI'.obj
    refine ⟨_, PSs.nox (pss_one (ps_ret (pe_and (pe_callB call_isi (by rfl) Z.zisinstance (by decide +kernel) (pa_cons (pv 1) (pa_cons (pcls g_Ring) pa_nil))) (pe_and (pe_cmpR (op_eqD hr.units) (pe_fld (pv 0) rfl) (pe_fld (pv 1) rfl) (nomark _)) (pe_one (pe_cmpR (op_eqD hr.units) (pe_fld (pv 0) rfl) (pe_fld (pv 1) rfl) (nomark _))))))), ?_⟩
    walk_at "g0"
    walk_at "go"
    refine g_isiO R.cl Isi_Ring ho ?_
    walk_at "go"
    refine g_eqTI RI.sp RI'.sp ?_
    by_cases h1 : ds = ds'
    · rw [decide_eq_true h1]
      walk_at "go"
      refine g_eqTI RI.hp RI'.hp ?_
      have e : decide (hs = hs') = decide (ds = ds' ∧ hs = hs') := by simp [h1]
      rw [e]
      exact q
    · rw [decide_eq_false h1]
      walk_at "go"
      have e : decide (ds = ds' ∧ hs = hs') = false := by simp [h1]
      rw [e] at q
      exact q
end
end G48

namespace G48
open PySem PySem.Spec PyProof.Rows L2 Evl
abbrev N__law_like : List Str := ["_law_found", "_law_due", "_law_k"]
theorem sc__law_like : FnScope N__law_like ["_law_found", "_law_due"] (defScope s__law_like) := ⟨rfl, rfl, rfl, by decide +kernel, rfl, by decide +kernel, by decide +kernel⟩
theorem b__law_like : BindL "_law_like" "_law_like" s__law_like ["_law_found", "_law_due"] := fun _ _ _ _ _ _ us hl => match us, hl with | [_, _], _ => rfl
end G48
/-! results compared: nested tuples and lists of plain values -/
namespace G48
open PySem PySem.Spec PyProof.Rows L2 Evl
/-! the steps -/
local macro_rules | `(tactic| walk_at "as") => `(tactic| with_reducible assumption)
local macro_rules | `(tactic| walk_at "hp") => `(tactic| first
  | with_reducible assumption
  | ((with_reducible apply SqT.of); walk_at "as")
  | ((with_reducible apply SqL.of); walk_at "as")
  | ((with_reducible apply ex_at); (focus walk_at "as"); walk_at "hp")
  | ((with_reducible apply ex_t); (focus walk_at "as"); walk_at "hp")
  | ((with_reducible apply ex_l); (focus walk_at "as"); walk_at "hp")
  | ((with_reducible apply exb_ins); (focus walk_at "as"); (focus walk_at "hp"); walk_at "hp")
  | ((with_reducible apply exb_t); (focus walk_at "as"); (focus walk_at "hp"); walk_at "hp")
  | ((with_reducible apply exb_at); (focus walk_at "as"); (focus walk_at "ne"); walk_at "hp")
  | ((with_reducible apply exb_l); (focus walk_at "as"); (focus walk_at "ne"); walk_at "hp"))
local macro_rules | `(tactic| walk_at "ne") => `(tactic| first
  | with_reducible assumption
  | exact Ne.symm (by with_reducible assumption)
  | exact ne_of_none (by with_reducible assumption) (by with_reducible assumption)
  | exact Ne.symm (ne_of_none (by with_reducible assumption) (by with_reducible assumption)))
local macro_rules | `(tactic| walk_at "tr") => `(tactic| first
  | rfl
  | with_reducible assumption
  | exact decide_eq_true (by first | with_reducible assumption | omega)
  | exact decide_eq_false (by first | with_reducible assumption | omega)
  | (rw [Bool.not_eq_true']; exact decide_eq_false (by first | with_reducible assumption | omega))
  | (rw [Bool.not_eq_false']; exact decide_eq_true (by first | with_reducible assumption | omega)))
local macro_rules | `(tactic| walk_at "nn") => `(tactic| first | with_reducible assumption | (exact List.cons_ne_nil _ _))
local macro_rules | `(tactic| walk_at "sz") => `(tactic| first | (exact sz1000 (Nat.le_of_ble_eq_true rfl)) | (refine sz1000 ?_; simp only [List.length_map, List.length_cons, List.length_nil, List.length_append]; omega) | with_reducible assumption)
local macro_rules | `(tactic| walk_at "sl") => `(tactic| first | with_reducible assumption | (refine lt1000 ?_; simp only [List.length_map, List.length_cons, List.length_nil, List.length_append]; omega) | (refine lt1000 ?_; omega))
local macro_rules | `(tactic| walk_at "ix") => `(tactic| first | rfl | with_reducible assumption)
local macro_rules | `(tactic| walk_at "rg") => `(tactic| exact RgOk.of_le (by omega) (by omega) (by omega) (by omega))
local macro_rules | `(tactic| walk_at "sp") => `(tactic| fail "sp")
local macro_rules | `(tactic| walk_at "cl") => `(tactic| with_reducible assumption)
local macro_rules | `(tactic| walk_at "lk") => `(tactic| with_reducible assumption)
local macro_rules | `(tactic| walk_at "it") => `(tactic| first | rfl | with_reducible assumption | exact atI_nat (by with_reducible assumption))
local macro_rules | `(tactic| walk_at "g1") => `(tactic| first
  | (with_reducible apply g_var); (focus rfl)
  | with_reducible apply g_c
  | with_reducible apply g_seq
  | with_reducible apply g_asg
  | with_reducible apply gg_name
  | with_reducible apply g_op
  | with_reducible apply g_cons
  | with_reducible apply g_nil
  | with_reducible apply g_cb
  | with_reducible apply g_fld
  | ((with_reducible apply g_kFld); (focus walk_at "hp"); (focus walk_at "cl"); (focus walk_at "cl"); (focus walk_at "lk"))
  | with_reducible apply g_call
  | walk_at "sp"
  | with_reducible apply g_ret
  | with_reducible apply g_drop
  | with_reducible apply g_test
  | with_reducible apply g_B
  | with_reducible apply g_kTest
  | with_reducible apply g_ifS
  | with_reducible apply g_kIfST
  | with_reducible apply g_kIfSF
  | with_reducible apply g_add
  | with_reducible apply g_sub
  | with_reducible apply g_lt
  | with_reducible apply g_le
  | with_reducible apply g_gt
  | with_reducible apply g_ge
  | with_reducible apply g_eqI
  | with_reducible apply g_neI
  | ((with_reducible apply g_mod); (focus first | decide | omega))
  | ((with_reducible apply g_mul); (focus first | (left; constructor <;> omega) | (right; constructor <;> omega)))
  | ((with_reducible apply g_fdiv); (focus (constructor <;> omega)))
  | ((with_reducible apply g_ixT); (focus walk_at "hp"); (focus walk_at "it"))
  | ((with_reducible apply g_ixL); (focus walk_at "hp"); (focus walk_at "it"))
  | with_reducible apply g_and
  | with_reducible apply g_or
  | with_reducible apply g_not
  | with_reducible apply g_kNotT
  | with_reducible apply g_kNotF
  | with_reducible apply g_if
  | with_reducible apply g_kAndT
  | with_reducible apply g_kAndF
  | with_reducible apply g_kOrT
  | with_reducible apply g_kOrF
  | with_reducible apply g_kIfT
  | with_reducible apply g_kIfF
  | with_reducible apply g_next
  | with_reducible apply g_andV
  | with_reducible apply g_orV
  | with_reducible apply g_notV
  | with_reducible apply g_kNotV
  | with_reducible apply g_kAndVT
  | with_reducible apply g_kAndVF
  | with_reducible apply g_chain
  | with_reducible apply g_kChainT
  | with_reducible apply g_kChainF
  | with_reducible apply g_tup
  | with_reducible apply g_lst
  | ((with_reducible apply g_kT); (focus walk_at "sz"); intro _ _ _ _ _)
  | ((with_reducible apply g_kL); (focus walk_at "sz"); intro _ _ _ _ _)
  | with_reducible apply g_un
  | with_reducible apply g_neg
  | with_reducible apply g_meth
  | ((with_reducible apply g_kMeth); (focus walk_at "hp"); (focus walk_at "lk"))
  | with_reducible apply g_prop
  | ((with_reducible apply g_kProp); (focus walk_at "hp"))
  | with_reducible apply g_make
  | with_reducible apply g_par
  | with_reducible apply g_kPar
  | ((with_reducible apply g_lenLM); (focus walk_at "hp"))
  | ((with_reducible apply g_lenTM); (focus walk_at "hp"))
  | ((with_reducible apply g_lenL); (focus walk_at "hp"))
  | ((with_reducible apply g_lenT); (focus walk_at "hp"))
  | with_reducible apply g_int1
  | with_reducible apply g_max2
  | with_reducible apply g_min2
  | ((with_reducible apply g_listL); (focus walk_at "hp"); intro _ _ _ _ _)
  | ((with_reducible apply g_listT); (focus walk_at "hp"); intro _ _ _ _ _)
  | ((with_reducible apply g_tupL); (focus walk_at "hp"); intro _ _ _ _ _)
  | ((with_reducible apply g_sum); (focus walk_at "hp"))
  | with_reducible apply g_sfld
  | with_reducible apply g_sl
  | with_reducible apply g_nopart
  | with_reducible apply g_part
  | with_reducible apply g_kPart
  | with_reducible apply g_lstRg
  | with_reducible apply g_rg1
  | with_reducible apply g_kRg1
  | with_reducible apply g_bm
  | with_reducible apply gg_sub
  | ((with_reducible apply gg_tup); (focus walk_at "hp"); (focus rfl))
  | with_reducible apply gg_cons
  | with_reducible apply gg_nil
  | with_reducible apply g_forL
  | with_reducible apply g_forT
  | with_reducible apply g_forR1
  | with_reducible apply g_forR2
  | with_reducible apply g_forE
  | with_reducible apply g_forEL
  | ((with_reducible apply g_maxT); (focus walk_at "hp"); (focus walk_at "nn"))
  | ((with_reducible apply g_maxL); (focus walk_at "hp"); (focus walk_at "nn"))
  | ((with_reducible apply g_catA); (focus walk_at "hp"); (focus walk_at "hp"); (focus walk_at "sz"); intro _ _ _ _)
  | ((with_reducible apply g_slA); (focus walk_at "hp"); intro _ _ _ _)
  | ((with_reducible apply g_tupD); (focus walk_at "hp"); intro _ _ _ _ _)
  | ((with_reducible apply g_setL); (focus walk_at "hp"); (focus walk_at "ix"); intro _ _ _)
  | ((with_reducible apply g_append); (focus walk_at "hp"); (focus walk_at "sl"); intro _ _ _)
  | ((with_reducible apply g_aug); (focus rfl))
  | with_reducible apply g_ipI
  | with_reducible apply g_retN
  | with_reducible apply g_lcR1
  | with_reducible apply g_lcR2
  | with_reducible apply g_lcL
  | with_reducible apply g_lcU
  | with_reducible apply g_lcN
  | ((with_reducible apply g_kLcG); (focus rfl))
  | with_reducible apply g_yes
  | with_reducible apply g_kLcTT
  | with_reducible apply g_kLcTF
  | ((with_reducible apply g_kLcE); (focus walk_at "hp"); (focus walk_at "sl"); intro _ _ _)
  | ((with_reducible apply g_pow); (focus (constructor <;> (try constructor) <;> decide)))
  | ((with_reducible apply g_kLRg); (focus walk_at "rg"); intro _ _ _ _ _)
  | ((with_reducible apply g_cat); (focus walk_at "hp"); (focus walk_at "hp"); (focus walk_at "sz"); intro _ _ _ _ _)
  | ((with_reducible apply g_slL); (focus walk_at "hp"); intro _ _ _ _ _)
  | with_reducible apply g_bmT
  | with_reducible apply g_break
  | with_reducible apply g_cont)
local macro_rules | `(tactic| walk_at "g0") => `(tactic| try dsimp only [L2.cxOf, L2.Cx.nox, L2.Cx.wish])
local macro_rules | `(tactic| walk_at "yn") => `(tactic| first
  | ((with_reducible apply y_kIfS); (focus walk_at "tr"))
  | ((with_reducible apply n_kIfS); (focus walk_at "tr"))
  | ((with_reducible apply y_kOr); (focus walk_at "tr"))
  | ((with_reducible apply n_kOr); (focus walk_at "tr"))
  | ((with_reducible apply y_kAnd); (focus walk_at "tr"))
  | ((with_reducible apply n_kAnd); (focus walk_at "tr"))
  | ((with_reducible apply y_kNot); (focus walk_at "tr"))
  | ((with_reducible apply n_kNot); (focus walk_at "tr"))
  | ((with_reducible apply y_kIf); (focus walk_at "tr"))
  | ((with_reducible apply n_kIf); (focus walk_at "tr"))
  | ((with_reducible apply y_kAndV); (focus walk_at "tr"))
  | ((with_reducible apply n_kAndV); (focus walk_at "tr"))
  | ((with_reducible apply y_kOrV); (focus walk_at "tr"))
  | ((with_reducible apply n_kOrV); (focus walk_at "tr"))
  | ((with_reducible apply y_kChain); (focus walk_at "tr"))
  | ((with_reducible apply n_kChain); (focus walk_at "tr"))
  | ((with_reducible apply y_kLcT); (focus walk_at "tr"))
  | ((with_reducible apply n_kLcT); (focus walk_at "tr"))
  | ((with_reducible apply y_kWh); (focus walk_at "tr"))
  | ((with_reducible apply n_kWh); (focus walk_at "tr")))
local macro_rules | `(tactic| walk_at "go") => `(tactic| repeat (first | walk_at "g1" | walk_at "yn"))
local macro_rules | `(tactic| walk_at "hp") => `(tactic| first
  | ((with_reducible apply RingIn.ex); (focus walk_at "as"); walk_at "hp")
  | ((with_reducible apply RingAt.ex); (focus walk_at "as"); walk_at "hp")
  | ((with_reducible apply RingIn.exb); (focus walk_at "as"); (focus walk_at "hp"); walk_at "hp")
  | ((with_reducible apply RingAt.exb); (focus walk_at "as"); (focus walk_at "hp"); walk_at "hp")
  | ((with_reducible apply TupK.ex); (focus walk_at "as"); walk_at "hp")
  | ((with_reducible apply TupK.exb); (focus walk_at "as"); (focus walk_at "hp"); walk_at "hp"))
local macro_rules | `(tactic| walk_at "lk") => `(tactic| first | with_reducible exact rf_spans | with_reducible exact rf_heaps | with_reducible exact rf_total | with_reducible exact rf_nr | with_reducible exact rf_wd)
local macro_rules | `(tactic| walk_at "sp") => `(tactic| first
  | ((with_reducible apply g_isiTup); (focus walk_at "hp"))
  | ((with_reducible apply g_isiLst); (focus walk_at "hp"))
  | ((with_reducible apply g_isint); (focus omega); (focus omega))
  | ((with_reducible apply g_checkn); (focus omega); (focus omega))
  | ((with_reducible apply g_rbooks); (focus walk_at "hp"))
  | ((with_reducible apply g_rpace); (focus walk_at "hp"); intro _ _ _ _)
  | ((with_reducible apply g_rlen); (focus walk_at "hp"))
  | ((with_reducible apply g_rneed); (focus walk_at "hp"); (focus omega))
  | ((with_reducible apply g_rneedM); (focus walk_at "hp"))
  | ((with_reducible apply g_rwithM); (focus walk_at "hp"))
  | ((with_reducible apply g_rspans); (focus walk_at "hp"); (focus with_reducible assumption))
  | ((with_reducible apply g_rheaps); (focus walk_at "hp"); (focus with_reducible assumption))
  | ((with_reducible apply g_rtotal); (focus walk_at "hp"); (focus with_reducible assumption)))

local macro_rules | `(tactic| walk_at "sp") => `(tactic| first
  | ((with_reducible apply g_taken); (focus walk_at "hp"); (focus first | decide | omega); (focus first | decide | omega); intro _ _ _ _ _ _))
local macro_rules | `(tactic| walk_at "hp") => `(tactic| first
  | ((with_reducible apply DiceAt.ex); (focus walk_at "as"); walk_at "hp")
  | ((with_reducible apply exb_tD); (focus walk_at "as"); (focus walk_at "hp"); walk_at "hp")
  | ((with_reducible apply exb_insD); (focus walk_at "as"); (focus walk_at "hp"); walk_at "hp")
  | ((with_reducible apply RingIn.exD); (focus walk_at "as"); (focus walk_at "hp"); walk_at "hp")
  | ((with_reducible apply TupK.exD); (focus walk_at "as"); (focus walk_at "hp"); walk_at "hp"))

section
variable {P : Program} {w : World} {K : PySem.W.Frag} {mg : Str → Option Value} {base : Heap} {C CC : Addr}
inductive LeafV : V → Prop where
  | non : LeafV .non
  | bl (b : Bool) : LeafV (.bl b)
  | int (i : Int) : LeafV (.int i)
  | str (x : Str) : LeafV (.str x)
theorem LeafV.ty {H : Hp} {v : V} (h : LeafV v) : ∃ u rb ri rs, TyX K H v u ∧ PySem.W.kitOne K u (.type "tuple") = some false ∧ PySem.W.kitOne K u (.type "list") = some false ∧ PySem.W.kitOne K u (.type "bool") = some rb ∧ PySem.W.kitOne K u (.type "int") = some ri ∧ PySem.W.kitOne K u (.type "str") = some rs := by
  cases h with
  | non => exact ⟨.type "NoneType", false, false, false, .base .non, kit_ty (by decide +kernel), kit_ty (by decide +kernel), kit_ty (by decide +kernel), kit_ty (by decide +kernel), kit_ty (by decide +kernel)⟩
  | bl b => exact ⟨.type "bool", true, true, false, .base (.bl b), kit_ty (by decide +kernel), kit_ty (by decide +kernel), kit_ty (by decide +kernel), kit_ty (by decide +kernel), kit_ty (by decide +kernel)⟩
  | int i => exact ⟨.type "int", false, true, false, .base (.int i), kit_ty (by decide +kernel), kit_ty (by decide +kernel), kit_ty (by decide +kernel), kit_ty (by decide +kernel), kit_ty (by decide +kernel)⟩
  | str x => exact ⟨.type "str", false, false, true, .base (.str x), kit_ty (by decide +kernel), kit_ty (by decide +kernel), kit_ty (by decide +kernel), kit_ty (by decide +kernel), kit_ty (by decide +kernel)⟩
theorem LeafV.scal {v : V} (h : LeafV v) : scal v v = true := by cases h <;> rfl
/-- alike: the same data, of depth d at most -/
inductive Lk (K : PySem.W.Frag) (H : Hp) : Nat → V → V → Prop where
  | leaf {d : Nat} {v : V} (h : LeafV v) : Lk K H d v v
  | tup {d : Nat} {a b : Addr} {xs ys : List V} (h1 : SqT K H a xs) (h2 : SqT K H b ys) (l : xs.length = ys.length) (z : xs.length ≤ 10000) (q : ∀ (i : Nat) (x y : V), xs[i]? = some x → ys[i]? = some y → Lk K H d x y) : Lk K H (d + 1) (.ref a) (.ref b)
  | lst {d : Nat} {a b : Addr} {xs ys : List V} (h1 : SqL K H a xs) (h2 : SqL K H b ys) (l : xs.length = ys.length) (z : xs.length ≤ 10000) (q : ∀ (i : Nat) (x y : V), xs[i]? = some x → ys[i]? = some y → Lk K H d x y) : Lk K H (d + 1) (.ref a) (.ref b)
theorem Lk.ex {H H' : Hp} (e : Ex H H') {d : Nat} {x y : V} (h : Lk K H d x y) : Lk K H' d x y := by
  induction h with
  | leaf h => exact .leaf h
  | tup h1 h2 l z _ ih => exact .tup (ex_t e h1) (ex_t e h2) l z ih
  | lst h1 h2 l z _ ih => exact .lst (ex_l e h1) (ex_l e h2) l z ih
theorem Lk.int {H : Hp} {d : Nat} {i : Int} : Lk K H d (.int i) (.int i) := .leaf (.int i)
/-- two tuples of the same ints -/
theorem Lk.ints {H : Hp} {d : Nat} {a b : Addr} {ns : List Int} (h1 : SqT K H a (ns.map V.int)) (h2 : SqT K H b (ns.map V.int)) (z : ns.length ≤ 10000) : Lk K H (d + 1) (.ref a) (.ref b) :=
  .tup h1 h2 rfl (by rw [List.length_map]; exact z) fun i x y hx hy => by
    rw [hx] at hy
    cases hy
    obtain ⟨n, rfl, _⟩ := at_int hx
    exact .int
theorem Lk.intsL {H : Hp} {d : Nat} {a b : Addr} {ns : List Int} (h1 : SqL K H a (ns.map V.int)) (h2 : SqL K H b (ns.map V.int)) (z : ns.length ≤ 10000) : Lk K H (d + 1) (.ref a) (.ref b) :=
  .lst h1 h2 rfl (by rw [List.length_map]; exact z) fun i x y hx hy => by
    rw [hx] at hy
    cases hy
    obtain ⟨n, rfl, _⟩ := at_int hx
    exact .int
theorem g_isiTu {H : Hp} {Q : VK} {a : Addr} {xs : List V} {T : String} {r : Bool} (s : SqT K H a xs) (h : kitB "tuple" T = some r) (q : Q (.bl r) H) : rIsi K [.ref a, .ty T] H Q := g_isi (.ty _) (sqT_ty s) (kit_ty h) q
theorem g_isiLi {H : Hp} {Q : VK} {a : Addr} {xs : List V} {T : String} {r : Bool} (s : SqL K H a xs) (h : kitB "list" T = some r) (q : Q (.bl r) H) : rIsi K [.ref a, .ty T] H Q := g_isi (.ty _) (sqL_ty s) (kit_ty h) q
def sp_leaf : Sp := fun vs H Q _ => ∃ v, vs = [v, v] ∧ LeafV v ∧ Q (.bl true) H
def sp_likeD (K : PySem.W.Frag) (d : Nat) : Sp := fun vs H Q _ => ∃ x y, vs = [x, y] ∧ Lk K H d x y ∧ ∀ H', Ex H H' → Q (.bl true) H'
theorem leaf_body {f : Addr} {k : Nat} (Z : Blt mg) : Body P w K mg base "_law_like" N__law_like s__law_like f k sp_leaf := by
  intro cdv A outer s H vs Q E hr h
  obtain ⟨v, rfl, hv, q⟩ := h
  obtain ⟨u, rb, ri, rs, ty, k1, k2, k3, k4, k5⟩ := hv.ty (K := K) (H := H)
  refine ⟨_, PSs.nox (pss_cons (ps_if (PW.pt (pw_or (pt_val (pe_callB call_isi (by rfl) Z.zisinstance (by decide +kernel) (pa_cons (pv 1) (pa_cons (pe_bltn rfl Z.ztuple (v := .ty "tuple") (by decide +kernel) rfl) pa_nil)))) (pw_or1 (pt_val (pe_callB call_isi (by rfl) Z.zisinstance (by decide +kernel) (pa_cons (pv 1) (pa_cons (pe_bltn rfl Z.zlist (v := .ty "list") (by decide +kernel) rfl) pa_nil))))))) (pss_cons ps_never
          (pss_cons ps_never
          (pss_one ps_never))) pss_nil)
      (pss_cons (ps_if (pt_cmpR op_ne (pe_callB call_isi (by rfl) Z.zisinstance (by decide +kernel) (pa_cons (pv 0) (pa_cons (pe_bltn rfl Z.zbool (v := .ty "bool") (by decide +kernel) rfl) pa_nil))) (pe_callB call_isi (by rfl) Z.zisinstance (by decide +kernel) (pa_cons (pv 1) (pa_cons (pe_bltn rfl Z.zbool (v := .ty "bool") (by decide +kernel) rfl) pa_nil))) (nomark _)) (pss_one (ps_ret pe_bl)) pss_nil)
      (pss_cons (ps_if (PW.pt (pw_or (pt_cmpR op_ne (pe_callB call_isi (by rfl) Z.zisinstance (by decide +kernel) (pa_cons (pv 0) (pa_cons (pe_bltn rfl Z.zint (v := .ty "int") (by decide +kernel) rfl) pa_nil))) (pe_callB call_isi (by rfl) Z.zisinstance (by decide +kernel) (pa_cons (pv 1) (pa_cons (pe_bltn rfl Z.zint (v := .ty "int") (by decide +kernel) rfl) pa_nil))) (nomark _)) (pw_or1 (pt_cmpR op_ne (pe_callB call_isi (by rfl) Z.zisinstance (by decide +kernel) (pa_cons (pv 0) (pa_cons (pe_bltn rfl Z.zstr (v := .ty "str") (by decide +kernel) rfl) pa_nil))) (pe_callB call_isi (by rfl) Z.zisinstance (by decide +kernel) (pa_cons (pv 1) (pa_cons (pe_bltn rfl Z.zstr (v := .ty "str") (by decide +kernel) rfl) pa_nil))) (nomark _))))) (pss_one (ps_ret pe_bl)) pss_nil)
      (pss_one (ps_ret (pe_cmpR op_eq (pv 0) (pv 1) (nomark _))))))), ?_⟩
  walk_at "g0"
  walk_at "go"
  refine g_isi (.ty _) ty k1 ?_
  walk_at "go"
  refine g_isi (.ty _) ty k2 ?_
  walk_at "go"
  refine g_isi (.ty _) ty k3 ?_
  walk_at "go"
  refine g_isi (.ty _) ty k3 ?_
  refine g_neS rfl ?_
  rw [decide_eq_true (rfl : V.bl rb = V.bl rb)]
  walk_at "go"
  refine g_isi (.ty _) ty k4 ?_
  walk_at "go"
  refine g_isi (.ty _) ty k4 ?_
  refine g_neS rfl ?_
  rw [decide_eq_true (rfl : V.bl ri = V.bl ri)]
  walk_at "go"
  refine g_isi (.ty _) ty k5 ?_
  walk_at "go"
  refine g_isi (.ty _) ty k5 ?_
  refine g_neS rfl ?_
  rw [decide_eq_true (rfl : V.bl rs = V.bl rs)]
  walk_at "go"
  refine g_eqS hv.scal ?_
  rw [decide_eq_true rfl]
  exact q
theorem g_emptyEq {H : Hp} {a b : Addr} {Q : VK} (h1 : SqL K H a []) (h2 : SqL K H b []) (q : Q (.bl true) H) : rEqD K (.ref a) (.ref b) H Q := g_eqLI (xs := []) (ys := []) h1 h2 (by rw [decide_eq_true rfl]; exact q)
theorem like_step {k d : Nat} (Z : Blt mg) (G : GFun K mg "_law_like" s__law_like) (D__law_like : Df P w K mg base k "_law_like" ["_law_found", "_law_due"] (sp_likeD K d)) : Df P w K mg base (k + 2) "_law_like" ["_law_found", "_law_due"] (sp_likeD K (d + 1)) := by
  refine Df.of G sc__law_like b__law_like (fun vs H Q E h => ?_) (fun f cdv A outer s H vs Q E hr h => ?_)
  · obtain ⟨x, y, rfl, _⟩ := h
    rfl
  obtain ⟨x, y, rfl, h, q⟩ := h
  cases h with
  | leaf hv => exact leaf_body Z cdv A outer s H _ Q E hr ⟨_, rfl, hv, q H (Ex.refl _)⟩
  | @tup _ a b xs ys ha hb hl hz hq =>
    refine ⟨_, PSs.nox (pss_cons (ps_if (PW.pt (pw_or (pt_val (pe_callB call_isi (by rfl) Z.zisinstance (by decide +kernel) (pa_cons (pv 1) (pa_cons (pe_bltn rfl Z.ztuple (v := .ty "tuple") (by decide +kernel) rfl) pa_nil)))) (pw_or1 (pt_val (pe_callB call_isi (by rfl) Z.zisinstance (by decide +kernel) (pa_cons (pv 1) (pa_cons (pe_bltn rfl Z.zlist (v := .ty "list") (by decide +kernel) rfl) pa_nil))))))) (pss_cons (ps_if (pt_cmpR op_ne (pe_callB call_isi (by rfl) Z.zisinstance (by decide +kernel) (pa_cons (pv 0) (pa_cons (pe_bltn rfl Z.ztuple (v := .ty "tuple") (by decide +kernel) rfl) pa_nil))) (pe_callB call_isi (by rfl) Z.zisinstance (by decide +kernel) (pa_cons (pv 1) (pa_cons (pe_bltn rfl Z.ztuple (v := .ty "tuple") (by decide +kernel) rfl) pa_nil))) (nomark _)) (pss_one (ps_ret pe_bl)) pss_nil)
          (pss_cons (ps_if (PW.pt (pw_or (pt_cmpR op_ne (pe_callB call_isi (by rfl) Z.zisinstance (by decide +kernel) (pa_cons (pv 0) (pa_cons (pe_bltn rfl Z.zlist (v := .ty "list") (by decide +kernel) rfl) pa_nil))) (pe_callB call_isi (by rfl) Z.zisinstance (by decide +kernel) (pa_cons (pv 1) (pa_cons (pe_bltn rfl Z.zlist (v := .ty "list") (by decide +kernel) rfl) pa_nil))) (nomark _)) (pw_or1 (pt_cmpR op_ne (pe_callB c_len (by rfl) Z.zlen PySem.boot_len (pa_cons (pv 0) pa_nil)) (pe_callB c_len (by rfl) Z.zlen PySem.boot_len (pa_cons (pv 1) pa_nil)) (nomark _))))) (pss_one (ps_ret pe_bl)) pss_nil)
          (pss_one (ps_ret (pe_cmpR (op_eqD hr.units) (pe_lc (own := [("_law_k", 2)]) rfl sc__law_like.nd (pi_range1 (by rfl) Z.zrange (pa_cons (pe_callB c_len (by rfl) Z.zlen PySem.boot_len (pa_cons (pv 1) pa_nil)) pa_nil)) (blkOk_by (N := N__law_like) (sc := defScope s__law_like) (by decide +kernel)) (fun _ _ _ _ _ => (pg_name (i := 2) sc__law_like.nd rfl (by first | exact Or.inl rfl | exact Or.inr rfl))) (fun _ _ _ _ _ => (pts_one (pt_not (pt_val (pg D__law_like hr (pa_cons (pe_ix (ix_tupK K) (pv 0) (pv 2) (fun _ _ => rfl)) (pa_cons (pe_ix (ix_tupK K) (pv 1) (pv 2) (fun _ _ => rfl)) pa_nil)) (hk := Nat.le_succ _)))))) (fun _ _ _ _ _ => (pv 2))) (pe_lst pa_nil) (nomark _)))))) pss_nil)
      (pss_cons ps_never
      (pss_cons ps_never
      (pss_one ps_never)))), ?_⟩
    walk_at "g0"
    walk_at "go"
    refine g_neS rfl ?_
    rw [decide_eq_true (rfl : V.bl true = V.bl true)]
    walk_at "go"
    refine g_isiTu ha (r := false) (by decide +kernel) ?_
    walk_at "go"
    refine g_isiTu hb (r := false) (by decide +kernel) ?_
    refine g_neS rfl ?_
    rw [decide_eq_true (rfl : V.bl false = V.bl false)]
    walk_at "go"
    refine g_kLcR1 ⟨by omega, by omega⟩ (fun A i H' => Ex H H' ∧ H' A = some (.lst [])) (fun A H1 nA e1 hA => ⟨e1, hA⟩) ?_ ?_
    · rintro A i H1 nA hi ⟨e1, hA⟩
      have hx : xs[i]? = some xs[i] := List.getElem?_eq_getElem (by omega)
      have hy : ys[i]? = some ys[i] := List.getElem?_eq_getElem (by omega)
      walk_at "go"
      refine ⟨_, _, rfl, (hq i _ _ hx hy).ex e1, fun H2 e2 => ?_⟩
      walk_at "go"
      exact ⟨e1.trans e2, e2 _ _ hA⟩
    · rintro A H1 nA ⟨e1, hA⟩
      walk_at "go"
      rename_i l2 H2 n2 e2 h2
      exact g_emptyEq (SqL.of (e2 _ _ hA)) (SqL.of h2) (q _ (e1.trans e2))
  | @lst _ a b xs ys ha hb hl hz hq =>
    refine ⟨_, PSs.nox (pss_cons (ps_if (PW.pt (pw_or (pt_val (pe_callB call_isi (by rfl) Z.zisinstance (by decide +kernel) (pa_cons (pv 1) (pa_cons (pe_bltn rfl Z.ztuple (v := .ty "tuple") (by decide +kernel) rfl) pa_nil)))) (pw_or1 (pt_val (pe_callB call_isi (by rfl) Z.zisinstance (by decide +kernel) (pa_cons (pv 1) (pa_cons (pe_bltn rfl Z.zlist (v := .ty "list") (by decide +kernel) rfl) pa_nil))))))) (pss_cons (ps_if (pt_cmpR op_ne (pe_callB call_isi (by rfl) Z.zisinstance (by decide +kernel) (pa_cons (pv 0) (pa_cons (pe_bltn rfl Z.ztuple (v := .ty "tuple") (by decide +kernel) rfl) pa_nil))) (pe_callB call_isi (by rfl) Z.zisinstance (by decide +kernel) (pa_cons (pv 1) (pa_cons (pe_bltn rfl Z.ztuple (v := .ty "tuple") (by decide +kernel) rfl) pa_nil))) (nomark _)) (pss_one (ps_ret pe_bl)) pss_nil)
          (pss_cons (ps_if (PW.pt (pw_or (pt_cmpR op_ne (pe_callB call_isi (by rfl) Z.zisinstance (by decide +kernel) (pa_cons (pv 0) (pa_cons (pe_bltn rfl Z.zlist (v := .ty "list") (by decide +kernel) rfl) pa_nil))) (pe_callB call_isi (by rfl) Z.zisinstance (by decide +kernel) (pa_cons (pv 1) (pa_cons (pe_bltn rfl Z.zlist (v := .ty "list") (by decide +kernel) rfl) pa_nil))) (nomark _)) (pw_or1 (pt_cmpR op_ne (pe_callB c_len (by rfl) Z.zlen PySem.boot_len (pa_cons (pv 0) pa_nil)) (pe_callB c_len (by rfl) Z.zlen PySem.boot_len (pa_cons (pv 1) pa_nil)) (nomark _))))) (pss_one (ps_ret pe_bl)) pss_nil)
          (pss_one (ps_ret (pe_cmpR (op_eqD hr.units) (pe_lc (own := [("_law_k", 2)]) rfl sc__law_like.nd (pi_range1 (by rfl) Z.zrange (pa_cons (pe_callB c_len (by rfl) Z.zlen PySem.boot_len (pa_cons (pv 1) pa_nil)) pa_nil)) (blkOk_by (N := N__law_like) (sc := defScope s__law_like) (by decide +kernel)) (fun _ _ _ _ _ => (pg_name (i := 2) sc__law_like.nd rfl (by first | exact Or.inl rfl | exact Or.inr rfl))) (fun _ _ _ _ _ => (pts_one (pt_not (pt_val (pg D__law_like hr (pa_cons (pe_ix (ix_listK K) (pv 0) (pv 2) (fun _ _ => rfl)) (pa_cons (pe_ix (ix_listK K) (pv 1) (pv 2) (fun _ _ => rfl)) pa_nil)) (hk := Nat.le_succ _)))))) (fun _ _ _ _ _ => (pv 2))) (pe_lst pa_nil) (nomark _)))))) pss_nil)
      (pss_cons ps_never
      (pss_cons ps_never
      (pss_one ps_never)))), ?_⟩
    walk_at "g0"
    walk_at "go"
    refine g_isiLi hb (r := false) (by decide +kernel) ?_
    walk_at "go"
    refine g_isiLi ha (r := false) (by decide +kernel) ?_
    walk_at "go"
    refine g_isiLi hb (r := false) (by decide +kernel) ?_
    refine g_neS rfl ?_
    rw [decide_eq_true (rfl : V.bl false = V.bl false)]
    walk_at "go"
    refine g_neS rfl ?_
    rw [decide_eq_true (rfl : V.bl true = V.bl true)]
    walk_at "go"
    refine g_kLcR1 ⟨by omega, by omega⟩ (fun A i H' => Ex H H' ∧ H' A = some (.lst [])) (fun A H1 nA e1 hA => ⟨e1, hA⟩) ?_ ?_
    · rintro A i H1 nA hi ⟨e1, hA⟩
      have hx : xs[i]? = some xs[i] := List.getElem?_eq_getElem (by omega)
      have hy : ys[i]? = some ys[i] := List.getElem?_eq_getElem (by omega)
      walk_at "go"
      refine ⟨_, _, rfl, (hq i _ _ hx hy).ex e1, fun H2 e2 => ?_⟩
      walk_at "go"
      exact ⟨e1.trans e2, e2 _ _ hA⟩
    · rintro A H1 nA ⟨e1, hA⟩
      walk_at "go"
      rename_i l2 H2 n2 e2 h2
      exact g_emptyEq (SqL.of (e2 _ _ hA)) (SqL.of h2) (q _ (e1.trans e2))
theorem ok_like (Z : Blt mg) (G : GFun K mg "_law_like" s__law_like) : Df P w K mg base 7 "_law_like" ["_law_found", "_law_due"] (sp_likeD K 3) := by
  have D0 : Df P w K mg base 1 "_law_like" ["_law_found", "_law_due"] (sp_likeD K 0) := by
    refine Df.of G sc__law_like b__law_like (fun vs H Q E h => ?_) (fun f cdv A outer s H vs Q E hr h => ?_)
    · obtain ⟨x, y, rfl, _⟩ := h
      rfl
    · obtain ⟨x, y, rfl, h, q⟩ := h
      cases h with
      | leaf hv => exact leaf_body Z cdv A outer s H _ Q E hr ⟨_, rfl, hv, q H (Ex.refl _)⟩
  exact like_step Z G (like_step Z G (like_step Z G D0))
end
end G48

namespace G48
open PySem PySem.Spec PyProof.Rows L2 Evl
abbrev N__law_terms : List Str := ["_law_one", "_law_other", "_law_low", "_law_k"]
theorem sc__law_terms : FnScope N__law_terms ["_law_one", "_law_other"] (defScope s__law_terms) := ⟨rfl, rfl, rfl, by decide +kernel, rfl, by decide +kernel, by decide +kernel⟩
theorem b__law_terms : BindL "_law_terms" "_law_terms" s__law_terms ["_law_one", "_law_other"] := fun _ _ _ _ _ _ us hl => match us, hl with | [_, _], _ => rfl
abbrev N__law_pace : List Str := ["_law_days", "_law_books"]
theorem sc__law_pace : FnScope N__law_pace ["_law_days", "_law_books"] (defScope s__law_pace) := ⟨rfl, rfl, rfl, by decide +kernel, rfl, by decide +kernel, by decide +kernel⟩
theorem b__law_pace : BindL "_law_pace" "_law_pace" s__law_pace ["_law_days", "_law_books"] := fun _ _ _ _ _ _ us hl => match us, hl with | [_, _], _ => rfl
end G48
/-! fractions in lowest terms by trial, the law's own pace -/
namespace G48
open PySem PySem.Spec PyProof.Rows L2 Evl
/-! the steps -/
local macro_rules | `(tactic| walk_at "as") => `(tactic| with_reducible assumption)
local macro_rules | `(tactic| walk_at "hp") => `(tactic| first
  | with_reducible assumption
  | ((with_reducible apply SqT.of); walk_at "as")
  | ((with_reducible apply SqL.of); walk_at "as")
  | ((with_reducible apply ex_at); (focus walk_at "as"); walk_at "hp")
  | ((with_reducible apply ex_t); (focus walk_at "as"); walk_at "hp")
  | ((with_reducible apply ex_l); (focus walk_at "as"); walk_at "hp")
  | ((with_reducible apply exb_ins); (focus walk_at "as"); (focus walk_at "hp"); walk_at "hp")
  | ((with_reducible apply exb_t); (focus walk_at "as"); (focus walk_at "hp"); walk_at "hp")
  | ((with_reducible apply exb_at); (focus walk_at "as"); (focus walk_at "ne"); walk_at "hp")
  | ((with_reducible apply exb_l); (focus walk_at "as"); (focus walk_at "ne"); walk_at "hp"))
local macro_rules | `(tactic| walk_at "ne") => `(tactic| first
  | with_reducible assumption
  | exact Ne.symm (by with_reducible assumption)
  | exact ne_of_none (by with_reducible assumption) (by with_reducible assumption)
  | exact Ne.symm (ne_of_none (by with_reducible assumption) (by with_reducible assumption)))
local macro_rules | `(tactic| walk_at "tr") => `(tactic| first
  | rfl
  | with_reducible assumption
  | exact decide_eq_true (by first | with_reducible assumption | omega)
  | exact decide_eq_false (by first | with_reducible assumption | omega)
  | (rw [Bool.not_eq_true']; exact decide_eq_false (by first | with_reducible assumption | omega))
  | (rw [Bool.not_eq_false']; exact decide_eq_true (by first | with_reducible assumption | omega)))
local macro_rules | `(tactic| walk_at "nn") => `(tactic| first | with_reducible assumption | (exact List.cons_ne_nil _ _))
local macro_rules | `(tactic| walk_at "sz") => `(tactic| first | (exact sz1000 (Nat.le_of_ble_eq_true rfl)) | (refine sz1000 ?_; simp only [List.length_map, List.length_cons, List.length_nil, List.length_append]; omega) | with_reducible assumption)
local macro_rules | `(tactic| walk_at "sl") => `(tactic| first | with_reducible assumption | (refine lt1000 ?_; simp only [List.length_map, List.length_cons, List.length_nil, List.length_append]; omega) | (refine lt1000 ?_; omega))
local macro_rules | `(tactic| walk_at "ix") => `(tactic| first | rfl | with_reducible assumption)
local macro_rules | `(tactic| walk_at "rg") => `(tactic| exact RgOk.of_le (by omega) (by omega) (by omega) (by omega))
local macro_rules | `(tactic| walk_at "sp") => `(tactic| fail "sp")
local macro_rules | `(tactic| walk_at "cl") => `(tactic| with_reducible assumption)
local macro_rules | `(tactic| walk_at "lk") => `(tactic| with_reducible assumption)
local macro_rules | `(tactic| walk_at "it") => `(tactic| first | rfl | with_reducible assumption | exact atI_nat (by with_reducible assumption))
local macro_rules | `(tactic| walk_at "g1") => `(tactic| first
  | (with_reducible apply g_var); (focus rfl)
  | with_reducible apply g_c
  | with_reducible apply g_seq
  | with_reducible apply g_asg
  | with_reducible apply gg_name
  | with_reducible apply g_op
  | with_reducible apply g_cons
  | with_reducible apply g_nil
  | with_reducible apply g_cb
  | with_reducible apply g_fld
  | ((with_reducible apply g_kFld); (focus walk_at "hp"); (focus walk_at "cl"); (focus walk_at "cl"); (focus walk_at "lk"))
  | with_reducible apply g_call
  | walk_at "sp"
  | with_reducible apply g_ret
  | with_reducible apply g_drop
  | with_reducible apply g_test
  | with_reducible apply g_B
  | with_reducible apply g_kTest
  | with_reducible apply g_ifS
  | with_reducible apply g_kIfST
  | with_reducible apply g_kIfSF
  | with_reducible apply g_add
  | with_reducible apply g_sub
  | with_reducible apply g_lt
  | with_reducible apply g_le
  | with_reducible apply g_gt
  | with_reducible apply g_ge
  | with_reducible apply g_eqI
  | with_reducible apply g_neI
  | ((with_reducible apply g_mod); (focus first | decide | omega))
  | ((with_reducible apply g_mul); (focus first | (left; constructor <;> omega) | (right; constructor <;> omega)))
  | ((with_reducible apply g_fdiv); (focus (constructor <;> omega)))
  | ((with_reducible apply g_ixT); (focus walk_at "hp"); (focus walk_at "it"))
  | ((with_reducible apply g_ixL); (focus walk_at "hp"); (focus walk_at "it"))
  | with_reducible apply g_and
  | with_reducible apply g_or
  | with_reducible apply g_not
  | with_reducible apply g_kNotT
  | with_reducible apply g_kNotF
  | with_reducible apply g_if
  | with_reducible apply g_kAndT
  | with_reducible apply g_kAndF
  | with_reducible apply g_kOrT
  | with_reducible apply g_kOrF
  | with_reducible apply g_kIfT
  | with_reducible apply g_kIfF
  | with_reducible apply g_next
  | with_reducible apply g_andV
  | with_reducible apply g_orV
  | with_reducible apply g_notV
  | with_reducible apply g_kNotV
  | with_reducible apply g_kAndVT
  | with_reducible apply g_kAndVF
  | with_reducible apply g_chain
  | with_reducible apply g_kChainT
  | with_reducible apply g_kChainF
  | with_reducible apply g_tup
  | with_reducible apply g_lst
  | ((with_reducible apply g_kT); (focus walk_at "sz"); intro _ _ _ _ _)
  | ((with_reducible apply g_kL); (focus walk_at "sz"); intro _ _ _ _ _)
  | with_reducible apply g_un
  | with_reducible apply g_neg
  | with_reducible apply g_meth
  | ((with_reducible apply g_kMeth); (focus walk_at "hp"); (focus walk_at "lk"))
  | with_reducible apply g_prop
  | ((with_reducible apply g_kProp); (focus walk_at "hp"))
  | with_reducible apply g_make
  | with_reducible apply g_par
  | with_reducible apply g_kPar
  | ((with_reducible apply g_lenLM); (focus walk_at "hp"))
  | ((with_reducible apply g_lenTM); (focus walk_at "hp"))
  | ((with_reducible apply g_lenL); (focus walk_at "hp"))
  | ((with_reducible apply g_lenT); (focus walk_at "hp"))
  | with_reducible apply g_int1
  | with_reducible apply g_max2
  | with_reducible apply g_min2
  | ((with_reducible apply g_listL); (focus walk_at "hp"); intro _ _ _ _ _)
  | ((with_reducible apply g_listT); (focus walk_at "hp"); intro _ _ _ _ _)
  | ((with_reducible apply g_tupL); (focus walk_at "hp"); intro _ _ _ _ _)
  | ((with_reducible apply g_sum); (focus walk_at "hp"))
  | with_reducible apply g_sfld
  | with_reducible apply g_sl
  | with_reducible apply g_nopart
  | with_reducible apply g_part
  | with_reducible apply g_kPart
  | with_reducible apply g_lstRg
  | with_reducible apply g_rg1
  | with_reducible apply g_kRg1
  | with_reducible apply g_bm
  | with_reducible apply gg_sub
  | ((with_reducible apply gg_tup); (focus walk_at "hp"); (focus rfl))
  | with_reducible apply gg_cons
  | with_reducible apply gg_nil
  | with_reducible apply g_forL
  | with_reducible apply g_forT
  | with_reducible apply g_forR1
  | with_reducible apply g_forR2
  | with_reducible apply g_forE
  | with_reducible apply g_forEL
  | ((with_reducible apply g_maxT); (focus walk_at "hp"); (focus walk_at "nn"))
  | ((with_reducible apply g_maxL); (focus walk_at "hp"); (focus walk_at "nn"))
  | ((with_reducible apply g_catA); (focus walk_at "hp"); (focus walk_at "hp"); (focus walk_at "sz"); intro _ _ _ _)
  | ((with_reducible apply g_slA); (focus walk_at "hp"); intro _ _ _ _)
  | ((with_reducible apply g_tupD); (focus walk_at "hp"); intro _ _ _ _ _)
  | ((with_reducible apply g_setL); (focus walk_at "hp"); (focus walk_at "ix"); intro _ _ _)
  | ((with_reducible apply g_append); (focus walk_at "hp"); (focus walk_at "sl"); intro _ _ _)
  | ((with_reducible apply g_aug); (focus rfl))
  | with_reducible apply g_ipI
  | with_reducible apply g_retN
  | with_reducible apply g_lcR1
  | with_reducible apply g_lcR2
  | with_reducible apply g_lcL
  | with_reducible apply g_lcU
  | with_reducible apply g_lcN
  | ((with_reducible apply g_kLcG); (focus rfl))
  | with_reducible apply g_yes
  | with_reducible apply g_kLcTT
  | with_reducible apply g_kLcTF
  | ((with_reducible apply g_kLcE); (focus walk_at "hp"); (focus walk_at "sl"); intro _ _ _)
  | ((with_reducible apply g_pow); (focus (constructor <;> (try constructor) <;> decide)))
  | ((with_reducible apply g_kLRg); (focus walk_at "rg"); intro _ _ _ _ _)
  | ((with_reducible apply g_cat); (focus walk_at "hp"); (focus walk_at "hp"); (focus walk_at "sz"); intro _ _ _ _ _)
  | ((with_reducible apply g_slL); (focus walk_at "hp"); intro _ _ _ _ _)
  | with_reducible apply g_bmT
  | with_reducible apply g_break
  | with_reducible apply g_cont)
local macro_rules | `(tactic| walk_at "g0") => `(tactic| try dsimp only [L2.cxOf, L2.Cx.nox, L2.Cx.wish])
local macro_rules | `(tactic| walk_at "yn") => `(tactic| first
  | ((with_reducible apply y_kIfS); (focus walk_at "tr"))
  | ((with_reducible apply n_kIfS); (focus walk_at "tr"))
  | ((with_reducible apply y_kOr); (focus walk_at "tr"))
  | ((with_reducible apply n_kOr); (focus walk_at "tr"))
  | ((with_reducible apply y_kAnd); (focus walk_at "tr"))
  | ((with_reducible apply n_kAnd); (focus walk_at "tr"))
  | ((with_reducible apply y_kNot); (focus walk_at "tr"))
  | ((with_reducible apply n_kNot); (focus walk_at "tr"))
  | ((with_reducible apply y_kIf); (focus walk_at "tr"))
  | ((with_reducible apply n_kIf); (focus walk_at "tr"))
  | ((with_reducible apply y_kAndV); (focus walk_at "tr"))
  | ((with_reducible apply n_kAndV); (focus walk_at "tr"))
  | ((with_reducible apply y_kOrV); (focus walk_at "tr"))
  | ((with_reducible apply n_kOrV); (focus walk_at "tr"))
  | ((with_reducible apply y_kChain); (focus walk_at "tr"))
  | ((with_reducible apply n_kChain); (focus walk_at "tr"))
  | ((with_reducible apply y_kLcT); (focus walk_at "tr"))
  | ((with_reducible apply n_kLcT); (focus walk_at "tr"))
  | ((with_reducible apply y_kWh); (focus walk_at "tr"))
  | ((with_reducible apply n_kWh); (focus walk_at "tr")))
local macro_rules | `(tactic| walk_at "go") => `(tactic| repeat (first | walk_at "g1" | walk_at "yn"))
local macro_rules | `(tactic| walk_at "hp") => `(tactic| first
  | ((with_reducible apply RingIn.ex); (focus walk_at "as"); walk_at "hp")
  | ((with_reducible apply RingAt.ex); (focus walk_at "as"); walk_at "hp")
  | ((with_reducible apply RingIn.exb); (focus walk_at "as"); (focus walk_at "hp"); walk_at "hp")
  | ((with_reducible apply RingAt.exb); (focus walk_at "as"); (focus walk_at "hp"); walk_at "hp")
  | ((with_reducible apply TupK.ex); (focus walk_at "as"); walk_at "hp")
  | ((with_reducible apply TupK.exb); (focus walk_at "as"); (focus walk_at "hp"); walk_at "hp"))
local macro_rules | `(tactic| walk_at "lk") => `(tactic| first | with_reducible exact rf_spans | with_reducible exact rf_heaps | with_reducible exact rf_total | with_reducible exact rf_nr | with_reducible exact rf_wd)
local macro_rules | `(tactic| walk_at "sp") => `(tactic| first
  | ((with_reducible apply g_isiTup); (focus walk_at "hp"))
  | ((with_reducible apply g_isiLst); (focus walk_at "hp"))
  | ((with_reducible apply g_isint); (focus omega); (focus omega))
  | ((with_reducible apply g_checkn); (focus omega); (focus omega))
  | ((with_reducible apply g_rbooks); (focus walk_at "hp"))
  | ((with_reducible apply g_rpace); (focus walk_at "hp"); intro _ _ _ _)
  | ((with_reducible apply g_rlen); (focus walk_at "hp"))
  | ((with_reducible apply g_rneed); (focus walk_at "hp"); (focus omega))
  | ((with_reducible apply g_rneedM); (focus walk_at "hp"))
  | ((with_reducible apply g_rwithM); (focus walk_at "hp"))
  | ((with_reducible apply g_rspans); (focus walk_at "hp"); (focus with_reducible assumption))
  | ((with_reducible apply g_rheaps); (focus walk_at "hp"); (focus with_reducible assumption))
  | ((with_reducible apply g_rtotal); (focus walk_at "hp"); (focus with_reducible assumption)))

local macro_rules | `(tactic| walk_at "sp") => `(tactic| first
  | ((with_reducible apply g_taken); (focus walk_at "hp"); (focus first | decide | omega); (focus first | decide | omega); intro _ _ _ _ _ _))
local macro_rules | `(tactic| walk_at "hp") => `(tactic| first
  | ((with_reducible apply DiceAt.ex); (focus walk_at "as"); walk_at "hp")
  | ((with_reducible apply exb_tD); (focus walk_at "as"); (focus walk_at "hp"); walk_at "hp")
  | ((with_reducible apply exb_insD); (focus walk_at "as"); (focus walk_at "hp"); walk_at "hp")
  | ((with_reducible apply RingIn.exD); (focus walk_at "as"); (focus walk_at "hp"); walk_at "hp")
  | ((with_reducible apply TupK.exD); (focus walk_at "as"); (focus walk_at "hp"); walk_at "hp"))

/-- the common divisors among 1 .. n, ascending -/
def cds (a b : Int) (n : Nat) : List Int := ((List.range n).map fun (j : Nat) => (1 : Int) + (j : Int)).filter fun k => decide (a % k = 0) && decide (b % k = 0)
theorem cds_succ (a b : Int) (n : Nat) : cds a b (n + 1) = cds a b n ++ if (decide (a % (1 + (n : Int)) = 0) && decide (b % (1 + (n : Int)) = 0)) = true then [1 + (n : Int)] else [] := by
  unfold cds
  rw [List.range_succ, List.map_append, List.filter_append]
  congr 1
  rw [List.map_cons, List.map_nil, List.filter_cons, List.filter_nil]
theorem cds_last {a b : Int} {n : Nat} (ha : 0 < a) (hb : 0 < b) (h : Int.gcd a b ≤ n) : cds a b n = cds a b (Int.gcd a b - 1) ++ [((Int.gcd a b : Nat) : Int)] := by
  have g1 : 0 < Int.gcd a b := Int.gcd_pos_of_ne_zero_left b (by omega)
  induction n with
  | zero => omega
  | succ n ih =>
    rw [cds_succ]
    by_cases z : Int.gcd a b = n + 1
    · have d1 : a % (1 + (n : Int)) = 0 := Int.emod_eq_zero_of_dvd (by rw [show (1 : Int) + n = ((Int.gcd a b : Nat) : Int) by omega]; exact Int.gcd_dvd_left ..)
      have d2 : b % (1 + (n : Int)) = 0 := Int.emod_eq_zero_of_dvd (by rw [show (1 : Int) + n = ((Int.gcd a b : Nat) : Int) by omega]; exact Int.gcd_dvd_right ..)
      rw [if_pos (by rw [decide_eq_true d1, decide_eq_true d2]; rfl), z, show n + 1 - 1 = n by omega, show (1 : Int) + n = ((n + 1 : Nat) : Int) by omega]
    · rw [ih (by omega), if_neg, List.append_nil]
      intro hc
      rw [Bool.and_eq_true] at hc
      have d1 := Int.dvd_of_emod_eq_zero (of_decide_eq_true hc.1)
      have d2 := Int.dvd_of_emod_eq_zero (of_decide_eq_true hc.2)
      have d3 : ((1 + n : Nat) : Int) ∣ ((Int.gcd a b : Nat) : Int) := by
        rw [show ((1 + n : Nat) : Int) = 1 + (n : Int) by omega]
        exact Int.dvd_coe_gcd d1 d2
      have := Int.le_of_dvd (by omega) d3
      omega
theorem low_gcd {a b : Int} : low a b = (a / ((Int.gcd a b : Nat) : Int), b / ((Int.gcd a b : Nat) : Int)) := rfl
section
variable {P : Program} {w : World} {K : PySem.W.Frag} {mg : Str → Option Value} {base : Heap} {C CC : Addr}
def sp_terms (K : PySem.W.Frag) : Sp := fun vs H Q _ => ∃ a b : Int, vs = [.int a, .int b] ∧ (0 < a ∧ a ≤ 10000 ∧ 0 < b ∧ b ≤ 10000) ∧ RTup K H [.int (low a b).1, .int (low a b).2] Q
theorem ok_terms (Z : Blt mg) (G : GFun K mg "_law_terms" s__law_terms) : Df P w K mg base 1 "_law_terms" ["_law_one", "_law_other"] (sp_terms K) := by
  refine Df.of G sc__law_terms b__law_terms (fun vs H Q E h => ?_) (fun f cdv A outer s H vs Q E hr h => ?_)
  · obtain ⟨a, b, rfl, _⟩ := h
    rfl
  · obtain ⟨a, b, rfl, ⟨ha, ha2, hb, hb2⟩, q⟩ := h
    have g1 : 0 < Int.gcd a b := Int.gcd_pos_of_ne_zero_left b (by omega)
    have g2 : ((Int.gcd a b : Nat) : Int) ≤ a := Int.le_of_dvd ha (Int.gcd_dvd_left ..)
    have g3 : ((Int.gcd a b : Nat) : Int) ≤ b := Int.le_of_dvd hb (Int.gcd_dvd_right ..)
    refine ⟨_, PSs.nox (pss_cons (ps_set (i := 2) sc__law_terms.nd rfl (by first | exact Or.inl rfl | exact Or.inr rfl) (pe_ix ix_list (pe_lc (own := [("_law_k", 3)]) rfl sc__law_terms.nd (pi_range2 (by rfl) Z.zrange (pa_cons pe_int (pa_cons (pe_op op_add pe_int (pe_callB (c_min2 rfl) (by rfl) Z.zmin (by decide +kernel) (pa_cons (pv 0) (pa_cons (pv 1) pa_nil)))) pa_nil))) (blkOk_by (N := N__law_terms) (sc := defScope s__law_terms) (by decide +kernel)) (fun _ _ _ _ _ => (pg_name (i := 3) sc__law_terms.nd rfl (by first | exact Or.inl rfl | exact Or.inr rfl))) (fun _ _ _ _ _ => (pts_one (PW.pt (pw_and (pt_cmpR op_eq (pe_op op_mod (pe_callTy c_int1 (by rfl) Z.zint (by decide +kernel) (pa_cons (pv 0) pa_nil)) (pv 3)) pe_int (nomark _)) (pw_and1 (pt_cmpR op_eq (pe_op op_mod (pe_callTy c_int1 (by rfl) Z.zint (by decide +kernel) (pa_cons (pv 1) pa_nil)) (pv 3)) pe_int (nomark _))))))) (fun _ _ _ _ _ => (pv 3))) (pe_un un_neg pe_int) (fun _ _ => rfl)))
      (pss_one (ps_ret (pe_tup (pa_cons (pe_op op_fdiv (pv 0) (pv 2)) (pa_cons (pe_op op_fdiv (pv 1) (pv 2)) pa_nil)))))), ?_⟩
    walk_at "g0"
    walk_at "go"
    refine g_kLcR2 ⟨by omega, by omega, by omega, by omega⟩ (fun A i H' => Ex H H' ∧ H' A = some (.lst ((cds a b i).map V.int))) (fun A H1 nA e1 hA => ⟨e1, by rw [hA]; rfl⟩) ?_ ?_
    · rintro A i H1 nA hi ⟨e1, hA⟩
      walk_at "go"
      have hlen : (cds a b i).length ≤ i := by
        unfold cds
        refine Nat.le_trans (List.length_filter_le _ _) ?_
        rw [List.length_map, List.length_range]
        exact Nat.le_refl _
      refine g_kAnd (fun h1 => ?_) (fun h1 => ?_)
      · walk_at "go"
        refine g_kLcT (fun h2 => ?_) (fun h2 => ?_)
        · walk_at "go"
          refine g_kLcE hA (ltLine (by rw [List.length_map]; omega)) fun H2 e2 hA2 => ⟨Exb.ex nA e1 e2, ?_⟩
          rw [hA2, cds_succ, if_pos (by rw [h1, h2]; rfl), List.map_append]
          rfl
        · refine ⟨e1, ?_⟩
          rw [hA, cds_succ, if_neg (by rw [h1, h2]; simp), List.append_nil]
      · walk_at "go"
        refine ⟨e1, ?_⟩
        rw [hA, cds_succ, if_neg (by rw [h1]; simp), List.append_nil]
    · rintro A H1 nA ⟨e1, hA⟩
      rw [show (1 + min a b - 1).toNat = (min a b).toNat by congr 1; omega, cds_last ha hb (by omega), List.map_append] at hA
      walk_at "go"
      refine g_ixL (v := .int ((Int.gcd a b : Nat) : Int)) (SqL.of hA) (atI_last _ _) ?_
      walk_at "go"
      rename_i p H2 n2 e2 hp
      exact q p H2 (e1.trans e2) (SqT.of hp)
/-- days as the law's own pace takes them: a reader may need none -/
def DaysZ (ds : List Int) : Prop := ds ≠ [] ∧ (0 ≤ mx ds ∧ mx ds ≤ 30) ∧ (1 ≤ ds.sum ∧ ds.sum ≤ 240)
theorem DaysOk.z {ds : List Int} (O : DaysOk ds) : DaysZ ds := ⟨O.ne, ⟨by have := O.mx; omega, O.mx.2⟩, ⟨by have := O.sum; omega, O.sum.2⟩⟩
def sp_lpace (K : PySem.W.Frag) : Sp := fun vs H Q _ => ∃ (a : Addr) (ds : List Int) (B : Int), vs = [.ref a, .int B] ∧ SqT K H a (ds.map V.int) ∧ DaysZ ds ∧ (1 ≤ B ∧ B ≤ 1000) ∧ RTup K H (PaceV ds B) Q
theorem ok_lpace (Z : Blt mg) (D__law_terms : Df P w K mg base 1 "_law_terms" ["_law_one", "_law_other"] (sp_terms K)) (G : GFun K mg "_law_pace" s__law_pace) : Df P w K mg base 2 "_law_pace" ["_law_days", "_law_books"] (sp_lpace K) := by
  refine Df.of G sc__law_pace b__law_pace (fun vs H Q E h => ?_) (fun f cdv A outer s H vs Q E hr h => ?_)
  · obtain ⟨a, ds, B, rfl, _⟩ := h
    rfl
  · obtain ⟨a, ds, B, rfl, ha, O, ⟨hb, hb2⟩, q⟩ := h
    obtain ⟨hne, hmx, hsum⟩ := O
    refine ⟨_, PSs.nox (pss_cons (ps_if (pt_cmpR op_ge (pe_op op_mul (pe_callB (cr_maxT rfl hr.units) (by rfl) Z.zmax (by decide +kernel) (pa_cons (pv 0) pa_nil)) (pv 1)) (pe_callB (cr_sumT rfl) (by rfl) Z.zsum (by decide +kernel) (pa_cons (pv 0) pa_nil)) (nomark _)) (pss_one (ps_ret (pe_tup (pa_cons (pe_callB (cr_maxT rfl hr.units) (by rfl) Z.zmax (by decide +kernel) (pa_cons (pv 0) pa_nil)) (pa_cons pe_int pa_nil))))) pss_nil)
      (pss_one (ps_ret (pg D__law_terms hr (pa_cons (pe_callB (cr_sumT rfl) (by rfl) Z.zsum (by decide +kernel) (pa_cons (pv 0) pa_nil)) (pa_cons (pv 1) pa_nil)))))), ?_⟩
    walk_at "g0"
    walk_at "go"
    refine g_sumT ha ?_
    walk_at "go"
    refine g_kIfS (fun h => ?_) (fun h => ?_)
    · have h := of_decide_eq_true h
      walk_at "go"
      rename_i p H1 n1 e1 hp
      refine q p H1 e1 (SqT.of ?_)
      rw [hp]
      unfold PaceV paceN
      rw [if_pos (by omega)]
    · have h := of_decide_eq_false h
      walk_at "go"
      refine g_sumT ha ?_
      walk_at "go"
      refine ⟨_, _, rfl, ⟨by omega, by omega, by omega, by omega⟩, fun p H1 e1 hp => q p H1 e1 ?_⟩
      unfold PaceV paceN
      rw [if_neg (by omega)]
      exact hp
end
end G48

namespace G48
open PySem PySem.Spec PyProof.Rows L2 Evl
abbrev N_InvalidChain___init__ : List Str := ["self", "index"]
theorem sc_InvalidChain___init__ : FnScope N_InvalidChain___init__ ["self", "index"] (defScope s_InvalidChain___init__) := ⟨rfl, rfl, rfl, by decide +kernel, rfl, by decide +kernel, by decide +kernel⟩
theorem b_InvalidChain___init__ : BindL "InvalidChain.__init__" "__init__" s_InvalidChain___init__ ["self", "index"] := fun _ _ _ _ _ _ us hl => match us, hl with | [_, _], _ => rfl
end G48
/-! InvalidChain(index): the error made, its field -/
namespace G48
open PySem PySem.Spec PyProof.Rows L2 Evl
/-! the steps -/
local macro_rules | `(tactic| walk_at "as") => `(tactic| with_reducible assumption)
local macro_rules | `(tactic| walk_at "hp") => `(tactic| first
  | with_reducible assumption
  | ((with_reducible apply SqT.of); walk_at "as")
  | ((with_reducible apply SqL.of); walk_at "as")
  | ((with_reducible apply ex_at); (focus walk_at "as"); walk_at "hp")
  | ((with_reducible apply ex_t); (focus walk_at "as"); walk_at "hp")
  | ((with_reducible apply ex_l); (focus walk_at "as"); walk_at "hp")
  | ((with_reducible apply exb_ins); (focus walk_at "as"); (focus walk_at "hp"); walk_at "hp")
  | ((with_reducible apply exb_t); (focus walk_at "as"); (focus walk_at "hp"); walk_at "hp")
  | ((with_reducible apply exb_at); (focus walk_at "as"); (focus walk_at "ne"); walk_at "hp")
  | ((with_reducible apply exb_l); (focus walk_at "as"); (focus walk_at "ne"); walk_at "hp"))
local macro_rules | `(tactic| walk_at "ne") => `(tactic| first
  | with_reducible assumption
  | exact Ne.symm (by with_reducible assumption)
  | exact ne_of_none (by with_reducible assumption) (by with_reducible assumption)
  | exact Ne.symm (ne_of_none (by with_reducible assumption) (by with_reducible assumption)))
local macro_rules | `(tactic| walk_at "tr") => `(tactic| first
  | rfl
  | with_reducible assumption
  | exact decide_eq_true (by first | with_reducible assumption | omega)
  | exact decide_eq_false (by first | with_reducible assumption | omega)
  | (rw [Bool.not_eq_true']; exact decide_eq_false (by first | with_reducible assumption | omega))
  | (rw [Bool.not_eq_false']; exact decide_eq_true (by first | with_reducible assumption | omega)))
local macro_rules | `(tactic| walk_at "nn") => `(tactic| first | with_reducible assumption | (exact List.cons_ne_nil _ _))
local macro_rules | `(tactic| walk_at "sz") => `(tactic| first | (exact sz1000 (Nat.le_of_ble_eq_true rfl)) | (refine sz1000 ?_; simp only [List.length_map, List.length_cons, List.length_nil, List.length_append]; omega) | with_reducible assumption)
local macro_rules | `(tactic| walk_at "sl") => `(tactic| first | with_reducible assumption | (refine lt1000 ?_; simp only [List.length_map, List.length_cons, List.length_nil, List.length_append]; omega) | (refine lt1000 ?_; omega))
local macro_rules | `(tactic| walk_at "ix") => `(tactic| first | rfl | with_reducible assumption)
local macro_rules | `(tactic| walk_at "rg") => `(tactic| exact RgOk.of_le (by omega) (by omega) (by omega) (by omega))
local macro_rules | `(tactic| walk_at "sp") => `(tactic| fail "sp")
local macro_rules | `(tactic| walk_at "cl") => `(tactic| with_reducible assumption)
local macro_rules | `(tactic| walk_at "lk") => `(tactic| with_reducible assumption)
local macro_rules | `(tactic| walk_at "it") => `(tactic| first | rfl | with_reducible assumption | exact atI_nat (by with_reducible assumption))
local macro_rules | `(tactic| walk_at "g1") => `(tactic| first
  | (with_reducible apply g_var); (focus rfl)
  | with_reducible apply g_c
  | with_reducible apply g_seq
  | with_reducible apply g_asg
  | with_reducible apply gg_name
  | with_reducible apply g_op
  | with_reducible apply g_cons
  | with_reducible apply g_nil
  | with_reducible apply g_cb
  | with_reducible apply g_fld
  | ((with_reducible apply g_kFld); (focus walk_at "hp"); (focus walk_at "cl"); (focus walk_at "cl"); (focus walk_at "lk"))
  | with_reducible apply g_call
  | walk_at "sp"
  | with_reducible apply g_ret
  | with_reducible apply g_drop
  | with_reducible apply g_test
  | with_reducible apply g_B
  | with_reducible apply g_kTest
  | with_reducible apply g_ifS
  | with_reducible apply g_kIfST
  | with_reducible apply g_kIfSF
  | with_reducible apply g_add
  | with_reducible apply g_sub
  | with_reducible apply g_lt
  | with_reducible apply g_le
  | with_reducible apply g_gt
  | with_reducible apply g_ge
  | with_reducible apply g_eqI
  | with_reducible apply g_neI
  | ((with_reducible apply g_mod); (focus first | decide | omega))
  | ((with_reducible apply g_mul); (focus first | (left; constructor <;> omega) | (right; constructor <;> omega)))
  | ((with_reducible apply g_fdiv); (focus (constructor <;> omega)))
  | ((with_reducible apply g_ixT); (focus walk_at "hp"); (focus walk_at "it"))
  | ((with_reducible apply g_ixL); (focus walk_at "hp"); (focus walk_at "it"))
  | with_reducible apply g_and
  | with_reducible apply g_or
  | with_reducible apply g_not
  | with_reducible apply g_kNotT
  | with_reducible apply g_kNotF
  | with_reducible apply g_if
  | with_reducible apply g_kAndT
  | with_reducible apply g_kAndF
  | with_reducible apply g_kOrT
  | with_reducible apply g_kOrF
  | with_reducible apply g_kIfT
  | with_reducible apply g_kIfF
  | with_reducible apply g_next
  | with_reducible apply g_andV
  | with_reducible apply g_orV
  | with_reducible apply g_notV
  | with_reducible apply g_kNotV
  | with_reducible apply g_kAndVT
  | with_reducible apply g_kAndVF
  | with_reducible apply g_chain
  | with_reducible apply g_kChainT
  | with_reducible apply g_kChainF
  | with_reducible apply g_tup
  | with_reducible apply g_lst
  | ((with_reducible apply g_kT); (focus walk_at "sz"); intro _ _ _ _ _)
  | ((with_reducible apply g_kL); (focus walk_at "sz"); intro _ _ _ _ _)
  | with_reducible apply g_un
  | with_reducible apply g_neg
  | with_reducible apply g_meth
  | ((with_reducible apply g_kMeth); (focus walk_at "hp"); (focus walk_at "lk"))
  | with_reducible apply g_prop
  | ((with_reducible apply g_kProp); (focus walk_at "hp"))
  | with_reducible apply g_make
  | with_reducible apply g_par
  | with_reducible apply g_kPar
  | ((with_reducible apply g_lenLM); (focus walk_at "hp"))
  | ((with_reducible apply g_lenTM); (focus walk_at "hp"))
  | ((with_reducible apply g_lenL); (focus walk_at "hp"))
  | ((with_reducible apply g_lenT); (focus walk_at "hp"))
  | with_reducible apply g_int1
  | with_reducible apply g_max2
  | with_reducible apply g_min2
  | ((with_reducible apply g_listL); (focus walk_at "hp"); intro _ _ _ _ _)
  | ((with_reducible apply g_listT); (focus walk_at "hp"); intro _ _ _ _ _)
  | ((with_reducible apply g_tupL); (focus walk_at "hp"); intro _ _ _ _ _)
  | ((with_reducible apply g_sum); (focus walk_at "hp"))
  | with_reducible apply g_sfld
  | with_reducible apply g_sl
  | with_reducible apply g_nopart
  | with_reducible apply g_part
  | with_reducible apply g_kPart
  | with_reducible apply g_lstRg
  | with_reducible apply g_rg1
  | with_reducible apply g_kRg1
  | with_reducible apply g_bm
  | with_reducible apply gg_sub
  | ((with_reducible apply gg_tup); (focus walk_at "hp"); (focus rfl))
  | with_reducible apply gg_cons
  | with_reducible apply gg_nil
  | with_reducible apply g_forL
  | with_reducible apply g_forT
  | with_reducible apply g_forR1
  | with_reducible apply g_forR2
  | with_reducible apply g_forE
  | with_reducible apply g_forEL
  | ((with_reducible apply g_maxT); (focus walk_at "hp"); (focus walk_at "nn"))
  | ((with_reducible apply g_maxL); (focus walk_at "hp"); (focus walk_at "nn"))
  | ((with_reducible apply g_catA); (focus walk_at "hp"); (focus walk_at "hp"); (focus walk_at "sz"); intro _ _ _ _)
  | ((with_reducible apply g_slA); (focus walk_at "hp"); intro _ _ _ _)
  | ((with_reducible apply g_tupD); (focus walk_at "hp"); intro _ _ _ _ _)
  | ((with_reducible apply g_setL); (focus walk_at "hp"); (focus walk_at "ix"); intro _ _ _)
  | ((with_reducible apply g_append); (focus walk_at "hp"); (focus walk_at "sl"); intro _ _ _)
  | ((with_reducible apply g_aug); (focus rfl))
  | with_reducible apply g_ipI
  | with_reducible apply g_retN
  | with_reducible apply g_lcR1
  | with_reducible apply g_lcR2
  | with_reducible apply g_lcL
  | with_reducible apply g_lcU
  | with_reducible apply g_lcN
  | ((with_reducible apply g_kLcG); (focus rfl))
  | with_reducible apply g_yes
  | with_reducible apply g_kLcTT
  | with_reducible apply g_kLcTF
  | ((with_reducible apply g_kLcE); (focus walk_at "hp"); (focus walk_at "sl"); intro _ _ _)
  | ((with_reducible apply g_pow); (focus (constructor <;> (try constructor) <;> decide)))
  | ((with_reducible apply g_kLRg); (focus walk_at "rg"); intro _ _ _ _ _)
  | ((with_reducible apply g_cat); (focus walk_at "hp"); (focus walk_at "hp"); (focus walk_at "sz"); intro _ _ _ _ _)
  | ((with_reducible apply g_slL); (focus walk_at "hp"); intro _ _ _ _ _)
  | with_reducible apply g_bmT
  | with_reducible apply g_break
  | with_reducible apply g_cont)
local macro_rules | `(tactic| walk_at "g0") => `(tactic| try dsimp only [L2.cxOf, L2.Cx.nox, L2.Cx.wish])
local macro_rules | `(tactic| walk_at "yn") => `(tactic| first
  | ((with_reducible apply y_kIfS); (focus walk_at "tr"))
  | ((with_reducible apply n_kIfS); (focus walk_at "tr"))
  | ((with_reducible apply y_kOr); (focus walk_at "tr"))
  | ((with_reducible apply n_kOr); (focus walk_at "tr"))
  | ((with_reducible apply y_kAnd); (focus walk_at "tr"))
  | ((with_reducible apply n_kAnd); (focus walk_at "tr"))
  | ((with_reducible apply y_kNot); (focus walk_at "tr"))
  | ((with_reducible apply n_kNot); (focus walk_at "tr"))
  | ((with_reducible apply y_kIf); (focus walk_at "tr"))
  | ((with_reducible apply n_kIf); (focus walk_at "tr"))
  | ((with_reducible apply y_kAndV); (focus walk_at "tr"))
  | ((with_reducible apply n_kAndV); (focus walk_at "tr"))
  | ((with_reducible apply y_kOrV); (focus walk_at "tr"))
  | ((with_reducible apply n_kOrV); (focus walk_at "tr"))
  | ((with_reducible apply y_kChain); (focus walk_at "tr"))
  | ((with_reducible apply n_kChain); (focus walk_at "tr"))
  | ((with_reducible apply y_kLcT); (focus walk_at "tr"))
  | ((with_reducible apply n_kLcT); (focus walk_at "tr"))
  | ((with_reducible apply y_kWh); (focus walk_at "tr"))
  | ((with_reducible apply n_kWh); (focus walk_at "tr")))
local macro_rules | `(tactic| walk_at "go") => `(tactic| repeat (first | walk_at "g1" | walk_at "yn"))
local macro_rules | `(tactic| walk_at "hp") => `(tactic| first
  | ((with_reducible apply RingIn.ex); (focus walk_at "as"); walk_at "hp")
  | ((with_reducible apply RingAt.ex); (focus walk_at "as"); walk_at "hp")
  | ((with_reducible apply RingIn.exb); (focus walk_at "as"); (focus walk_at "hp"); walk_at "hp")
  | ((with_reducible apply RingAt.exb); (focus walk_at "as"); (focus walk_at "hp"); walk_at "hp")
  | ((with_reducible apply TupK.ex); (focus walk_at "as"); walk_at "hp")
  | ((with_reducible apply TupK.exb); (focus walk_at "as"); (focus walk_at "hp"); walk_at "hp"))
local macro_rules | `(tactic| walk_at "lk") => `(tactic| first | with_reducible exact rf_spans | with_reducible exact rf_heaps | with_reducible exact rf_total | with_reducible exact rf_nr | with_reducible exact rf_wd)
local macro_rules | `(tactic| walk_at "sp") => `(tactic| first
  | ((with_reducible apply g_isiTup); (focus walk_at "hp"))
  | ((with_reducible apply g_isiLst); (focus walk_at "hp"))
  | ((with_reducible apply g_isint); (focus omega); (focus omega))
  | ((with_reducible apply g_checkn); (focus omega); (focus omega))
  | ((with_reducible apply g_rbooks); (focus walk_at "hp"))
  | ((with_reducible apply g_rpace); (focus walk_at "hp"); intro _ _ _ _)
  | ((with_reducible apply g_rlen); (focus walk_at "hp"))
  | ((with_reducible apply g_rneed); (focus walk_at "hp"); (focus omega))
  | ((with_reducible apply g_rneedM); (focus walk_at "hp"))
  | ((with_reducible apply g_rwithM); (focus walk_at "hp"))
  | ((with_reducible apply g_rspans); (focus walk_at "hp"); (focus with_reducible assumption))
  | ((with_reducible apply g_rheaps); (focus walk_at "hp"); (focus with_reducible assumption))
  | ((with_reducible apply g_rtotal); (focus walk_at "hp"); (focus with_reducible assumption)))

section
variable {P : Program} {w : World} {K : PySem.W.Frag} {mg : Str → Option Value} {base : Heap}
theorem int_len {i : Int} (h : -1 ≤ i ∧ i ≤ 600) : i.natAbs.log2 < 1920 ∧ Str.length (toString i) ≤ 5 := by
  have key : ∀ n : Fin 602, ((n.val : Int) - 1).natAbs.log2 < 1920 ∧ Str.length (toString ((n.val : Int) - 1)) ≤ 5 := by decide +kernel
  have e := key ⟨(i + 1).toNat, by omega⟩
  rw [show (((i + 1).toNat : Nat) : Int) - 1 = i by omega] at e
  exact e
def sp_initC (K : PySem.W.Frag) (C : Addr) : Sp := fun vs H Q _ => ∃ (a : Addr) (i : Int), vs = [.ref a, .int i] ∧ H a = some (exo a C none) ∧ (-1 ≤ i ∧ i ≤ 600) ∧ ∀ dx, H dx = none → dx ≠ a → Q .non (upd (upd H dx (exd dx [("index", .int i)])) a (exo a C (some dx)))
theorem ok_InvalidChain (Z : Blt mg) (Err_InvalidChain : ErrC K (He.ga K "InvalidChain") 1 ["index"]) (Rin_ReadingError : RinC K (He.ga K "ReadingError")) (g_ReadingError : mg "ReadingError" = some (.ref (He.ga K "ReadingError"))) (g_InvalidChain : mg "InvalidChain" = some (.ref (He.ga K "InvalidChain")))
    (G : CFun K (He.ga K "InvalidChain") "__init__" "InvalidChain.__init__" s_InvalidChain___init__) : Ef P w K mg base "InvalidChain" (He.ga K "InvalidChain") 1 ["self", "index"] (sp_initC K (He.ga K "InvalidChain")) := by
  refine Ef.of G g_InvalidChain sc_InvalidChain___init__ b_InvalidChain___init__ (fun vs H Q E h => ?_) (fun f cdv A outer s H vs Q E hr h => ?_)
  · obtain ⟨a, i, rfl, _⟩ := h
    rfl
  · obtain ⟨a, i, rfl, ha, hi, q⟩ := h
    refine ⟨_, PSs.nox (pss_cons (ps_expr (pe_rinit Rin_ReadingError g_ReadingError (pa_cons (pv 0) (pa_cons (pe_joined (.cons pe_str (.cons (pe_fmt (pv 1)) .nil))) pa_nil))))
      (pss_one (ps_ost (pv 0) (pv 1)))), ?_⟩
    walk_at "g0"
    walk_at "go"
    obtain ⟨l1, l2⟩ := int_len hi
    refine ⟨.ref a, rfl, Str.ofString "invalid reading at index ", rfl, (by rw [sizeLine_eq]; decide), .int i, rfl, .inr ⟨i, rfl, l1, toString i, rfl, ?_, ?_⟩⟩
    · have l3 : Str.length (Str.empty ++ Str.ofString "invalid reading at index ") ≤ 30 := by decide
      rw [Str.length_append, sizeLine_eq]
      omega
    · refine ⟨a, _, [.str _], rfl, (by show 1 ≤ 1000; omega), Err_InvalidChain.ox, ha, .int i, rfl, .ref a, rfl, a, _, rfl, Err_InvalidChain.ox, Err_InvalidChain.no _ (by decide), .inl ⟨ha, fun dx n ne => ?_⟩⟩
      exact q dx n ne
def kMkO (C : Addr) (sp : Sp) (Q : XK) : List V → Hp → Prop := fun vs H1 => vs.length ≤ 1000 ∧ ∀ a, H1 a = none → sp (.ref a :: (vs ++ [])) (upd H1 a (exo a C none))
  (fun v H2 => v = .non ∧ ∃ (d : Addr) (fs : List (Str × V)), H2 a = some (exo a C (some d)) ∧ H2 d = some (exd d fs) ∧ H1 d = none ∧ Q (.ref C) (some d) (upd (del H2 a) d (.xd fs))) (fun _ _ _ => False)
theorem g_tMkO {C : Addr} {sp : Sp} {ta : TA} {σ : L2.St} {H : Hp} {Q : XK} (h : ta σ H (kMkO C sp Q)) : tMkO C sp [] ta σ H Q := h
/-- InvalidChain(i) made: at a new place stands its dict -/
theorem g_mkC {C : Addr} {H : Hp} {Q : XK} {i : Int} (hi : -1 ≤ i ∧ i ≤ 600) (q : ∀ d, H d = none → Q (.ref C) (some d) (upd H d (.xd [("index", .int i)]))) : kMkO C (sp_initC K C) Q [.int i] H := by
  refine ⟨(by show 1 ≤ 1000; omega), fun a na => ⟨a, i, rfl, upd_same, hi, fun dx nx ne => ⟨rfl, dx, [("index", .int i)], upd_same, by rw [upd_ne ne, upd_same], ?_, ?_⟩⟩⟩
  · rw [upd_ne ne] at nx
    exact nx
  · have e : upd (del (upd (upd (upd H a (exo a C none)) dx (exd dx [("index", .int i)])) a (exo a C (some dx))) a) dx (.xd [("index", .int i)]) = upd H dx (.xd [("index", .int i)]) := by
      funext b
      by_cases hb : b = dx
      · rw [hb, upd_same, upd_same]
      · rw [upd_ne hb, upd_ne hb]
        by_cases hb2 : b = a
        · rw [hb2, del_same, na]
        · rw [del_ne hb2, upd_ne hb2, upd_ne hb, upd_ne hb2]
    rw [e]
    rw [upd_ne ne] at nx
    exact q dx nx
end
end G48

namespace G48
open PySem PySem.Spec PyProof.Rows L2 Evl
abbrev N__law_told : List Str := ["_law_work", "e", "_law_some", "_law_k"]
theorem sc__law_told : FnScope N__law_told ["_law_work"] (defScope s__law_told) := ⟨rfl, rfl, rfl, by decide +kernel, rfl, by decide +kernel, by decide +kernel⟩
theorem b__law_told : BindL "_law_told" "_law_told" s__law_told ["_law_work"] := fun _ _ _ _ _ _ us hl => match us, hl with | [_], _ => rfl
end G48
/-! `_law_told`: what a lambda gives, or the error's name and its fields -/
namespace G48
open PySem PySem.Spec PyProof.Rows L2 Evl
/-! the steps -/
local macro_rules | `(tactic| walk_at "as") => `(tactic| with_reducible assumption)
local macro_rules | `(tactic| walk_at "hp") => `(tactic| first
  | with_reducible assumption
  | ((with_reducible apply SqT.of); walk_at "as")
  | ((with_reducible apply SqL.of); walk_at "as")
  | ((with_reducible apply ex_at); (focus walk_at "as"); walk_at "hp")
  | ((with_reducible apply ex_t); (focus walk_at "as"); walk_at "hp")
  | ((with_reducible apply ex_l); (focus walk_at "as"); walk_at "hp")
  | ((with_reducible apply exb_ins); (focus walk_at "as"); (focus walk_at "hp"); walk_at "hp")
  | ((with_reducible apply exb_t); (focus walk_at "as"); (focus walk_at "hp"); walk_at "hp")
  | ((with_reducible apply exb_at); (focus walk_at "as"); (focus walk_at "ne"); walk_at "hp")
  | ((with_reducible apply exb_l); (focus walk_at "as"); (focus walk_at "ne"); walk_at "hp"))
local macro_rules | `(tactic| walk_at "ne") => `(tactic| first
  | with_reducible assumption
  | exact Ne.symm (by with_reducible assumption)
  | exact ne_of_none (by with_reducible assumption) (by with_reducible assumption)
  | exact Ne.symm (ne_of_none (by with_reducible assumption) (by with_reducible assumption)))
local macro_rules | `(tactic| walk_at "tr") => `(tactic| first
  | rfl
  | with_reducible assumption
  | exact decide_eq_true (by first | with_reducible assumption | omega)
  | exact decide_eq_false (by first | with_reducible assumption | omega)
  | (rw [Bool.not_eq_true']; exact decide_eq_false (by first | with_reducible assumption | omega))
  | (rw [Bool.not_eq_false']; exact decide_eq_true (by first | with_reducible assumption | omega)))
local macro_rules | `(tactic| walk_at "nn") => `(tactic| first | with_reducible assumption | (exact List.cons_ne_nil _ _))
local macro_rules | `(tactic| walk_at "sz") => `(tactic| first | (exact sz1000 (Nat.le_of_ble_eq_true rfl)) | (refine sz1000 ?_; simp only [List.length_map, List.length_cons, List.length_nil, List.length_append]; omega) | with_reducible assumption)
local macro_rules | `(tactic| walk_at "sl") => `(tactic| first | with_reducible assumption | (refine lt1000 ?_; simp only [List.length_map, List.length_cons, List.length_nil, List.length_append]; omega) | (refine lt1000 ?_; omega))
local macro_rules | `(tactic| walk_at "ix") => `(tactic| first | rfl | with_reducible assumption)
local macro_rules | `(tactic| walk_at "rg") => `(tactic| exact RgOk.of_le (by omega) (by omega) (by omega) (by omega))
local macro_rules | `(tactic| walk_at "sp") => `(tactic| fail "sp")
local macro_rules | `(tactic| walk_at "cl") => `(tactic| with_reducible assumption)
local macro_rules | `(tactic| walk_at "lk") => `(tactic| with_reducible assumption)
local macro_rules | `(tactic| walk_at "it") => `(tactic| first | rfl | with_reducible assumption | exact atI_nat (by with_reducible assumption))
local macro_rules | `(tactic| walk_at "g1") => `(tactic| first
  | (with_reducible apply g_var); (focus rfl)
  | with_reducible apply g_c
  | with_reducible apply g_seq
  | with_reducible apply g_asg
  | with_reducible apply gg_name
  | with_reducible apply g_op
  | with_reducible apply g_cons
  | with_reducible apply g_nil
  | with_reducible apply g_cb
  | with_reducible apply g_fld
  | ((with_reducible apply g_kFld); (focus walk_at "hp"); (focus walk_at "cl"); (focus walk_at "cl"); (focus walk_at "lk"))
  | with_reducible apply g_call
  | walk_at "sp"
  | with_reducible apply g_ret
  | with_reducible apply g_drop
  | with_reducible apply g_test
  | with_reducible apply g_B
  | with_reducible apply g_kTest
  | with_reducible apply g_ifS
  | with_reducible apply g_kIfST
  | with_reducible apply g_kIfSF
  | with_reducible apply g_add
  | with_reducible apply g_sub
  | with_reducible apply g_lt
  | with_reducible apply g_le
  | with_reducible apply g_gt
  | with_reducible apply g_ge
  | with_reducible apply g_eqI
  | with_reducible apply g_neI
  | ((with_reducible apply g_mod); (focus first | decide | omega))
  | ((with_reducible apply g_mul); (focus first | (left; constructor <;> omega) | (right; constructor <;> omega)))
  | ((with_reducible apply g_fdiv); (focus (constructor <;> omega)))
  | ((with_reducible apply g_ixT); (focus walk_at "hp"); (focus walk_at "it"))
  | ((with_reducible apply g_ixL); (focus walk_at "hp"); (focus walk_at "it"))
  | with_reducible apply g_and
  | with_reducible apply g_or
  | with_reducible apply g_not
  | with_reducible apply g_kNotT
  | with_reducible apply g_kNotF
  | with_reducible apply g_if
  | with_reducible apply g_kAndT
  | with_reducible apply g_kAndF
  | with_reducible apply g_kOrT
  | with_reducible apply g_kOrF
  | with_reducible apply g_kIfT
  | with_reducible apply g_kIfF
  | with_reducible apply g_next
  | with_reducible apply g_andV
  | with_reducible apply g_orV
  | with_reducible apply g_notV
  | with_reducible apply g_kNotV
  | with_reducible apply g_kAndVT
  | with_reducible apply g_kAndVF
  | with_reducible apply g_chain
  | with_reducible apply g_kChainT
  | with_reducible apply g_kChainF
  | with_reducible apply g_tup
  | with_reducible apply g_lst
  | ((with_reducible apply g_kT); (focus walk_at "sz"); intro _ _ _ _ _)
  | ((with_reducible apply g_kL); (focus walk_at "sz"); intro _ _ _ _ _)
  | with_reducible apply g_un
  | with_reducible apply g_neg
  | with_reducible apply g_meth
  | ((with_reducible apply g_kMeth); (focus walk_at "hp"); (focus walk_at "lk"))
  | with_reducible apply g_prop
  | ((with_reducible apply g_kProp); (focus walk_at "hp"))
  | with_reducible apply g_make
  | with_reducible apply g_par
  | with_reducible apply g_kPar
  | ((with_reducible apply g_lenLM); (focus walk_at "hp"))
  | ((with_reducible apply g_lenTM); (focus walk_at "hp"))
  | ((with_reducible apply g_lenL); (focus walk_at "hp"))
  | ((with_reducible apply g_lenT); (focus walk_at "hp"))
  | with_reducible apply g_int1
  | with_reducible apply g_max2
  | with_reducible apply g_min2
  | ((with_reducible apply g_listL); (focus walk_at "hp"); intro _ _ _ _ _)
  | ((with_reducible apply g_listT); (focus walk_at "hp"); intro _ _ _ _ _)
  | ((with_reducible apply g_tupL); (focus walk_at "hp"); intro _ _ _ _ _)
  | ((with_reducible apply g_sum); (focus walk_at "hp"))
  | with_reducible apply g_sfld
  | with_reducible apply g_sl
  | with_reducible apply g_nopart
  | with_reducible apply g_part
  | with_reducible apply g_kPart
  | with_reducible apply g_lstRg
  | with_reducible apply g_rg1
  | with_reducible apply g_kRg1
  | with_reducible apply g_bm
  | with_reducible apply gg_sub
  | ((with_reducible apply gg_tup); (focus walk_at "hp"); (focus rfl))
  | with_reducible apply gg_cons
  | with_reducible apply gg_nil
  | with_reducible apply g_forL
  | with_reducible apply g_forT
  | with_reducible apply g_forR1
  | with_reducible apply g_forR2
  | with_reducible apply g_forE
  | with_reducible apply g_forEL
  | ((with_reducible apply g_maxT); (focus walk_at "hp"); (focus walk_at "nn"))
  | ((with_reducible apply g_maxL); (focus walk_at "hp"); (focus walk_at "nn"))
  | ((with_reducible apply g_catA); (focus walk_at "hp"); (focus walk_at "hp"); (focus walk_at "sz"); intro _ _ _ _)
  | ((with_reducible apply g_slA); (focus walk_at "hp"); intro _ _ _ _)
  | ((with_reducible apply g_tupD); (focus walk_at "hp"); intro _ _ _ _ _)
  | ((with_reducible apply g_setL); (focus walk_at "hp"); (focus walk_at "ix"); intro _ _ _)
  | ((with_reducible apply g_append); (focus walk_at "hp"); (focus walk_at "sl"); intro _ _ _)
  | ((with_reducible apply g_aug); (focus rfl))
  | with_reducible apply g_ipI
  | with_reducible apply g_retN
  | with_reducible apply g_lcR1
  | with_reducible apply g_lcR2
  | with_reducible apply g_lcL
  | with_reducible apply g_lcU
  | with_reducible apply g_lcN
  | ((with_reducible apply g_kLcG); (focus rfl))
  | with_reducible apply g_yes
  | with_reducible apply g_kLcTT
  | with_reducible apply g_kLcTF
  | ((with_reducible apply g_kLcE); (focus walk_at "hp"); (focus walk_at "sl"); intro _ _ _)
  | ((with_reducible apply g_pow); (focus (constructor <;> (try constructor) <;> decide)))
  | ((with_reducible apply g_kLRg); (focus walk_at "rg"); intro _ _ _ _ _)
  | ((with_reducible apply g_cat); (focus walk_at "hp"); (focus walk_at "hp"); (focus walk_at "sz"); intro _ _ _ _ _)
  | ((with_reducible apply g_slL); (focus walk_at "hp"); intro _ _ _ _ _)
  | with_reducible apply g_bmT
  | with_reducible apply g_break
  | with_reducible apply g_cont)
local macro_rules | `(tactic| walk_at "g0") => `(tactic| try dsimp only [L2.cxOf, L2.Cx.nox, L2.Cx.wish])
local macro_rules | `(tactic| walk_at "yn") => `(tactic| first
  | ((with_reducible apply y_kIfS); (focus walk_at "tr"))
  | ((with_reducible apply n_kIfS); (focus walk_at "tr"))
  | ((with_reducible apply y_kOr); (focus walk_at "tr"))
  | ((with_reducible apply n_kOr); (focus walk_at "tr"))
  | ((with_reducible apply y_kAnd); (focus walk_at "tr"))
  | ((with_reducible apply n_kAnd); (focus walk_at "tr"))
  | ((with_reducible apply y_kNot); (focus walk_at "tr"))
  | ((with_reducible apply n_kNot); (focus walk_at "tr"))
  | ((with_reducible apply y_kIf); (focus walk_at "tr"))
  | ((with_reducible apply n_kIf); (focus walk_at "tr"))
  | ((with_reducible apply y_kAndV); (focus walk_at "tr"))
  | ((with_reducible apply n_kAndV); (focus walk_at "tr"))
  | ((with_reducible apply y_kOrV); (focus walk_at "tr"))
  | ((with_reducible apply n_kOrV); (focus walk_at "tr"))
  | ((with_reducible apply y_kChain); (focus walk_at "tr"))
  | ((with_reducible apply n_kChain); (focus walk_at "tr"))
  | ((with_reducible apply y_kLcT); (focus walk_at "tr"))
  | ((with_reducible apply n_kLcT); (focus walk_at "tr"))
  | ((with_reducible apply y_kWh); (focus walk_at "tr"))
  | ((with_reducible apply n_kWh); (focus walk_at "tr")))
local macro_rules | `(tactic| walk_at "go") => `(tactic| repeat (first | walk_at "g1" | walk_at "yn"))
local macro_rules | `(tactic| walk_at "hp") => `(tactic| first
  | ((with_reducible apply RingIn.ex); (focus walk_at "as"); walk_at "hp")
  | ((with_reducible apply RingAt.ex); (focus walk_at "as"); walk_at "hp")
  | ((with_reducible apply RingIn.exb); (focus walk_at "as"); (focus walk_at "hp"); walk_at "hp")
  | ((with_reducible apply RingAt.exb); (focus walk_at "as"); (focus walk_at "hp"); walk_at "hp")
  | ((with_reducible apply TupK.ex); (focus walk_at "as"); walk_at "hp")
  | ((with_reducible apply TupK.exb); (focus walk_at "as"); (focus walk_at "hp"); walk_at "hp"))
local macro_rules | `(tactic| walk_at "lk") => `(tactic| first | with_reducible exact rf_spans | with_reducible exact rf_heaps | with_reducible exact rf_total | with_reducible exact rf_nr | with_reducible exact rf_wd)
local macro_rules | `(tactic| walk_at "sp") => `(tactic| first
  | ((with_reducible apply g_isiTup); (focus walk_at "hp"))
  | ((with_reducible apply g_isiLst); (focus walk_at "hp"))
  | ((with_reducible apply g_isint); (focus omega); (focus omega))
  | ((with_reducible apply g_checkn); (focus omega); (focus omega))
  | ((with_reducible apply g_rbooks); (focus walk_at "hp"))
  | ((with_reducible apply g_rpace); (focus walk_at "hp"); intro _ _ _ _)
  | ((with_reducible apply g_rlen); (focus walk_at "hp"))
  | ((with_reducible apply g_rneed); (focus walk_at "hp"); (focus omega))
  | ((with_reducible apply g_rneedM); (focus walk_at "hp"))
  | ((with_reducible apply g_rwithM); (focus walk_at "hp"))
  | ((with_reducible apply g_rspans); (focus walk_at "hp"); (focus with_reducible assumption))
  | ((with_reducible apply g_rheaps); (focus walk_at "hp"); (focus with_reducible assumption))
  | ((with_reducible apply g_rtotal); (focus walk_at "hp"); (focus with_reducible assumption)))

/-- told: what the call gives; of an error of a known class the class's name, and its fields -/
def ToldE (K : PySem.W.Frag) (Q : VK) : XK := fun cls d H' =>
  (∃ D j, cls = .ref D ∧ d = none ∧ ExcT K D j ∧ 2 ≤ j ∧ j < 7 ∧ ∀ p H'', H' p = none → Ex H' H'' → H'' p = some (.tup [.str "error", .str (exNm j)]) → Q (.ref p) H'') ∨
  (∃ D dd v, cls = .ref D ∧ d = some dd ∧ ErrC K D 1 ["index"] ∧ H' dd = some (.xd [("index", v)]) ∧ ∀ p q H'', H' p = none → Ex H' H'' → H'' q = some (.lst [v]) → H'' p = some (.tup [.str "error", .str "InvalidChain", .ref q]) → Q (.ref p) H'') ∨
  (∃ D dd v u, cls = .ref D ∧ d = some dd ∧ ErrC K D 0 ["part", "index"] ∧ H' dd = some (.xd [("index", v), ("part", u)]) ∧ ∀ p q H'', H' p = none → Ex H' H'' → H'' q = some (.lst [u, v]) → H'' p = some (.tup [.str "error", .str "InvalidRing", .ref q]) → Q (.ref p) H'')
def TToldP (K : PySem.W.Frag) (tl : XK → Hp → VK → Prop) (H : Hp) (Q : VK) : Prop := tl (ToldE K Q) H Q
section
variable {P : Program} {w : World} {K : PySem.W.Frag} {mg : Str → Option Value} {base : Heap}
theorem DicA.ex {H H' : Hp} {d : Option Addr} (e : Ex H H') (h : DicA H d) : DicA H' d := h.imp id fun ⟨dd, fs, a, b⟩ => ⟨dd, fs, a, e _ _ b⟩
theorem g_isX {H : Hp} {Q : VK} {D a C : Addr} {d : Option Addr} {b : Bool} (hd : DicA H d) (h : PySem.W.kitOne K (.ref D) (.ref C) = some b) (q : Q (.bl b) H) : rIsX K D d a [.ref a, .ref C] H Q := ⟨hd, .ref C, .ref C, b, rfl, fun u r => r, h, q⟩
theorem g_isXt {H : Hp} {Q : VK} {D a : Addr} {d : Option Addr} {T : String} {b : Bool} (hd : DicA H d) (h : PySem.W.kitOne K (.ref D) (.type T) = some b) (q : Q (.bl b) H) : rIsX K D d a [.ref a, .ty T] H Q := ⟨hd, .ty T, .type T, b, rfl, fun u r => r, h, q⟩
def flagsV (j : Nat) : List V := (List.range 7).map fun i => .bl (decide (i = j))
theorem g_cntFlag {H : Hp} {Q : VK} {a : Addr} {j : Nat} (h : SqL K H a (flagsV j)) (hj : j < 7) (q : Q (.int 1) H) : rCntF K (.ref a) [.bl true] H Q := by
  have e : (flagsV j).countP (fun z => eqV z (.bl true)) = 1 ∧ (flagsV j).all flatV = true := by
    have : j = 0 ∨ j = 1 ∨ j = 2 ∨ j = 3 ∨ j = 4 ∨ j = 5 ∨ j = 6 := by omega
    rcases this with rfl | rfl | rfl | rfl | rfl | rfl | rfl <;> exact ⟨rfl, rfl⟩
  refine ⟨a, flagsV j, .bl true, rfl, rfl, h, rfl, e.2, ?_⟩
  rw [e.1]
  exact q
theorem g_idxFlag {H : Hp} {Q : VK} {a : Addr} {j : Nat} (h : SqL K H a (flagsV j)) (hj : j < 7) (q : Q (.int (j : Nat)) H) : rIndex K (.ref a) [.bl true] H Q := by
  have e : (flagsV j).all flatV = true := by
    have : j = 0 ∨ j = 1 ∨ j = 2 ∨ j = 3 ∨ j = 4 ∨ j = 5 ∨ j = 6 := by omega
    rcases this with rfl | rfl | rfl | rfl | rfl | rfl | rfl <;> rfl
  refine ⟨a, flagsV j, .bl true, j, .bl true, rfl, rfl, h, rfl, e, ?_, rfl, fun m z hm hz => ?_, q⟩
  · unfold flagsV
    rw [List.getElem?_map, List.getElem?_range hj]
    simp
  · unfold flagsV at hz
    rw [List.getElem?_map, List.getElem?_range (by omega)] at hz
    have hz : V.bl (decide (m = j)) = z := by simpa using hz
    rw [← hz, decide_eq_false (by omega : ¬ m = j)]
    rfl
theorem ok_told (Z : Blt mg) (g_ReadingError : mg "ReadingError" = some (.ref (He.ga K "ReadingError"))) (g_InvalidRing : mg "InvalidRing" = some (.ref (He.ga K "InvalidRing"))) (g_InvalidChain : mg "InvalidChain" = some (.ref (He.ga K "InvalidChain"))) (g_UnknownReader : mg "UnknownReader" = some (.ref (He.ga K "UnknownReader")))
    (g_UnknownBook : mg "UnknownBook" = some (.ref (He.ga K "UnknownBook"))) (g_InvalidNumber : mg "InvalidNumber" = some (.ref (He.ga K "InvalidNumber"))) (g_SameBook : mg "SameBook" = some (.ref (He.ga K "SameBook"))) (g_OtherRing : mg "OtherRing" = some (.ref (He.ga K "OtherRing"))) : GivesL P w K mg base N__law_told "_law_told" s__law_told "_law_work" 9 (TToldP K) := by
  intro g cdg A outer s H f Q LF tl hr act hLF h
  refine ⟨_, pss_one (ps_try_as (i := 1) rfl rfl sc__law_told.nd rfl rfl ⟨rfl, by decide, .inl g_ReadingError⟩ takes0
      (tb := fun W D σ H => ∃ Ech : L2.St → XK, (∀ σ' cls d H', Ech σ' cls d H' → W cls d σ' H') ∧ σ[0]? = some (some (.ref f)) ∧ LF H ∧ tl (Ech σ) H D.rt)
      (fun W pn xe tk _ => ⟨fun pins s' σ H' D I h' => by
        obtain ⟨Ech, hW, h1, h2, h3⟩ := h'
        exact (pss_one (ps_ret (act W pn xe Ech _ _ tk hW))).run pins s' σ H' D I ⟨h1, h2, h3⟩⟩)
      (fun a oe cls d pn hz hf => pss_err hz fun Dc hz hC => (pss_cons (ps_set (i := 2) sc__law_told.nd rfl (by first | exact Or.inl rfl | exact Or.inr rfl) (pe_lst (pa_cons (pe_callB (call_isX hC hz hf) (by rfl) Z.zisinstance (by decide +kernel) (pa_cons (pv 1) (pa_cons (pcls g_InvalidRing) pa_nil))) (pa_cons (pe_callB (call_isX hC hz hf) (by rfl) Z.zisinstance (by decide +kernel) (pa_cons (pv 1) (pa_cons (pcls g_InvalidChain) pa_nil))) (pa_cons (pe_callB (call_isX hC hz hf) (by rfl) Z.zisinstance (by decide +kernel) (pa_cons (pv 1) (pa_cons (pcls g_UnknownReader) pa_nil))) pa_nil)))))
      (pss_cons (ps_set (i := 2) sc__law_told.nd rfl (by first | exact Or.inl rfl | exact Or.inr rfl) (pe_op op_cat (pv 2) (pe_lst (pa_cons (pe_callB (call_isX hC hz hf) (by rfl) Z.zisinstance (by decide +kernel) (pa_cons (pv 1) (pa_cons (pcls g_UnknownBook) pa_nil))) (pa_cons (pe_callB (call_isX hC hz hf) (by rfl) Z.zisinstance (by decide +kernel) (pa_cons (pv 1) (pa_cons (pcls g_InvalidNumber) pa_nil))) (pa_cons (pe_callB (call_isX hC hz hf) (by rfl) Z.zisinstance (by decide +kernel) (pa_cons (pv 1) (pa_cons (pcls g_SameBook) pa_nil))) pa_nil))))))
      (pss_cons (ps_expr (pe_bmK K PySem.F.plainAttrs_list PySem.F.slot_list_append PySem.F.type_list_append mt_append (pv 2) (pa_cons (pe_callB (call_isX hC hz hf) (by rfl) Z.zisinstance (by decide +kernel) (pa_cons (pv 1) (pa_cons (pcls g_OtherRing) pa_nil))) pa_nil)))
      (pss_cons (ps_set (i := 3) sc__law_told.nd rfl (by first | exact Or.inl rfl | exact Or.inr rfl) (pe_ifExp (PW.pt (pw_and (pt_cmpR op_eq (pe_bmK K PySem.F.plainAttrs_list PySem.F.slot_list_count PySem.F.type_list_count (mt_countFK K) (pv 2) (pa_cons pe_bl pa_nil)) pe_int (nomark _)) (pw_and1 (pt_val (pe_callB (call_isX hC hz hf) (by rfl) Z.zisinstance (by decide +kernel) (pa_cons (pv 1) (pa_cons (pe_bltn rfl Z.zValueError (v := .ty "ValueError") (by decide +kernel) rfl) pa_nil))))))) (pe_bmK K PySem.F.plainAttrs_list PySem.F.slot_list_index PySem.F.type_list_index (mt_indexK K) (pv 2) (pa_cons pe_bl pa_nil)) pe_int))
      (pss_cons (ps_if (pt_cmpR op_eq (pv 3) pe_int (nomark _)) (pss_one (ps_ret (pe_tup (pa_cons pe_str (pa_cons pe_str (pa_cons (pe_lst (pa_cons (pe_errF hC hz hf (pv 1)) (pa_cons (pe_errF hC hz hf (pv 1)) pa_nil))) pa_nil)))))) pss_nil)
      (pss_cons (ps_if (pt_cmpR op_eq (pv 3) pe_int (nomark _)) (pss_one (ps_ret (pe_tup (pa_cons pe_str (pa_cons pe_str (pa_cons (pe_lst (pa_cons (pe_errF hC hz hf (pv 1)) pa_nil)) pa_nil)))))) pss_nil)
      (pss_one (ps_ret (pe_tup (pa_cons pe_str (pa_cons (pe_ix (ix_listK K) (pe_lst (pa_cons pe_str (pa_cons pe_str (pa_cons pe_str (pa_cons pe_str (pa_cons pe_str (pa_cons pe_str pa_nil))))))) (pe_op op_sub (pv 3) pe_int) (fun _ _ => rfl)) pa_nil))))))))))))), ?_⟩
  have eE : ∀ E' : XK, (fun (σ' : L2.St) (cls : Value) (d : Option Addr) (H' : Hp) => σ' = L2.start N__law_told [V.ref f] ∧ E' cls d H') (L2.start N__law_told [V.ref f]) = E' := fun E' => by
    funext cls d H'
    simp
  refine ⟨fun σ' cls d H' => σ' = L2.start N__law_told [V.ref f] ∧ ToldE K Q cls d H', ?_, rfl, hLF, ?_⟩
  · rintro σ' cls d H' ⟨rfl, ⟨D, j, rfl, rfl, T, hj2, hj7, q⟩ | ⟨D, dd, v, rfl, rfl, T, hx, q⟩ | ⟨D, dd, v, u, rfl, rfl, T, hx, q⟩⟩
    · refine ⟨true, T.re, fun _ a ha => ⟨D, rfl, T.c, ?_⟩, fun z => by cases z⟩
      have hd : DicA H' none := .inl rfl
      have hj : j = 2 ∨ j = 3 ∨ j = 4 ∨ j = 5 ∨ j = 6 := by omega
      rcases hj with rfl | rfl | rfl | rfl | rfl
      all_goals
        walk_at "g0"
        walk_at "go"
        refine g_isX hd (T.is_ 0 (by decide)) ?_
        walk_at "go"
        refine g_isX hd (T.is_ 1 (by decide)) ?_
        walk_at "go"
        refine g_isX hd (T.is_ 2 (by decide)) ?_
        walk_at "go"
        rename_i p1 H1 n1 e1 h1
        refine g_isX (hd.ex e1) (T.is_ 3 (by decide)) ?_
        walk_at "go"
        refine g_isX (hd.ex e1) (T.is_ 4 (by decide)) ?_
        walk_at "go"
        refine g_isX (hd.ex e1) (T.is_ 5 (by decide)) ?_
        walk_at "go"
        rename_i p2 H2 n2 e2 h2 p3 H3 n3 e3 h3
        have e03 := (e1.trans e2).trans e3
        refine g_kBM_list (SqL.of h3) ?_
        walk_at "go"
        refine g_isX (hd.ex e03) (T.is_ 6 (by decide)) ?_
        walk_at "go"
        rename_i H4 e4 h4
        have e04 : Ex H' H4 := Exb.ex (fresh_back (e1.trans e2) n3) ((e1.trans e2).trans e3) e4
        refine g_kBM_list (SqL.of h4) ?_
        walk_at "go"
        refine g_cntFlag (j := _) (SqL.of h4) (by decide) ?_
        walk_at "go"
        refine g_isXt (hd.ex e04) T.ve ?_
        walk_at "go"
        refine g_kBM_list (SqL.of h4) ?_
        walk_at "go"
        refine g_idxFlag (j := _) (SqL.of h4) (by decide) ?_
        walk_at "go"
        rename_i p5 H5 n5 e5 h5 p6 H6 n6 e6 h6
        exact q p6 H6 (fresh_back (e04.trans e5) n6) ((e04.trans e5).trans e6) h6
    · refine ⟨true, T.re, fun _ a ha => ⟨D, rfl, T.c, ?_⟩, fun z => by cases z⟩
      have hd : DicA H' (some dd) := .inr ⟨dd, _, rfl, hx⟩
      walk_at "g0"
      walk_at "go"
      refine g_isX hd (T.is_ 0 (by decide)) ?_
      walk_at "go"
      refine g_isX hd (T.is_ 1 (by decide)) ?_
      walk_at "go"
      refine g_isX hd (T.is_ 2 (by decide)) ?_
      walk_at "go"
      rename_i p1 H1 n1 e1 h1
      refine g_isX (hd.ex e1) (T.is_ 3 (by decide)) ?_
      walk_at "go"
      refine g_isX (hd.ex e1) (T.is_ 4 (by decide)) ?_
      walk_at "go"
      refine g_isX (hd.ex e1) (T.is_ 5 (by decide)) ?_
      walk_at "go"
      rename_i p2 H2 n2 e2 h2 p3 H3 n3 e3 h3
      have e03 := (e1.trans e2).trans e3
      refine g_kBM_list (SqL.of h3) ?_
      walk_at "go"
      refine g_isX (hd.ex e03) (T.is_ 6 (by decide)) ?_
      walk_at "go"
      rename_i H4 e4 h4
      have e04 : Ex H' H4 := Exb.ex (fresh_back (e1.trans e2) n3) ((e1.trans e2).trans e3) e4
      refine g_kBM_list (SqL.of h4) ?_
      walk_at "go"
      refine g_cntFlag (j := _) (SqL.of h4) (by decide) ?_
      walk_at "go"
      refine g_isXt (hd.ex e04) T.ve ?_
      walk_at "go"
      refine g_kBM_list (SqL.of h4) ?_
      walk_at "go"
      refine g_idxFlag (j := _) (SqL.of h4) (by decide) ?_
      walk_at "go"
      refine ⟨.ref a, rfl, rfl, T.no _ (by decide), dd, _, v, rfl, e04 _ _ hx, rfl, ?_⟩
      walk_at "go"
      rename_i p5 H5 n5 e5 h5 p6 H6 n6 e6 h6
      exact q p6 p5 H6 (fresh_back (e04.trans e5) n6) ((e04.trans e5).trans e6) (e6 _ _ h5) h6
    · refine ⟨true, T.re, fun _ a ha => ⟨D, rfl, T.c, ?_⟩, fun z => by cases z⟩
      have hd : DicA H' (some dd) := .inr ⟨dd, _, rfl, hx⟩
      walk_at "g0"
      walk_at "go"
      refine g_isX hd (T.is_ 0 (by decide)) ?_
      walk_at "go"
      refine g_isX hd (T.is_ 1 (by decide)) ?_
      walk_at "go"
      refine g_isX hd (T.is_ 2 (by decide)) ?_
      walk_at "go"
      rename_i p1 H1 n1 e1 h1
      refine g_isX (hd.ex e1) (T.is_ 3 (by decide)) ?_
      walk_at "go"
      refine g_isX (hd.ex e1) (T.is_ 4 (by decide)) ?_
      walk_at "go"
      refine g_isX (hd.ex e1) (T.is_ 5 (by decide)) ?_
      walk_at "go"
      rename_i p2 H2 n2 e2 h2 p3 H3 n3 e3 h3
      have e03 := (e1.trans e2).trans e3
      refine g_kBM_list (SqL.of h3) ?_
      walk_at "go"
      refine g_isX (hd.ex e03) (T.is_ 6 (by decide)) ?_
      walk_at "go"
      rename_i H4 e4 h4
      have e04 : Ex H' H4 := Exb.ex (fresh_back (e1.trans e2) n3) ((e1.trans e2).trans e3) e4
      refine g_kBM_list (SqL.of h4) ?_
      walk_at "go"
      refine g_cntFlag (j := _) (SqL.of h4) (by decide) ?_
      walk_at "go"
      refine g_isXt (hd.ex e04) T.ve ?_
      walk_at "go"
      refine g_kBM_list (SqL.of h4) ?_
      walk_at "go"
      refine g_idxFlag (j := _) (SqL.of h4) (by decide) ?_
      walk_at "go"
      refine ⟨.ref a, rfl, rfl, T.no _ (by decide), dd, _, u, rfl, e04 _ _ hx, rfl, ?_⟩
      walk_at "go"
      refine ⟨.ref a, rfl, rfl, T.no _ (by decide), dd, _, v, rfl, e04 _ _ hx, rfl, ?_⟩
      walk_at "go"
      rename_i p5 H5 n5 e5 h5 p6 H6 n6 e6 h6
      exact q p6 p5 H6 (fresh_back (e04.trans e5) n6) ((e04.trans e5).trans e6) (e6 _ _ h5) h6
  · rw [eE]
    exact h
end
end G48

/-! readers that are not there, numbers out of range: what is raised -/
namespace G48
open PySem PySem.Spec PyProof.Rows L2 Evl
/-! the steps -/
local macro_rules | `(tactic| walk_at "as") => `(tactic| with_reducible assumption)
local macro_rules | `(tactic| walk_at "hp") => `(tactic| first
  | with_reducible assumption
  | ((with_reducible apply SqT.of); walk_at "as")
  | ((with_reducible apply SqL.of); walk_at "as")
  | ((with_reducible apply ex_at); (focus walk_at "as"); walk_at "hp")
  | ((with_reducible apply ex_t); (focus walk_at "as"); walk_at "hp")
  | ((with_reducible apply ex_l); (focus walk_at "as"); walk_at "hp")
  | ((with_reducible apply exb_ins); (focus walk_at "as"); (focus walk_at "hp"); walk_at "hp")
  | ((with_reducible apply exb_t); (focus walk_at "as"); (focus walk_at "hp"); walk_at "hp")
  | ((with_reducible apply exb_at); (focus walk_at "as"); (focus walk_at "ne"); walk_at "hp")
  | ((with_reducible apply exb_l); (focus walk_at "as"); (focus walk_at "ne"); walk_at "hp"))
local macro_rules | `(tactic| walk_at "ne") => `(tactic| first
  | with_reducible assumption
  | exact Ne.symm (by with_reducible assumption)
  | exact ne_of_none (by with_reducible assumption) (by with_reducible assumption)
  | exact Ne.symm (ne_of_none (by with_reducible assumption) (by with_reducible assumption)))
local macro_rules | `(tactic| walk_at "tr") => `(tactic| first
  | rfl
  | with_reducible assumption
  | exact decide_eq_true (by first | with_reducible assumption | omega)
  | exact decide_eq_false (by first | with_reducible assumption | omega)
  | (rw [Bool.not_eq_true']; exact decide_eq_false (by first | with_reducible assumption | omega))
  | (rw [Bool.not_eq_false']; exact decide_eq_true (by first | with_reducible assumption | omega)))
local macro_rules | `(tactic| walk_at "nn") => `(tactic| first | with_reducible assumption | (exact List.cons_ne_nil _ _))
local macro_rules | `(tactic| walk_at "sz") => `(tactic| first | (exact sz1000 (Nat.le_of_ble_eq_true rfl)) | (refine sz1000 ?_; simp only [List.length_map, List.length_cons, List.length_nil, List.length_append]; omega) | with_reducible assumption)
local macro_rules | `(tactic| walk_at "sl") => `(tactic| first | with_reducible assumption | (refine lt1000 ?_; simp only [List.length_map, List.length_cons, List.length_nil, List.length_append]; omega) | (refine lt1000 ?_; omega))
local macro_rules | `(tactic| walk_at "ix") => `(tactic| first | rfl | with_reducible assumption)
local macro_rules | `(tactic| walk_at "rg") => `(tactic| exact RgOk.of_le (by omega) (by omega) (by omega) (by omega))
local macro_rules | `(tactic| walk_at "sp") => `(tactic| fail "sp")
local macro_rules | `(tactic| walk_at "cl") => `(tactic| with_reducible assumption)
local macro_rules | `(tactic| walk_at "lk") => `(tactic| with_reducible assumption)
local macro_rules | `(tactic| walk_at "it") => `(tactic| first | rfl | with_reducible assumption | exact atI_nat (by with_reducible assumption))
local macro_rules | `(tactic| walk_at "g1") => `(tactic| first
  | (with_reducible apply g_var); (focus rfl)
  | with_reducible apply g_c
  | with_reducible apply g_seq
  | with_reducible apply g_asg
  | with_reducible apply gg_name
  | with_reducible apply g_op
  | with_reducible apply g_cons
  | with_reducible apply g_nil
  | with_reducible apply g_cb
  | with_reducible apply g_fld
  | ((with_reducible apply g_kFld); (focus walk_at "hp"); (focus walk_at "cl"); (focus walk_at "cl"); (focus walk_at "lk"))
  | with_reducible apply g_call
  | walk_at "sp"
  | with_reducible apply g_ret
  | with_reducible apply g_drop
  | with_reducible apply g_test
  | with_reducible apply g_B
  | with_reducible apply g_kTest
  | with_reducible apply g_ifS
  | with_reducible apply g_kIfST
  | with_reducible apply g_kIfSF
  | with_reducible apply g_add
  | with_reducible apply g_sub
  | with_reducible apply g_lt
  | with_reducible apply g_le
  | with_reducible apply g_gt
  | with_reducible apply g_ge
  | with_reducible apply g_eqI
  | with_reducible apply g_neI
  | ((with_reducible apply g_mod); (focus first | decide | omega))
  | ((with_reducible apply g_mul); (focus first | (left; constructor <;> omega) | (right; constructor <;> omega)))
  | ((with_reducible apply g_fdiv); (focus (constructor <;> omega)))
  | ((with_reducible apply g_ixT); (focus walk_at "hp"); (focus walk_at "it"))
  | ((with_reducible apply g_ixL); (focus walk_at "hp"); (focus walk_at "it"))
  | with_reducible apply g_and
  | with_reducible apply g_or
  | with_reducible apply g_not
  | with_reducible apply g_kNotT
  | with_reducible apply g_kNotF
  | with_reducible apply g_if
  | with_reducible apply g_kAndT
  | with_reducible apply g_kAndF
  | with_reducible apply g_kOrT
  | with_reducible apply g_kOrF
  | with_reducible apply g_kIfT
  | with_reducible apply g_kIfF
  | with_reducible apply g_next
  | with_reducible apply g_andV
  | with_reducible apply g_orV
  | with_reducible apply g_notV
  | with_reducible apply g_kNotV
  | with_reducible apply g_kAndVT
  | with_reducible apply g_kAndVF
  | with_reducible apply g_chain
  | with_reducible apply g_kChainT
  | with_reducible apply g_kChainF
  | with_reducible apply g_tup
  | with_reducible apply g_lst
  | ((with_reducible apply g_kT); (focus walk_at "sz"); intro _ _ _ _ _)
  | ((with_reducible apply g_kL); (focus walk_at "sz"); intro _ _ _ _ _)
  | with_reducible apply g_un
  | with_reducible apply g_neg
  | with_reducible apply g_meth
  | ((with_reducible apply g_kMeth); (focus walk_at "hp"); (focus walk_at "lk"))
  | with_reducible apply g_prop
  | ((with_reducible apply g_kProp); (focus walk_at "hp"))
  | with_reducible apply g_make
  | with_reducible apply g_par
  | with_reducible apply g_kPar
  | ((with_reducible apply g_lenLM); (focus walk_at "hp"))
  | ((with_reducible apply g_lenTM); (focus walk_at "hp"))
  | ((with_reducible apply g_lenL); (focus walk_at "hp"))
  | ((with_reducible apply g_lenT); (focus walk_at "hp"))
  | with_reducible apply g_int1
  | with_reducible apply g_max2
  | with_reducible apply g_min2
  | ((with_reducible apply g_listL); (focus walk_at "hp"); intro _ _ _ _ _)
  | ((with_reducible apply g_listT); (focus walk_at "hp"); intro _ _ _ _ _)
  | ((with_reducible apply g_tupL); (focus walk_at "hp"); intro _ _ _ _ _)
  | ((with_reducible apply g_sum); (focus walk_at "hp"))
  | with_reducible apply g_sfld
  | with_reducible apply g_sl
  | with_reducible apply g_nopart
  | with_reducible apply g_part
  | with_reducible apply g_kPart
  | with_reducible apply g_lstRg
  | with_reducible apply g_rg1
  | with_reducible apply g_kRg1
  | with_reducible apply g_bm
  | with_reducible apply gg_sub
  | ((with_reducible apply gg_tup); (focus walk_at "hp"); (focus rfl))
  | with_reducible apply gg_cons
  | with_reducible apply gg_nil
  | with_reducible apply g_forL
  | with_reducible apply g_forT
  | with_reducible apply g_forR1
  | with_reducible apply g_forR2
  | with_reducible apply g_forE
  | with_reducible apply g_forEL
  | ((with_reducible apply g_maxT); (focus walk_at "hp"); (focus walk_at "nn"))
  | ((with_reducible apply g_maxL); (focus walk_at "hp"); (focus walk_at "nn"))
  | ((with_reducible apply g_catA); (focus walk_at "hp"); (focus walk_at "hp"); (focus walk_at "sz"); intro _ _ _ _)
  | ((with_reducible apply g_slA); (focus walk_at "hp"); intro _ _ _ _)
  | ((with_reducible apply g_tupD); (focus walk_at "hp"); intro _ _ _ _ _)
  | ((with_reducible apply g_setL); (focus walk_at "hp"); (focus walk_at "ix"); intro _ _ _)
  | ((with_reducible apply g_append); (focus walk_at "hp"); (focus walk_at "sl"); intro _ _ _)
  | ((with_reducible apply g_aug); (focus rfl))
  | with_reducible apply g_ipI
  | with_reducible apply g_retN
  | with_reducible apply g_lcR1
  | with_reducible apply g_lcR2
  | with_reducible apply g_lcL
  | with_reducible apply g_lcU
  | with_reducible apply g_lcN
  | ((with_reducible apply g_kLcG); (focus rfl))
  | with_reducible apply g_yes
  | with_reducible apply g_kLcTT
  | with_reducible apply g_kLcTF
  | ((with_reducible apply g_kLcE); (focus walk_at "hp"); (focus walk_at "sl"); intro _ _ _)
  | ((with_reducible apply g_pow); (focus (constructor <;> (try constructor) <;> decide)))
  | ((with_reducible apply g_kLRg); (focus walk_at "rg"); intro _ _ _ _ _)
  | ((with_reducible apply g_cat); (focus walk_at "hp"); (focus walk_at "hp"); (focus walk_at "sz"); intro _ _ _ _ _)
  | ((with_reducible apply g_slL); (focus walk_at "hp"); intro _ _ _ _ _)
  | with_reducible apply g_bmT
  | with_reducible apply g_break
  | with_reducible apply g_cont)
local macro_rules | `(tactic| walk_at "g0") => `(tactic| try dsimp only [L2.cxOf, L2.Cx.nox, L2.Cx.wish])
local macro_rules | `(tactic| walk_at "yn") => `(tactic| first
  | ((with_reducible apply y_kIfS); (focus walk_at "tr"))
  | ((with_reducible apply n_kIfS); (focus walk_at "tr"))
  | ((with_reducible apply y_kOr); (focus walk_at "tr"))
  | ((with_reducible apply n_kOr); (focus walk_at "tr"))
  | ((with_reducible apply y_kAnd); (focus walk_at "tr"))
  | ((with_reducible apply n_kAnd); (focus walk_at "tr"))
  | ((with_reducible apply y_kNot); (focus walk_at "tr"))
  | ((with_reducible apply n_kNot); (focus walk_at "tr"))
  | ((with_reducible apply y_kIf); (focus walk_at "tr"))
  | ((with_reducible apply n_kIf); (focus walk_at "tr"))
  | ((with_reducible apply y_kAndV); (focus walk_at "tr"))
  | ((with_reducible apply n_kAndV); (focus walk_at "tr"))
  | ((with_reducible apply y_kOrV); (focus walk_at "tr"))
  | ((with_reducible apply n_kOrV); (focus walk_at "tr"))
  | ((with_reducible apply y_kChain); (focus walk_at "tr"))
  | ((with_reducible apply n_kChain); (focus walk_at "tr"))
  | ((with_reducible apply y_kLcT); (focus walk_at "tr"))
  | ((with_reducible apply n_kLcT); (focus walk_at "tr"))
  | ((with_reducible apply y_kWh); (focus walk_at "tr"))
  | ((with_reducible apply n_kWh); (focus walk_at "tr")))
local macro_rules | `(tactic| walk_at "go") => `(tactic| repeat (first | walk_at "g1" | walk_at "yn"))
local macro_rules | `(tactic| walk_at "hp") => `(tactic| first
  | ((with_reducible apply RingIn.ex); (focus walk_at "as"); walk_at "hp")
  | ((with_reducible apply RingAt.ex); (focus walk_at "as"); walk_at "hp")
  | ((with_reducible apply RingIn.exb); (focus walk_at "as"); (focus walk_at "hp"); walk_at "hp")
  | ((with_reducible apply RingAt.exb); (focus walk_at "as"); (focus walk_at "hp"); walk_at "hp")
  | ((with_reducible apply TupK.ex); (focus walk_at "as"); walk_at "hp")
  | ((with_reducible apply TupK.exb); (focus walk_at "as"); (focus walk_at "hp"); walk_at "hp"))
local macro_rules | `(tactic| walk_at "lk") => `(tactic| first | with_reducible exact rf_spans | with_reducible exact rf_heaps | with_reducible exact rf_total | with_reducible exact rf_nr | with_reducible exact rf_wd)
local macro_rules | `(tactic| walk_at "sp") => `(tactic| first
  | ((with_reducible apply g_isiTup); (focus walk_at "hp"))
  | ((with_reducible apply g_isiLst); (focus walk_at "hp"))
  | ((with_reducible apply g_isint); (focus omega); (focus omega))
  | ((with_reducible apply g_checkn); (focus omega); (focus omega))
  | ((with_reducible apply g_rbooks); (focus walk_at "hp"))
  | ((with_reducible apply g_rpace); (focus walk_at "hp"); intro _ _ _ _)
  | ((with_reducible apply g_rlen); (focus walk_at "hp"))
  | ((with_reducible apply g_rneed); (focus walk_at "hp"); (focus omega))
  | ((with_reducible apply g_rneedM); (focus walk_at "hp"))
  | ((with_reducible apply g_rwithM); (focus walk_at "hp"))
  | ((with_reducible apply g_rspans); (focus walk_at "hp"); (focus with_reducible assumption))
  | ((with_reducible apply g_rheaps); (focus walk_at "hp"); (focus with_reducible assumption))
  | ((with_reducible apply g_rtotal); (focus walk_at "hp"); (focus with_reducible assumption)))

local macro_rules | `(tactic| walk_at "hp") => `(tactic| first
  | ((with_reducible apply CrsIn.ex); (focus walk_at "as"); walk_at "hp")
  | ((with_reducible apply RowsAt.ex); (focus walk_at "as"); walk_at "hp"))
local macro_rules | `(tactic| walk_at "sp") => `(tactic| first
  | ((with_reducible apply g_crows); (focus walk_at "hp"); (focus with_reducible assumption))
  | ((with_reducible apply g_csize); (focus walk_at "hp"); (focus with_reducible assumption))
  | ((with_reducible apply g_cevery); (focus walk_at "hp"); (focus with_reducible assumption))
  | ((with_reducible apply g_cshift); (focus walk_at "hp"); (focus with_reducible assumption))
  | ((with_reducible apply g_cring); (focus walk_at "hp"); (focus with_reducible assumption))
  | ((with_reducible apply g_cfirst); (focus walk_at "hp"); (focus with_reducible assumption))
  | ((with_reducible apply g_clen); (focus walk_at "hp"))
  | ((with_reducible apply g_cmShifted); (focus walk_at "hp"))
  | ((with_reducible apply g_cmSettled); (focus walk_at "hp"))
  | ((with_reducible apply g_cmNext); (focus walk_at "hp"))
  | ((with_reducible apply g_cmEnd); (focus walk_at "hp"))
  | ((with_reducible apply g_cmArrival); (focus walk_at "hp")))

local macro_rules | `(tactic| walk_at "sp") => `(tactic| first
  | ((with_reducible apply g_taken); (focus walk_at "hp"); (focus first | decide | omega); (focus first | decide | omega); intro _ _ _ _ _ _))
local macro_rules | `(tactic| walk_at "hp") => `(tactic| first
  | ((with_reducible apply DiceAt.ex); (focus walk_at "as"); walk_at "hp")
  | ((with_reducible apply exb_tD); (focus walk_at "as"); (focus walk_at "hp"); walk_at "hp")
  | ((with_reducible apply exb_insD); (focus walk_at "as"); (focus walk_at "hp"); walk_at "hp")
  | ((with_reducible apply RingIn.exD); (focus walk_at "as"); (focus walk_at "hp"); walk_at "hp")
  | ((with_reducible apply TupK.exD); (focus walk_at "as"); (focus walk_at "hp"); walk_at "hp"))

local macro_rules | `(tactic| walk_at "hp") => `(tactic| first
  | ((with_reducible apply CrsAt.ex); (focus walk_at "as"); walk_at "hp")
  | ((with_reducible apply CrsAt.into); walk_at "hp"))
local macro_rules | `(tactic| walk_at "g1") => `(tactic| first
  | ((with_reducible apply g_callO); (focus walk_at "hp"))
  | with_reducible apply g_tCallO
  | with_reducible apply g_kCallO)
local macro_rules | `(tactic| walk_at "sp") => `(tactic| first
  | ((with_reducible apply g_rdays); (focus walk_at "hp"))
  | ((with_reducible apply g_rstarts); (focus walk_at "hp"))
  | ((with_reducible apply g_rget); (focus walk_at "hp"); (focus with_reducible assumption); intro _ _ _ _)
  | ((with_reducible apply g_rcall); (focus walk_at "hp"); (focus with_reducible assumption); (focus omega); intro _ _)
  | ((with_reducible apply g_mkCourse); (focus walk_at "hp"); intro _ _ _ _ _ _ _ _ _)
  | ((with_reducible apply g_ncheckn); (focus omega); (focus omega)))

section
variable {P : Program} {w : World} {K : PySem.W.Frag} {mg : Str → Option Value} {base : Heap} {C CC : Addr}
def sp_needX (K : PySem.W.Frag) (C : Addr) : Sp := fun vs H Q E => ∃ (r a b : Addr) (ds hs : List Int) (v : V), vs = [.ref r, v] ∧ RingIn K C H r a b ds hs ∧ Pl K H v ∧ inB 0 ((ds.length : Int) - 1) v = false ∧ E (.ref (He.ga K "UnknownReader")) none H
theorem okx_need_reader (Z : Blt mg) (R : RingC K C) (Exc_UnknownReader : ExcT K (He.ga K "UnknownReader") 2) (g_UnknownReader : mg "UnknownReader" = some (.ref (He.ga K "UnknownReader"))) (D_is_integer : Df P w K mg base 1 "is_integer" ["value", "low", "high"] (sp_is_integer K)) (G : CFun K C "need_reader" "Ring.need_reader" s_Ring_need_reader) : Mf P w K mg base C 2 "need_reader" ["self", "reader"] (sp_needX K C) := by
  refine Mf.of G sc_Ring_need_reader b_Ring_need_reader (fun vs H Q E h => ?_) (fun f cdv A outer s H vs Q E hr h => ?_)
  · obtain ⟨r, a, b, ds, hs, v, rfl, _⟩ := h
    rfl
  · obtain ⟨r, a, b, ds, hs, v, rfl, RI, hp, hb, q⟩ := h
    have cl_Ring := R.cl
    have hS := RI.sp
    refine ⟨_, (pss_one (ps_if (pt_not (pt_val (pg D_is_integer hr (pa_cons (pv 1) (pa_cons pe_int (pa_cons (pe_op op_sub (pe_callB c_len (by rfl) Z.zlen PySem.boot_len (pa_cons (pe_fld (pv 0) rfl) pa_nil)) pe_int) pa_nil)))))) (pss_one (psr_own Exc_UnknownReader g_UnknownReader rfl (takes_of rfl rfl rfl rfl))) pss_nil)), ?_⟩
    walk_at "g0"
    walk_at "go"
    refine g_notint hp hb ?_
    walk_at "go"
    exact q
theorem g_needX {H : Hp} {Q : VK} {E : XK} {r a b : Addr} {ds hs : List Int} {v : V} (RI : RingIn K C H r a b ds hs) (p : Pl K H v) (h : inB 0 ((ds.length : Int) - 1) v = false) (q : E (.ref (He.ga K "UnknownReader")) none H) : sp_needX K C [.ref r, v] H Q E := ⟨r, a, b, ds, hs, v, rfl, RI, p, h, q⟩
/-- a reader that is not there, or one that is and a number out of range -/
def AskX (K : PySem.W.Frag) (H : Hp) (ds : List Int) (v u : V) (E : XK) : Prop := (inB 0 ((ds.length : Int) - 1) v = false ∧ E (.ref (He.ga K "UnknownReader")) none H) ∨ ∃ k : Nat, v = .int (k : Int) ∧ k < ds.length ∧ inB 0 1000000000000000000 u = false ∧ E (.ref (He.ga K "InvalidNumber")) none H
def sp_askX (K : PySem.W.Frag) (C : Addr) : Sp := fun vs H Q E => ∃ (r a b : Addr) (ds hs : List Int) (v u : V), vs = [.ref r, v, u] ∧ RingIn K C H r a b ds hs ∧ Pl K H v ∧ Pl K H u ∧ AskX K H ds v u E
theorem g_rmMeth {H : Hp} {Q : VK} {E : XK} {sp : Sp} {tr : TA} {σ : L2.St} {r a b : Addr} {ds hs : List Int} (R : RingIn K C H r a b ds hs) (q : tr σ H fun vs H2 => sp (.ref r :: vs) H2 Q E) : kMeth C "need_reader" sp E tr σ Q (.ref r) H := let ⟨dx, ho⟩ := R.obj; g_kMeth ho rf_nr q
theorem okx_Ring_call (Z : Blt mg) (R : RingC K C) (c_MAX_NUMBER : ∃ t, mg "MAX_NUMBER" = some (.int 1000000000000000000 t)) (M_Ring_need_reader : Mf P w K mg base C 2 "need_reader" ["self", "reader"] (sp_Ring_need K C)) (MX_Ring_need_reader : Mf P w K mg base C 2 "need_reader" ["self", "reader"] (sp_needX K C)) (DX_check_number : Df P w K mg base 2 "check_number" ["number", "low", "high"] (sp_check_numberX K))
    (G : CFun K C "__call__" "Ring.__call__" s_Ring___call__) : Cf P w K mg base C 7 "__call__" ["self", "reader", "number"] (sp_askX K C) := by
  refine Cf.of G sc_Ring___call__ b_Ring___call__ (fun vs H Q E h => ?_) (fun f cdv A outer s H vs Q E hr h => ?_)
  · obtain ⟨r, a, b, ds, hs, v, u, rfl, _⟩ := h
    rfl
  · obtain ⟨r, a, b, ds, hs, v, u, rfl, RI, hv, hu, ⟨h1, q⟩ | ⟨k, rfl, hk, h1, q⟩⟩ := h
    · have cl_Ring := R.cl
      refine ⟨_, (pss_cons (ps_expr (pm (pv 0) cl_Ring MX_Ring_need_reader hr (pa_cons (pv 1) pa_nil) (passes_call (takes_of rfl rfl rfl rfl) (fun _ _ _ _ h => h))))
      (pss_cons ps_never
      (pss_one ps_never))), ?_⟩
      walk_at "g0"
      walk_at "go"
      refine g_rmMeth RI ?_
      walk_at "go"
      exact g_needX RI hv h1 q
    · have cl_Ring := R.cl
      refine ⟨_, (pss_cons (ps_expr (pm (pv 0) cl_Ring M_Ring_need_reader hr (pa_cons (pv 1) pa_nil)))
      (pss_cons (ps_expr (pg DX_check_number hr (pa_cons (pv 2) (pa_cons pe_int (pa_cons (pint c_MAX_NUMBER) pa_nil))) (passes_call (takes_of rfl rfl rfl rfl) (fun _ _ _ _ h => h))))
      (pss_one ps_never))), ?_⟩
      walk_at "g0"
      walk_at "go"
      exact g_checkX hu h1 q
end
end G48

namespace G48
open PySem PySem.Spec PyProof.Rows L2 Evl
abbrev N_InvalidRing___init__ : List Str := ["self", "part", "index"]
theorem sc_InvalidRing___init__ : FnScope N_InvalidRing___init__ ["self", "part", "index"] (defScope s_InvalidRing___init__) := ⟨rfl, rfl, rfl, by decide +kernel, rfl, by decide +kernel, by decide +kernel⟩
theorem b_InvalidRing___init__ : BindL "InvalidRing.__init__" "__init__" s_InvalidRing___init__ ["self", "part", "index"] := fun _ _ _ _ _ _ us hl => match us, hl with | [_, _, _], _ => rfl
end G48
/-! InvalidRing(part, index): the error made, its fields -/
namespace G48
open PySem PySem.Spec PyProof.Rows L2 Evl
/-! the steps -/
local macro_rules | `(tactic| walk_at "as") => `(tactic| with_reducible assumption)
local macro_rules | `(tactic| walk_at "hp") => `(tactic| first
  | with_reducible assumption
  | ((with_reducible apply SqT.of); walk_at "as")
  | ((with_reducible apply SqL.of); walk_at "as")
  | ((with_reducible apply ex_at); (focus walk_at "as"); walk_at "hp")
  | ((with_reducible apply ex_t); (focus walk_at "as"); walk_at "hp")
  | ((with_reducible apply ex_l); (focus walk_at "as"); walk_at "hp")
  | ((with_reducible apply exb_ins); (focus walk_at "as"); (focus walk_at "hp"); walk_at "hp")
  | ((with_reducible apply exb_t); (focus walk_at "as"); (focus walk_at "hp"); walk_at "hp")
  | ((with_reducible apply exb_at); (focus walk_at "as"); (focus walk_at "ne"); walk_at "hp")
  | ((with_reducible apply exb_l); (focus walk_at "as"); (focus walk_at "ne"); walk_at "hp"))
local macro_rules | `(tactic| walk_at "ne") => `(tactic| first
  | with_reducible assumption
  | exact Ne.symm (by with_reducible assumption)
  | exact ne_of_none (by with_reducible assumption) (by with_reducible assumption)
  | exact Ne.symm (ne_of_none (by with_reducible assumption) (by with_reducible assumption)))
local macro_rules | `(tactic| walk_at "tr") => `(tactic| first
  | rfl
  | with_reducible assumption
  | exact decide_eq_true (by first | with_reducible assumption | omega)
  | exact decide_eq_false (by first | with_reducible assumption | omega)
  | (rw [Bool.not_eq_true']; exact decide_eq_false (by first | with_reducible assumption | omega))
  | (rw [Bool.not_eq_false']; exact decide_eq_true (by first | with_reducible assumption | omega)))
local macro_rules | `(tactic| walk_at "nn") => `(tactic| first | with_reducible assumption | (exact List.cons_ne_nil _ _))
local macro_rules | `(tactic| walk_at "sz") => `(tactic| first | (exact sz1000 (Nat.le_of_ble_eq_true rfl)) | (refine sz1000 ?_; simp only [List.length_map, List.length_cons, List.length_nil, List.length_append]; omega) | with_reducible assumption)
local macro_rules | `(tactic| walk_at "sl") => `(tactic| first | with_reducible assumption | (refine lt1000 ?_; simp only [List.length_map, List.length_cons, List.length_nil, List.length_append]; omega) | (refine lt1000 ?_; omega))
local macro_rules | `(tactic| walk_at "ix") => `(tactic| first | rfl | with_reducible assumption)
local macro_rules | `(tactic| walk_at "rg") => `(tactic| exact RgOk.of_le (by omega) (by omega) (by omega) (by omega))
local macro_rules | `(tactic| walk_at "sp") => `(tactic| fail "sp")
local macro_rules | `(tactic| walk_at "cl") => `(tactic| with_reducible assumption)
local macro_rules | `(tactic| walk_at "lk") => `(tactic| with_reducible assumption)
local macro_rules | `(tactic| walk_at "it") => `(tactic| first | rfl | with_reducible assumption | exact atI_nat (by with_reducible assumption))
local macro_rules | `(tactic| walk_at "g1") => `(tactic| first
  | (with_reducible apply g_var); (focus rfl)
  | with_reducible apply g_c
  | with_reducible apply g_seq
  | with_reducible apply g_asg
  | with_reducible apply gg_name
  | with_reducible apply g_op
  | with_reducible apply g_cons
  | with_reducible apply g_nil
  | with_reducible apply g_cb
  | with_reducible apply g_fld
  | ((with_reducible apply g_kFld); (focus walk_at "hp"); (focus walk_at "cl"); (focus walk_at "cl"); (focus walk_at "lk"))
  | with_reducible apply g_call
  | walk_at "sp"
  | with_reducible apply g_ret
  | with_reducible apply g_drop
  | with_reducible apply g_test
  | with_reducible apply g_B
  | with_reducible apply g_kTest
  | with_reducible apply g_ifS
  | with_reducible apply g_kIfST
  | with_reducible apply g_kIfSF
  | with_reducible apply g_add
  | with_reducible apply g_sub
  | with_reducible apply g_lt
  | with_reducible apply g_le
  | with_reducible apply g_gt
  | with_reducible apply g_ge
  | with_reducible apply g_eqI
  | with_reducible apply g_neI
  | ((with_reducible apply g_mod); (focus first | decide | omega))
  | ((with_reducible apply g_mul); (focus first | (left; constructor <;> omega) | (right; constructor <;> omega)))
  | ((with_reducible apply g_fdiv); (focus (constructor <;> omega)))
  | ((with_reducible apply g_ixT); (focus walk_at "hp"); (focus walk_at "it"))
  | ((with_reducible apply g_ixL); (focus walk_at "hp"); (focus walk_at "it"))
  | with_reducible apply g_and
  | with_reducible apply g_or
  | with_reducible apply g_not
  | with_reducible apply g_kNotT
  | with_reducible apply g_kNotF
  | with_reducible apply g_if
  | with_reducible apply g_kAndT
  | with_reducible apply g_kAndF
  | with_reducible apply g_kOrT
  | with_reducible apply g_kOrF
  | with_reducible apply g_kIfT
  | with_reducible apply g_kIfF
  | with_reducible apply g_next
  | with_reducible apply g_andV
  | with_reducible apply g_orV
  | with_reducible apply g_notV
  | with_reducible apply g_kNotV
  | with_reducible apply g_kAndVT
  | with_reducible apply g_kAndVF
  | with_reducible apply g_chain
  | with_reducible apply g_kChainT
  | with_reducible apply g_kChainF
  | with_reducible apply g_tup
  | with_reducible apply g_lst
  | ((with_reducible apply g_kT); (focus walk_at "sz"); intro _ _ _ _ _)
  | ((with_reducible apply g_kL); (focus walk_at "sz"); intro _ _ _ _ _)
  | with_reducible apply g_un
  | with_reducible apply g_neg
  | with_reducible apply g_meth
  | ((with_reducible apply g_kMeth); (focus walk_at "hp"); (focus walk_at "lk"))
  | with_reducible apply g_prop
  | ((with_reducible apply g_kProp); (focus walk_at "hp"))
  | with_reducible apply g_make
  | with_reducible apply g_par
  | with_reducible apply g_kPar
  | ((with_reducible apply g_lenLM); (focus walk_at "hp"))
  | ((with_reducible apply g_lenTM); (focus walk_at "hp"))
  | ((with_reducible apply g_lenL); (focus walk_at "hp"))
  | ((with_reducible apply g_lenT); (focus walk_at "hp"))
  | with_reducible apply g_int1
  | with_reducible apply g_max2
  | with_reducible apply g_min2
  | ((with_reducible apply g_listL); (focus walk_at "hp"); intro _ _ _ _ _)
  | ((with_reducible apply g_listT); (focus walk_at "hp"); intro _ _ _ _ _)
  | ((with_reducible apply g_tupL); (focus walk_at "hp"); intro _ _ _ _ _)
  | ((with_reducible apply g_sum); (focus walk_at "hp"))
  | with_reducible apply g_sfld
  | with_reducible apply g_sl
  | with_reducible apply g_nopart
  | with_reducible apply g_part
  | with_reducible apply g_kPart
  | with_reducible apply g_lstRg
  | with_reducible apply g_rg1
  | with_reducible apply g_kRg1
  | with_reducible apply g_bm
  | with_reducible apply gg_sub
  | ((with_reducible apply gg_tup); (focus walk_at "hp"); (focus rfl))
  | with_reducible apply gg_cons
  | with_reducible apply gg_nil
  | with_reducible apply g_forL
  | with_reducible apply g_forT
  | with_reducible apply g_forR1
  | with_reducible apply g_forR2
  | with_reducible apply g_forE
  | with_reducible apply g_forEL
  | ((with_reducible apply g_maxT); (focus walk_at "hp"); (focus walk_at "nn"))
  | ((with_reducible apply g_maxL); (focus walk_at "hp"); (focus walk_at "nn"))
  | ((with_reducible apply g_catA); (focus walk_at "hp"); (focus walk_at "hp"); (focus walk_at "sz"); intro _ _ _ _)
  | ((with_reducible apply g_slA); (focus walk_at "hp"); intro _ _ _ _)
  | ((with_reducible apply g_tupD); (focus walk_at "hp"); intro _ _ _ _ _)
  | ((with_reducible apply g_setL); (focus walk_at "hp"); (focus walk_at "ix"); intro _ _ _)
  | ((with_reducible apply g_append); (focus walk_at "hp"); (focus walk_at "sl"); intro _ _ _)
  | ((with_reducible apply g_aug); (focus rfl))
  | with_reducible apply g_ipI
  | with_reducible apply g_retN
  | with_reducible apply g_lcR1
  | with_reducible apply g_lcR2
  | with_reducible apply g_lcL
  | with_reducible apply g_lcU
  | with_reducible apply g_lcN
  | ((with_reducible apply g_kLcG); (focus rfl))
  | with_reducible apply g_yes
  | with_reducible apply g_kLcTT
  | with_reducible apply g_kLcTF
  | ((with_reducible apply g_kLcE); (focus walk_at "hp"); (focus walk_at "sl"); intro _ _ _)
  | ((with_reducible apply g_pow); (focus (constructor <;> (try constructor) <;> decide)))
  | ((with_reducible apply g_kLRg); (focus walk_at "rg"); intro _ _ _ _ _)
  | ((with_reducible apply g_cat); (focus walk_at "hp"); (focus walk_at "hp"); (focus walk_at "sz"); intro _ _ _ _ _)
  | ((with_reducible apply g_slL); (focus walk_at "hp"); intro _ _ _ _ _)
  | with_reducible apply g_bmT
  | with_reducible apply g_break
  | with_reducible apply g_cont)
local macro_rules | `(tactic| walk_at "g0") => `(tactic| try dsimp only [L2.cxOf, L2.Cx.nox, L2.Cx.wish])
local macro_rules | `(tactic| walk_at "yn") => `(tactic| first
  | ((with_reducible apply y_kIfS); (focus walk_at "tr"))
  | ((with_reducible apply n_kIfS); (focus walk_at "tr"))
  | ((with_reducible apply y_kOr); (focus walk_at "tr"))
  | ((with_reducible apply n_kOr); (focus walk_at "tr"))
  | ((with_reducible apply y_kAnd); (focus walk_at "tr"))
  | ((with_reducible apply n_kAnd); (focus walk_at "tr"))
  | ((with_reducible apply y_kNot); (focus walk_at "tr"))
  | ((with_reducible apply n_kNot); (focus walk_at "tr"))
  | ((with_reducible apply y_kIf); (focus walk_at "tr"))
  | ((with_reducible apply n_kIf); (focus walk_at "tr"))
  | ((with_reducible apply y_kAndV); (focus walk_at "tr"))
  | ((with_reducible apply n_kAndV); (focus walk_at "tr"))
  | ((with_reducible apply y_kOrV); (focus walk_at "tr"))
  | ((with_reducible apply n_kOrV); (focus walk_at "tr"))
  | ((with_reducible apply y_kChain); (focus walk_at "tr"))
  | ((with_reducible apply n_kChain); (focus walk_at "tr"))
  | ((with_reducible apply y_kLcT); (focus walk_at "tr"))
  | ((with_reducible apply n_kLcT); (focus walk_at "tr"))
  | ((with_reducible apply y_kWh); (focus walk_at "tr"))
  | ((with_reducible apply n_kWh); (focus walk_at "tr")))
local macro_rules | `(tactic| walk_at "go") => `(tactic| repeat (first | walk_at "g1" | walk_at "yn"))
local macro_rules | `(tactic| walk_at "hp") => `(tactic| first
  | ((with_reducible apply RingIn.ex); (focus walk_at "as"); walk_at "hp")
  | ((with_reducible apply RingAt.ex); (focus walk_at "as"); walk_at "hp")
  | ((with_reducible apply RingIn.exb); (focus walk_at "as"); (focus walk_at "hp"); walk_at "hp")
  | ((with_reducible apply RingAt.exb); (focus walk_at "as"); (focus walk_at "hp"); walk_at "hp")
  | ((with_reducible apply TupK.ex); (focus walk_at "as"); walk_at "hp")
  | ((with_reducible apply TupK.exb); (focus walk_at "as"); (focus walk_at "hp"); walk_at "hp"))
local macro_rules | `(tactic| walk_at "lk") => `(tactic| first | with_reducible exact rf_spans | with_reducible exact rf_heaps | with_reducible exact rf_total | with_reducible exact rf_nr | with_reducible exact rf_wd)
local macro_rules | `(tactic| walk_at "sp") => `(tactic| first
  | ((with_reducible apply g_isiTup); (focus walk_at "hp"))
  | ((with_reducible apply g_isiLst); (focus walk_at "hp"))
  | ((with_reducible apply g_isint); (focus omega); (focus omega))
  | ((with_reducible apply g_checkn); (focus omega); (focus omega))
  | ((with_reducible apply g_rbooks); (focus walk_at "hp"))
  | ((with_reducible apply g_rpace); (focus walk_at "hp"); intro _ _ _ _)
  | ((with_reducible apply g_rlen); (focus walk_at "hp"))
  | ((with_reducible apply g_rneed); (focus walk_at "hp"); (focus omega))
  | ((with_reducible apply g_rneedM); (focus walk_at "hp"))
  | ((with_reducible apply g_rwithM); (focus walk_at "hp"))
  | ((with_reducible apply g_rspans); (focus walk_at "hp"); (focus with_reducible assumption))
  | ((with_reducible apply g_rheaps); (focus walk_at "hp"); (focus with_reducible assumption))
  | ((with_reducible apply g_rtotal); (focus walk_at "hp"); (focus with_reducible assumption)))

section
variable {P : Program} {w : World} {K : PySem.W.Frag} {mg : Str → Option Value} {base : Heap}
def sp_initR (K : PySem.W.Frag) (C : Addr) : Sp := fun vs H Q _ => ∃ (a : Addr) (part : Str) (i : Int), vs = [.ref a, .str part, .int i] ∧ H a = some (exo a C none) ∧ (-1 ≤ i ∧ i ≤ 600) ∧ part.length ≤ 20 ∧
  ∀ dx, H dx = none → dx ≠ a → Q .non (upd (upd (upd H dx (exd dx [("part", .str part)])) a (exo a C (some dx))) dx (exd dx [("index", .int i), ("part", .str part)]))
theorem ok_InvalidRing (Z : Blt mg) (Err_InvalidRing : ErrC K (He.ga K "InvalidRing") 0 ["part", "index"]) (Rin_ReadingError : RinC K (He.ga K "ReadingError")) (g_ReadingError : mg "ReadingError" = some (.ref (He.ga K "ReadingError"))) (g_InvalidRing : mg "InvalidRing" = some (.ref (He.ga K "InvalidRing")))
    (G : CFun K (He.ga K "InvalidRing") "__init__" "InvalidRing.__init__" s_InvalidRing___init__) : Ef P w K mg base "InvalidRing" (He.ga K "InvalidRing") 1 ["self", "part", "index"] (sp_initR K (He.ga K "InvalidRing")) := by
  refine Ef.of G g_InvalidRing sc_InvalidRing___init__ b_InvalidRing___init__ (fun vs H Q E h => ?_) (fun f cdv A outer s H vs Q E hr h => ?_)
  · obtain ⟨a, part, i, rfl, _⟩ := h
    rfl
  · obtain ⟨a, part, i, rfl, ha, hi, hp, q⟩ := h
    refine ⟨_, PSs.nox (pss_cons (ps_expr (pe_rinit Rin_ReadingError g_ReadingError (pa_cons (pv 0) (pa_cons (pe_joined (.cons pe_str (.cons (pe_fmt (pv 1)) (.cons pe_str (.cons (pe_fmt (pv 2)) .nil))))) pa_nil))))
      (pss_cons (ps_ost (pv 0) (pv 1))
      (pss_one (ps_ost (pv 0) (pv 2))))), ?_⟩
    walk_at "g0"
    walk_at "go"
    obtain ⟨l1, l2⟩ := int_len hi
    have l3 : Str.length (Str.ofString "invalid ") ≤ 10 := by decide
    have l4 : Str.length (Str.ofString " at index ") ≤ 10 := by decide
    have l0 : Str.length Str.empty = 0 := by decide
    refine ⟨.ref a, rfl, Str.ofString "invalid ", rfl, ?_, .str part, rfl, .inl ⟨part, rfl, ?_, part, rfl, ?_, Str.ofString " at index ", rfl, ?_, .int i, rfl, .inr ⟨i, rfl, l1, toString i, rfl, ?_, ?_⟩⟩⟩
    · rw [Str.length_append, sizeLine_eq]
      omega
    · rw [sizeLine_eq]
      omega
    · rw [Str.length_append, Str.length_append, sizeLine_eq]
      omega
    · rw [Str.length_append, Str.length_append, Str.length_append, sizeLine_eq]
      omega
    · rw [Str.length_append, Str.length_append, Str.length_append, Str.length_append, sizeLine_eq]
      omega
    · refine ⟨a, _, [.str _], rfl, (by show 1 ≤ 1000; omega), Err_InvalidRing.ox, ha, ?_⟩
      refine ⟨.str part, rfl, .ref a, rfl, a, _, rfl, Err_InvalidRing.ox, Err_InvalidRing.no _ (by decide), .inl ⟨ha, fun dx n ne => ?_⟩⟩
      refine ⟨.int i, rfl, .ref a, rfl, a, _, rfl, Err_InvalidRing.ox, Err_InvalidRing.no _ (by decide), .inr ⟨dx, [("part", .str part)], upd_same, by rw [upd_ne ne, upd_same], (by show 1 ≤ 900; omega), ?_⟩⟩
      exact q dx n ne
/-- InvalidRing(part, i) made: at a new place stands its dict -/
theorem g_mkR {C : Addr} {H : Hp} {Q : XK} {part : Str} {i : Int} (hp : part.length ≤ 20) (hi : -1 ≤ i ∧ i ≤ 600) (q : ∀ d, H d = none → Q (.ref C) (some d) (upd H d (.xd [("index", .int i), ("part", .str part)]))) : kMkO C (sp_initR K C) Q [.str part, .int i] H := by
  refine ⟨(by show 2 ≤ 1000; omega), fun a na => ⟨a, part, i, rfl, upd_same, hi, hp, fun dx nx ne => ⟨rfl, dx, [("index", .int i), ("part", .str part)], by rw [upd_ne (Ne.symm ne), upd_same], upd_same, ?_, ?_⟩⟩⟩
  · rw [upd_ne ne] at nx
    exact nx
  · have e : upd (del (upd (upd (upd (upd H a (exo a C none)) dx (exd dx [("part", .str part)])) a (exo a C (some dx))) dx (exd dx [("index", .int i), ("part", .str part)])) a) dx (.xd [("index", .int i), ("part", .str part)]) = upd H dx (.xd [("index", .int i), ("part", .str part)]) := by
      funext b
      by_cases hb : b = dx
      · rw [hb, upd_same, upd_same]
      · rw [upd_ne hb, upd_ne hb]
        by_cases hb2 : b = a
        · rw [hb2, del_same, na]
        · rw [del_ne hb2, upd_ne hb, upd_ne hb2, upd_ne hb, upd_ne hb2]
    rw [e]
    rw [upd_ne ne] at nx
    exact q dx nx
end
end G48

/-! behind a lambda: what is carried over; texts compared; lists of pairs and the empty list -/
namespace G48
open PySem PySem.Spec PyProof.Rows L2 Evl
open LamX (Tabs ExtN)
section
variable {K : PySem.W.Frag} {H H' : Hp} {C : Addr}
theorem Scr.exn {a : Addr} {xs : List V} (e : ExtN H H') : Scr K H a xs → Scr K H' a xs
  | .inl ⟨o, h⟩ => .inl ⟨o, e _ _ h fun _ z => by cases z⟩
  | .inr h => .inr h
theorem DiceAt.exn {d : Addr} (e : ExtN H H') (D : DiceAt K H d) : DiceAt K H' d := by
  obtain ⟨sc, ns, p, m, r, h, hs, z, q⟩ := D
  exact ⟨sc, ns, p, m, r, exn_lst e h, hs.exn e, z, q⟩
theorem RingIn.exn {r a b : Addr} {ds hs : List Int} (e : ExtN H H') (R : RingIn K C H r a b ds hs) : RingIn K C H' r a b ds hs :=
  ⟨let ⟨dx, h⟩ := R.obj; ⟨dx, exn_ins e h⟩, exn_t e R.sp, exn_t e R.hp, R.ok⟩
theorem TupK.exn {a : Addr} {xs : List V} (e : ExtN H H') (h : TupK H a xs) : TupK H' a xs := by
  obtain ⟨o, h, c⟩ := h
  exact ⟨o, e _ _ h (fun _ z => by cases z), c⟩
theorem tabs_exD {T : List (Addr × Str)} {d : Addr} (e : Exb d H H') (D : DiceAt K H d) (t : Tabs T H) : Tabs T H' := let ⟨_, hl⟩ := D.lst; tabs_exb e hl t
variable {Q : VK} {a b : Addr}
theorem strD_sh (x y : Str) (hx : PyData.strOk x = true) (hy : PyData.strOk y = true) : SeqAt.shaped (.tuple [.str x, .str y]) = true := by
  show (PyData.canLay0 (.tuple [.str x, .str y]) && decide (PyData.depth (.tuple [.str x, .str y]) ≤ 64)) = true
  rw [Bool.and_eq_true]
  exact ⟨by simp [PyData.canLay0, PyData.canLayAll0, hx, hy], decide_eq_true (by simp [PyData.depth, PyData.depthAll])⟩
theorem strD_dp {x y : Str} (h : SqT K H a [.str x, .str y]) : Dp K H (.ref a) (.tuple [.str x, .str y]) := .tup h (.cons (.str _) (.cons (.str _) .nil))
theorem strD_eqv (x y : Str) : PyData.eqv (.tuple [.str x, .str y]) (.tuple [.str x, .str y]) = true := by simp [PyData.eqv, PyData.eqvAll]
/-- the error's name is the one that is due -/
theorem g_neTS {x y : Str} (hx : PyData.strOk x = true) (hy : PyData.strOk y = true) (h1 : SqT K H a [.str x, .str y]) (h2 : SqT K H b [.str x, .str y]) (q : Q (.bl false) H) : rNeD K (.ref a) (.ref b) H Q := g_neD (strD_dp h1) (strD_dp h2) (strD_sh _ _ hx hy) (strD_sh _ _ hx hy) (by rw [strD_eqv]; exact q)
theorem nilD_eqv (ps : List PyData) : PyData.eqv (.list ps) (.list []) = ps.isEmpty := by
  cases ps with
  | nil => simp [PyData.eqv, PyData.eqvAll]
  | cons p ps => simp [PyData.eqv, PyData.eqvAll]
theorem g_eqNil {zs : List V} {ps : List (Int × Int)} (h1 : SqL K H a zs) (h2 : pairsV K H zs ps) (h3 : SqL K H b []) (q : Q (.bl ps.isEmpty) H) : rEqD K (.ref a) (.ref b) H Q :=
  g_eqD (.lst h1 h2.dp) (.lst h3 .nil) (pairsL_sh ps) (pairsL_sh []) (by rw [show PyData.list [] = PyData.list [] from rfl, nilD_eqv, List.isEmpty_map]; exact q)
theorem g_neNil {zs : List V} {ps : List (Int × Int)} (h1 : SqL K H a zs) (h2 : pairsV K H zs ps) (h3 : SqL K H b []) (q : Q (.bl (!ps.isEmpty)) H) : rNeD K (.ref a) (.ref b) H Q :=
  g_neD (.lst h1 h2.dp) (.lst h3 .nil) (pairsL_sh ps) (pairsL_sh []) (by rw [nilD_eqv, List.isEmpty_map]; exact q)
theorem g_kIfSM {t1 t2 : TS} {D : Ends} {σ : L2.St} {c : Bool} {H : Hp} (M : L2.St → Hp → Prop) (h1 : c = true → ∀ N : L2.St → Hp → Prop, (∀ σ' H', M σ' H' → N σ' H') → t1 { D with nx := N } σ H) (h2 : c = false → ∀ N : L2.St → Hp → Prop, (∀ σ' H', M σ' H' → N σ' H') → t2 { D with nx := N } σ H)
    (q : ∀ σ' H', M σ' H' → D.nx σ' H') : kIfS t1 t2 D σ c H := g_kIfS (fun h => h1 h D.nx q) fun h => h2 h D.nx q
theorem g_toldL {T : List (Addr × Str)} {t : XK → TE} {TT : (XK → Hp → VK → Prop) → Hp → VK → Prop} {σ : L2.St} {H : Hp} {Q : VK} (h : Tabs T H) (q : ∀ H1, ExtN H H1 → Tabs T H1 → TT (fun E H' Q' => t E σ H' Q') H1 Q) : tToldL T t TT σ H Q := ⟨h, q⟩
end
end G48

/-! lists of errors that were told, compared; lambdas made and asked in turn -/
namespace G48
open PySem PySem.Spec PyProof.Rows L2 Evl
open LamX (Tabs ExtN)
section
variable {K : PySem.W.Frag} {H H' : Hp} {Q : VK} {a b : Addr}
def errsV (K : PySem.W.Frag) (H : Hp) : List V → List Str → Prop
  | [], [] => True
  | v :: vs, n :: ns => (∃ p : Addr, v = .ref p ∧ SqT K H p [.str "error", .str n]) ∧ errsV K H vs ns
  | _, _ => False
def errD (n : Str) : PyData := .tuple [.str "error", .str n]
theorem errsV.dp : ∀ {vs : List V} {ns : List Str}, errsV K H vs ns → DpAll K H vs (ns.map errD)
  | [], [], _ => .nil
  | _ :: _, _ :: _, h => by
    obtain ⟨⟨p, rfl, s⟩, h2⟩ := h
    exact .cons (.tup s (.cons (.str _) (.cons (.str _) .nil))) (errsV.dp h2)
  | [], _ :: _, h => h.elim
  | _ :: _, [], h => h.elim
theorem errsV.imp (e : ∀ a xs, SqT K H a xs → SqT K H' a xs) : ∀ {vs : List V} {ns : List Str}, errsV K H vs ns → errsV K H' vs ns
  | [], [], _ => trivial
  | _ :: _, _ :: _, h => ⟨let ⟨p, a, s⟩ := h.1; ⟨p, a, e _ _ s⟩, errsV.imp e h.2⟩
  | [], _ :: _, h => h.elim
  | _ :: _, [], h => h.elim
theorem errsV.ex (e : Ex H H') {vs : List V} {ns : List Str} (h : errsV K H vs ns) : errsV K H' vs ns := h.imp fun _ _ => ex_t e
theorem errsV.exb {l : Addr} {ys : List V} (e : Exb l H H') (hl : H l = some (.lst ys)) {vs : List V} {ns : List Str} (h : errsV K H vs ns) : errsV K H' vs ns := h.imp fun _ _ => exb_t e hl
theorem errsV.app : ∀ {vs : List V} {ns : List Str} {ws : List V} {ms : List Str}, errsV K H vs ns → errsV K H ws ms → errsV K H (vs ++ ws) (ns ++ ms)
  | [], [], _, _, _, h => h
  | _ :: _, _ :: _, _, _, h, h2 => ⟨h.1, errsV.app h.2 h2⟩
  | [], _ :: _, _, _, h, _ => h.elim
  | _ :: _, [], _, _, h, _ => h.elim
theorem errsV.one {p : Addr} {n : Str} (s : SqT K H p [.str "error", .str n]) : errsV K H [.ref p] [n] := ⟨⟨p, rfl, s⟩, trivial⟩
theorem errsV.rep {p : Addr} {n : Str} (s : SqT K H p [.str "error", .str n]) : ∀ m, errsV K H (List.replicate m (.ref p)) (List.replicate m n)
  | 0 => trivial
  | m + 1 => ⟨⟨p, rfl, s⟩, errsV.rep s m⟩
theorem errsV.len : ∀ {vs : List V} {ns : List Str}, errsV K H vs ns → vs.length = ns.length
  | [], [], _ => rfl
  | _ :: _, _ :: _, h => by rw [List.length_cons, List.length_cons, errsV.len h.2]
  | [], _ :: _, h => h.elim
  | _ :: _, [], h => h.elim
theorem g_neErr {ns : List Str} {vs ws : List V} (hs : SeqAt.shaped (.list (ns.map errD)) = true) (h1 : SqL K H a vs) (e1 : errsV K H vs ns) (h2 : SqL K H b ws) (e2 : errsV K H ws ns) (q : Q (.bl false) H) : rNeD K (.ref a) (.ref b) H Q :=
  g_neD (.lst h1 e1.dp) (.lst h2 e2.dp) hs hs (by rw [SeqAt.eqv_refl _ (SeqAt.canLay_of_shaped hs)]; exact q)
theorem dice_ne_refs {d l : Addr} {vs : List V} (D : DiceAt K H d) (h : H l = some (.lst vs)) (hv : ∀ x ∈ vs, ∃ p : Addr, x = .ref p) : l ≠ d := fun z => by
  obtain ⟨sc, ns, p, m, r, hd, _⟩ := D
  rw [z, hd] at h
  cases h
  obtain ⟨_, e⟩ := hv (.int p) (by simp)
  cases e
theorem dice_ne_ints {d l : Addr} {ns : List Int} (D : DiceAt K H d) (h : H l = some (.lst (ns.map V.int))) : l ≠ d := fun z => by
  obtain ⟨sc, ns', p, m, r, hd, _⟩ := D
  rw [z, hd] at h
  have h := HO.lst.inj (Option.some.inj h)
  cases ns with
  | nil => cases h
  | cons n ns => cases h
theorem int_pow6 : (10 : Int) ^ Int.toNat 6 = 1000000 := by decide
theorem int_pow9 : (10 : Int) ^ Int.toNat 9 = 1000000000 := by decide
theorem int_pow18 : (10 : Int) ^ Int.toNat 18 = 1000000000000000000 := by decide
theorem g_lamT {M : LamM} {k : Nat} {T : List (Addr × Str)} {t : XK → TE} {σ : L2.St} (h : Tabs T H) (q : ∀ f H1, H f = none → ExtN H H1 → Tabs T H1 → LamTo M k H1 f t → Q (.ref f) H1) : tLamT M k T t σ H Q := ⟨h, q⟩
theorem g_toldT {M : LamM} {k : Nat} {ta : TA} {σ0 σ : L2.St} {TT : (XK → Hp → VK → Prop) → Hp → VK → Prop} (q : ta σ H fun vs H1 => ∃ f t, vs = [.ref f] ∧ LamTo M k H1 f t ∧ TT (fun E H' Q' => t E σ0 H' Q') H1 Q) : tToldT M k ta σ0 TT σ H Q := q
/-- a value that is none of the numbers lo .. hi -/
theorem bad4 {x : V} {i j lo hi : Int} (h : x ∈ [V.int i, V.int j, V.non, V.bl true]) (hi1 : i < lo) (hj : hi < j) : (∀ H : Hp, Pl K H x) ∧ inB lo hi x = false := by
  simp only [List.mem_cons, List.not_mem_nil, or_false] at h
  rcases h with rfl | rfl | rfl | rfl
  · exact ⟨fun _ => .int _, by show (decide (lo ≤ i) && decide (i ≤ hi)) = false; rw [decide_eq_false (by omega)]; rfl⟩
  · exact ⟨fun _ => .int _, by show (decide (lo ≤ j) && decide (j ≤ hi)) = false; rw [decide_eq_false (p := j ≤ hi) (by omega), Bool.and_false]⟩
  · exact ⟨fun _ => .non, rfl⟩
  · exact ⟨fun _ => .bl _, rfl⟩
end
end G48

namespace G48
open PySem PySem.Spec PyProof.Rows L2 Evl
abbrev N__law_pick : List Str := ["_law_d", "_law_some"]
theorem sc__law_pick : FnScope N__law_pick ["_law_d", "_law_some"] (defScope s__law_pick) := ⟨rfl, rfl, rfl, by decide +kernel, rfl, by decide +kernel, by decide +kernel⟩
theorem b__law_pick : BindL "_law_pick" "_law_pick" s__law_pick ["_law_d", "_law_some"] := fun _ _ _ _ _ _ us hl => match us, hl with | [_, _], _ => rfl
end G48
/-! a draw of a list of any values -/
namespace G48
open PySem PySem.Spec PyProof.Rows L2 Evl
/-! the steps -/
local macro_rules | `(tactic| walk_at "as") => `(tactic| with_reducible assumption)
local macro_rules | `(tactic| walk_at "hp") => `(tactic| first
  | with_reducible assumption
  | ((with_reducible apply SqT.of); walk_at "as")
  | ((with_reducible apply SqL.of); walk_at "as")
  | ((with_reducible apply ex_at); (focus walk_at "as"); walk_at "hp")
  | ((with_reducible apply ex_t); (focus walk_at "as"); walk_at "hp")
  | ((with_reducible apply ex_l); (focus walk_at "as"); walk_at "hp")
  | ((with_reducible apply exb_ins); (focus walk_at "as"); (focus walk_at "hp"); walk_at "hp")
  | ((with_reducible apply exb_t); (focus walk_at "as"); (focus walk_at "hp"); walk_at "hp")
  | ((with_reducible apply exb_at); (focus walk_at "as"); (focus walk_at "ne"); walk_at "hp")
  | ((with_reducible apply exb_l); (focus walk_at "as"); (focus walk_at "ne"); walk_at "hp"))
local macro_rules | `(tactic| walk_at "ne") => `(tactic| first
  | with_reducible assumption
  | exact Ne.symm (by with_reducible assumption)
  | exact ne_of_none (by with_reducible assumption) (by with_reducible assumption)
  | exact Ne.symm (ne_of_none (by with_reducible assumption) (by with_reducible assumption)))
local macro_rules | `(tactic| walk_at "tr") => `(tactic| first
  | rfl
  | with_reducible assumption
  | exact decide_eq_true (by first | with_reducible assumption | omega)
  | exact decide_eq_false (by first | with_reducible assumption | omega)
  | (rw [Bool.not_eq_true']; exact decide_eq_false (by first | with_reducible assumption | omega))
  | (rw [Bool.not_eq_false']; exact decide_eq_true (by first | with_reducible assumption | omega)))
local macro_rules | `(tactic| walk_at "nn") => `(tactic| first | with_reducible assumption | (exact List.cons_ne_nil _ _))
local macro_rules | `(tactic| walk_at "sz") => `(tactic| first | (exact sz1000 (Nat.le_of_ble_eq_true rfl)) | (refine sz1000 ?_; simp only [List.length_map, List.length_cons, List.length_nil, List.length_append]; omega) | with_reducible assumption)
local macro_rules | `(tactic| walk_at "sl") => `(tactic| first | with_reducible assumption | (refine lt1000 ?_; simp only [List.length_map, List.length_cons, List.length_nil, List.length_append]; omega) | (refine lt1000 ?_; omega))
local macro_rules | `(tactic| walk_at "ix") => `(tactic| first | rfl | with_reducible assumption)
local macro_rules | `(tactic| walk_at "rg") => `(tactic| exact RgOk.of_le (by omega) (by omega) (by omega) (by omega))
local macro_rules | `(tactic| walk_at "sp") => `(tactic| fail "sp")
local macro_rules | `(tactic| walk_at "cl") => `(tactic| with_reducible assumption)
local macro_rules | `(tactic| walk_at "lk") => `(tactic| with_reducible assumption)
local macro_rules | `(tactic| walk_at "it") => `(tactic| first | rfl | with_reducible assumption | exact atI_nat (by with_reducible assumption))
local macro_rules | `(tactic| walk_at "g1") => `(tactic| first
  | (with_reducible apply g_var); (focus rfl)
  | with_reducible apply g_c
  | with_reducible apply g_seq
  | with_reducible apply g_asg
  | with_reducible apply gg_name
  | with_reducible apply g_op
  | with_reducible apply g_cons
  | with_reducible apply g_nil
  | with_reducible apply g_cb
  | with_reducible apply g_fld
  | ((with_reducible apply g_kFld); (focus walk_at "hp"); (focus walk_at "cl"); (focus walk_at "cl"); (focus walk_at "lk"))
  | with_reducible apply g_call
  | walk_at "sp"
  | with_reducible apply g_ret
  | with_reducible apply g_drop
  | with_reducible apply g_test
  | with_reducible apply g_B
  | with_reducible apply g_kTest
  | with_reducible apply g_ifS
  | with_reducible apply g_kIfST
  | with_reducible apply g_kIfSF
  | with_reducible apply g_add
  | with_reducible apply g_sub
  | with_reducible apply g_lt
  | with_reducible apply g_le
  | with_reducible apply g_gt
  | with_reducible apply g_ge
  | with_reducible apply g_eqI
  | with_reducible apply g_neI
  | ((with_reducible apply g_mod); (focus first | decide | omega))
  | ((with_reducible apply g_mul); (focus first | (left; constructor <;> omega) | (right; constructor <;> omega)))
  | ((with_reducible apply g_fdiv); (focus (constructor <;> omega)))
  | ((with_reducible apply g_ixT); (focus walk_at "hp"); (focus walk_at "it"))
  | ((with_reducible apply g_ixL); (focus walk_at "hp"); (focus walk_at "it"))
  | with_reducible apply g_and
  | with_reducible apply g_or
  | with_reducible apply g_not
  | with_reducible apply g_kNotT
  | with_reducible apply g_kNotF
  | with_reducible apply g_if
  | with_reducible apply g_kAndT
  | with_reducible apply g_kAndF
  | with_reducible apply g_kOrT
  | with_reducible apply g_kOrF
  | with_reducible apply g_kIfT
  | with_reducible apply g_kIfF
  | with_reducible apply g_next
  | with_reducible apply g_andV
  | with_reducible apply g_orV
  | with_reducible apply g_notV
  | with_reducible apply g_kNotV
  | with_reducible apply g_kAndVT
  | with_reducible apply g_kAndVF
  | with_reducible apply g_chain
  | with_reducible apply g_kChainT
  | with_reducible apply g_kChainF
  | with_reducible apply g_tup
  | with_reducible apply g_lst
  | ((with_reducible apply g_kT); (focus walk_at "sz"); intro _ _ _ _ _)
  | ((with_reducible apply g_kL); (focus walk_at "sz"); intro _ _ _ _ _)
  | with_reducible apply g_un
  | with_reducible apply g_neg
  | with_reducible apply g_meth
  | ((with_reducible apply g_kMeth); (focus walk_at "hp"); (focus walk_at "lk"))
  | with_reducible apply g_prop
  | ((with_reducible apply g_kProp); (focus walk_at "hp"))
  | with_reducible apply g_make
  | with_reducible apply g_par
  | with_reducible apply g_kPar
  | ((with_reducible apply g_lenLM); (focus walk_at "hp"))
  | ((with_reducible apply g_lenTM); (focus walk_at "hp"))
  | ((with_reducible apply g_lenL); (focus walk_at "hp"))
  | ((with_reducible apply g_lenT); (focus walk_at "hp"))
  | with_reducible apply g_int1
  | with_reducible apply g_max2
  | with_reducible apply g_min2
  | ((with_reducible apply g_listL); (focus walk_at "hp"); intro _ _ _ _ _)
  | ((with_reducible apply g_listT); (focus walk_at "hp"); intro _ _ _ _ _)
  | ((with_reducible apply g_tupL); (focus walk_at "hp"); intro _ _ _ _ _)
  | ((with_reducible apply g_sum); (focus walk_at "hp"))
  | with_reducible apply g_sfld
  | with_reducible apply g_sl
  | with_reducible apply g_nopart
  | with_reducible apply g_part
  | with_reducible apply g_kPart
  | with_reducible apply g_lstRg
  | with_reducible apply g_rg1
  | with_reducible apply g_kRg1
  | with_reducible apply g_bm
  | with_reducible apply gg_sub
  | ((with_reducible apply gg_tup); (focus walk_at "hp"); (focus rfl))
  | with_reducible apply gg_cons
  | with_reducible apply gg_nil
  | with_reducible apply g_forL
  | with_reducible apply g_forT
  | with_reducible apply g_forR1
  | with_reducible apply g_forR2
  | with_reducible apply g_forE
  | with_reducible apply g_forEL
  | ((with_reducible apply g_maxT); (focus walk_at "hp"); (focus walk_at "nn"))
  | ((with_reducible apply g_maxL); (focus walk_at "hp"); (focus walk_at "nn"))
  | ((with_reducible apply g_catA); (focus walk_at "hp"); (focus walk_at "hp"); (focus walk_at "sz"); intro _ _ _ _)
  | ((with_reducible apply g_slA); (focus walk_at "hp"); intro _ _ _ _)
  | ((with_reducible apply g_tupD); (focus walk_at "hp"); intro _ _ _ _ _)
  | ((with_reducible apply g_setL); (focus walk_at "hp"); (focus walk_at "ix"); intro _ _ _)
  | ((with_reducible apply g_append); (focus walk_at "hp"); (focus walk_at "sl"); intro _ _ _)
  | ((with_reducible apply g_aug); (focus rfl))
  | with_reducible apply g_ipI
  | with_reducible apply g_retN
  | with_reducible apply g_lcR1
  | with_reducible apply g_lcR2
  | with_reducible apply g_lcL
  | with_reducible apply g_lcU
  | with_reducible apply g_lcN
  | ((with_reducible apply g_kLcG); (focus rfl))
  | with_reducible apply g_yes
  | with_reducible apply g_kLcTT
  | with_reducible apply g_kLcTF
  | ((with_reducible apply g_kLcE); (focus walk_at "hp"); (focus walk_at "sl"); intro _ _ _)
  | ((with_reducible apply g_pow); (focus (constructor <;> (try constructor) <;> decide)))
  | ((with_reducible apply g_kLRg); (focus walk_at "rg"); intro _ _ _ _ _)
  | ((with_reducible apply g_cat); (focus walk_at "hp"); (focus walk_at "hp"); (focus walk_at "sz"); intro _ _ _ _ _)
  | ((with_reducible apply g_slL); (focus walk_at "hp"); intro _ _ _ _ _)
  | with_reducible apply g_bmT
  | with_reducible apply g_break
  | with_reducible apply g_cont)
local macro_rules | `(tactic| walk_at "g0") => `(tactic| try dsimp only [L2.cxOf, L2.Cx.nox, L2.Cx.wish])
local macro_rules | `(tactic| walk_at "yn") => `(tactic| first
  | ((with_reducible apply y_kIfS); (focus walk_at "tr"))
  | ((with_reducible apply n_kIfS); (focus walk_at "tr"))
  | ((with_reducible apply y_kOr); (focus walk_at "tr"))
  | ((with_reducible apply n_kOr); (focus walk_at "tr"))
  | ((with_reducible apply y_kAnd); (focus walk_at "tr"))
  | ((with_reducible apply n_kAnd); (focus walk_at "tr"))
  | ((with_reducible apply y_kNot); (focus walk_at "tr"))
  | ((with_reducible apply n_kNot); (focus walk_at "tr"))
  | ((with_reducible apply y_kIf); (focus walk_at "tr"))
  | ((with_reducible apply n_kIf); (focus walk_at "tr"))
  | ((with_reducible apply y_kAndV); (focus walk_at "tr"))
  | ((with_reducible apply n_kAndV); (focus walk_at "tr"))
  | ((with_reducible apply y_kOrV); (focus walk_at "tr"))
  | ((with_reducible apply n_kOrV); (focus walk_at "tr"))
  | ((with_reducible apply y_kChain); (focus walk_at "tr"))
  | ((with_reducible apply n_kChain); (focus walk_at "tr"))
  | ((with_reducible apply y_kLcT); (focus walk_at "tr"))
  | ((with_reducible apply n_kLcT); (focus walk_at "tr"))
  | ((with_reducible apply y_kWh); (focus walk_at "tr"))
  | ((with_reducible apply n_kWh); (focus walk_at "tr")))
local macro_rules | `(tactic| walk_at "go") => `(tactic| repeat (first | walk_at "g1" | walk_at "yn"))
local macro_rules | `(tactic| walk_at "hp") => `(tactic| first
  | ((with_reducible apply RingIn.ex); (focus walk_at "as"); walk_at "hp")
  | ((with_reducible apply RingAt.ex); (focus walk_at "as"); walk_at "hp")
  | ((with_reducible apply RingIn.exb); (focus walk_at "as"); (focus walk_at "hp"); walk_at "hp")
  | ((with_reducible apply RingAt.exb); (focus walk_at "as"); (focus walk_at "hp"); walk_at "hp")
  | ((with_reducible apply TupK.ex); (focus walk_at "as"); walk_at "hp")
  | ((with_reducible apply TupK.exb); (focus walk_at "as"); (focus walk_at "hp"); walk_at "hp"))
local macro_rules | `(tactic| walk_at "lk") => `(tactic| first | with_reducible exact rf_spans | with_reducible exact rf_heaps | with_reducible exact rf_total | with_reducible exact rf_nr | with_reducible exact rf_wd)
local macro_rules | `(tactic| walk_at "sp") => `(tactic| first
  | ((with_reducible apply g_isiTup); (focus walk_at "hp"))
  | ((with_reducible apply g_isiLst); (focus walk_at "hp"))
  | ((with_reducible apply g_isint); (focus omega); (focus omega))
  | ((with_reducible apply g_checkn); (focus omega); (focus omega))
  | ((with_reducible apply g_rbooks); (focus walk_at "hp"))
  | ((with_reducible apply g_rpace); (focus walk_at "hp"); intro _ _ _ _)
  | ((with_reducible apply g_rlen); (focus walk_at "hp"))
  | ((with_reducible apply g_rneed); (focus walk_at "hp"); (focus omega))
  | ((with_reducible apply g_rneedM); (focus walk_at "hp"))
  | ((with_reducible apply g_rwithM); (focus walk_at "hp"))
  | ((with_reducible apply g_rspans); (focus walk_at "hp"); (focus with_reducible assumption))
  | ((with_reducible apply g_rheaps); (focus walk_at "hp"); (focus with_reducible assumption))
  | ((with_reducible apply g_rtotal); (focus walk_at "hp"); (focus with_reducible assumption)))

local macro_rules | `(tactic| walk_at "sp") => `(tactic| first
  | ((with_reducible apply g_taken); (focus walk_at "hp"); (focus first | decide | omega); (focus first | decide | omega); intro _ _ _ _ _ _))
local macro_rules | `(tactic| walk_at "hp") => `(tactic| first
  | ((with_reducible apply DiceAt.ex); (focus walk_at "as"); walk_at "hp")
  | ((with_reducible apply exb_tD); (focus walk_at "as"); (focus walk_at "hp"); walk_at "hp")
  | ((with_reducible apply exb_insD); (focus walk_at "as"); (focus walk_at "hp"); walk_at "hp")
  | ((with_reducible apply RingIn.exD); (focus walk_at "as"); (focus walk_at "hp"); walk_at "hp")
  | ((with_reducible apply TupK.exD); (focus walk_at "as"); (focus walk_at "hp"); walk_at "hp"))

local macro_rules | `(tactic| walk_at "sp") => `(tactic| first
  | ((with_reducible apply g_next'); (focus walk_at "hp"); (focus first | decide | omega); (focus first | decide | omega); intro _ _ _ _ _ _))

section
variable {P : Program} {w : World} {K : PySem.W.Frag} {mg : Str → Option Value} {base : Heap} {C CC : Addr}
def sp_pickV (K : PySem.W.Frag) : Sp := fun vs H Q _ => ∃ (d l : Addr) (xs : List V), vs = [.ref d, .ref l] ∧ DiceAt K H d ∧ d ≠ l ∧ H l = some (.lst xs) ∧ xs ≠ [] ∧ xs.length ≤ 100 ∧ ∀ x H', x ∈ xs → Exb d H H' → DiceAt K H' d → Q x H'
theorem ok_pick (Z : Blt mg) (D__law_next : Df P w K mg base 1 "_law_next" ["_law_dice_here", "_law_many"] (sp_taken K)) (G : GFun K mg "_law_pick" s__law_pick) : Df P w K mg base 2 "_law_pick" ["_law_d", "_law_some"] (sp_pickV K) := by
  refine Df.of G sc__law_pick b__law_pick (fun vs H Q E h => ?_) (fun f cdv A outer s H vs Q E hr h => ?_)
  · obtain ⟨d, l, xs, rfl, _⟩ := h
    rfl
  · obtain ⟨d, l, xs, rfl, D, hdl, hl, hne, hln, q⟩ := h
    have hpos : 0 < xs.length := List.length_pos_iff.mpr hne
    refine ⟨_, PSs.nox (pss_one (ps_ret (pe_ix ix_list (pv 1) (pg D__law_next hr (pa_cons (pv 0) (pa_cons (pe_callB c_len (by rfl) Z.zlen PySem.boot_len (pa_cons (pv 1) pa_nil)) pa_nil))) (fun _ _ => rfl)))), ?_⟩
    walk_at "g0"
    walk_at "go"
    rename_i k H1 k0 k1 e1 D1
    obtain ⟨kn, rfl⟩ : ∃ kn : Nat, k = (kn : Int) := ⟨k.toNat, by omega⟩
    have hkn : kn < xs.length := by omega
    refine g_ixL (v := xs[kn]) (SqL.of (e1 _ _ (Ne.symm hdl) hl)) (atI_nat (List.getElem?_eq_getElem hkn)) ?_
    exact q _ H1 (List.getElem_mem hkn) e1 D1
theorem g_pickV {H : Hp} {Q : VK} {E : XK} {d l : Addr} {xs : List V} (D : DiceAt K H d) (h : d ≠ l) (hl : H l = some (.lst xs)) (hn : xs ≠ []) (hz : xs.length ≤ 100) (q : ∀ x H', x ∈ xs → Exb d H H' → DiceAt K H' d → Q x H') : sp_pickV K [.ref d, .ref l] H Q E := ⟨d, l, xs, rfl, D, h, hl, hn, hz, q⟩
end
end G48

/-! told errors with fields, compared -/
namespace G48
open PySem PySem.Spec PyProof.Rows L2 Evl
section
variable {K : PySem.W.Frag} {H : Hp} {Q : VK}
/-- at p: ("error", nm, vs), a list at q -/
def ErrF (K : PySem.W.Frag) (H : Hp) (p : Addr) (nm : Str) (vs : List V) : Prop := ∃ q, SqT K H p [.str "error", .str nm, .ref q] ∧ SqL K H q vs
theorem ErrF.ex {H' : Hp} {p : Addr} {nm : Str} {vs : List V} (e : Ex H H') (h : ErrF K H p nm vs) : ErrF K H' p nm vs := let ⟨q, a, b⟩ := h; ⟨q, ex_t e a, ex_l e b⟩
theorem ErrF.mk {p q : Addr} {nm : Str} {vs : List V} (h1 : H p = some (.tup [.str "error", .str nm, .ref q])) (h2 : H q = some (.lst vs)) : ErrF K H p nm vs := ⟨q, SqT.of h1, SqL.of h2⟩
theorem ErrF.lk {p r : Addr} {nm : Str} {vs : List V} (hv : ∀ v ∈ vs, LeafV v) (hl : vs.length ≤ 10) (h1 : ErrF K H p nm vs) (h2 : ErrF K H r nm vs) : Lk K H 3 (.ref p) (.ref r) := by
  obtain ⟨q1, a1, b1⟩ := h1
  obtain ⟨q2, a2, b2⟩ := h2
  refine .tup a1 a2 rfl (by show 3 ≤ 10000; decide) fun i x y hx hy => ?_
  have hi : i = 0 ∨ i = 1 ∨ i = 2 := by
    have h := (List.getElem?_eq_some_iff.mp hx).1
    have h : i < 3 := h
    omega
  rcases hi with rfl | rfl | rfl
  · cases hx
    cases hy
    exact .leaf (.str _)
  · cases hx
    cases hy
    exact .leaf (.str _)
  · cases hx
    cases hy
    refine .lst b1 b2 rfl (by omega) fun i x y hx hy => ?_
    rw [hx] at hy
    cases hy
    exact .leaf (hv x (List.mem_of_getElem? hx))
def errFD (nm : Str) (ds : List PyData) : PyData := .tuple [.str "error", .str nm, .list ds]
theorem errFD_sh {nm : Str} {ds : List PyData} (hn : PyData.strOk nm = true) (h1 : PyData.canLayAll0 ds = true) (h2 : PyData.depthAll ds ≤ 10) : SeqAt.shaped (errFD nm ds) = true := by
  have h0 : PyData.strOk "error" = true := by decide +kernel
  show (PyData.canLay0 (errFD nm ds) && decide (PyData.depth (errFD nm ds) ≤ 64)) = true
  rw [Bool.and_eq_true]
  refine ⟨?_, decide_eq_true ?_⟩
  · simp [errFD, PyData.canLay0, PyData.canLayAll0, h0, hn, h1]
  · simp only [errFD, PyData.depth, PyData.depthAll]
    omega
theorem ErrF.dp {p : Addr} {nm : Str} {vs : List V} {ds : List PyData} (h : ErrF K H p nm vs) (hd : DpAll K H vs ds) : Dp K H (.ref p) (errFD nm ds) :=
  let ⟨_, a, b⟩ := h; .tup a (.cons (.str _) (.cons (.str _) (.cons (.lst b hd) .nil)))
/-- the same errors are not unlike -/
theorem g_neF {p r : Addr} {nm : Str} {vs : List V} {ds : List PyData} (hn : PyData.strOk nm = true) (h1 : PyData.canLayAll0 ds = true) (h2 : PyData.depthAll ds ≤ 10) (he : PyData.eqvAll ds ds = true) (hd : DpAll K H vs ds) (a : ErrF K H p nm vs) (b : ErrF K H r nm vs) (q : Q (.bl false) H) : rNeD K (.ref p) (.ref r) H Q :=
  g_neD (a.dp hd) (b.dp hd) (errFD_sh hn h1 h2) (errFD_sh hn h1 h2) (by
    have e : PyData.eqv (errFD nm ds) (errFD nm ds) = true := by simp [errFD, PyData.eqv, PyData.eqvAll, he]
    rw [e]
    exact q)
theorem g_neFI {p r : Addr} {nm : Str} {i : Int} (hn : PyData.strOk nm = true) (a : ErrF K H p nm [.int i]) (b : ErrF K H r nm [.int i]) (q : Q (.bl false) H) : rNeD K (.ref p) (.ref r) H Q :=
  g_neF (ds := [.int i]) hn (by simp [PyData.canLayAll0, PyData.canLay0]) (by simp [PyData.depthAll, PyData.depth]) (by simp [PyData.eqvAll, PyData.eqv]) (.cons (.int i) .nil) a b q
theorem g_neFS {p r : Addr} {nm x : Str} {i : Int} (hn : PyData.strOk nm = true) (hx : PyData.strOk x = true) (a : ErrF K H p nm [.str x, .int i]) (b : ErrF K H r nm [.str x, .int i]) (q : Q (.bl false) H) : rNeD K (.ref p) (.ref r) H Q :=
  g_neF (ds := [.str x, .int i]) hn (by simp [PyData.canLayAll0, PyData.canLay0, hx]) (by simp [PyData.depthAll, PyData.depth]) (by simp [PyData.eqvAll, PyData.eqv]) (.cons (.str x) (.cons (.int i) .nil)) a b q
end
end G48

/-! the checks of days and of starts: what is raised -/
namespace G48
open PySem PySem.Spec PyProof.Rows L2 Evl
/-! the steps -/
local macro_rules | `(tactic| walk_at "as") => `(tactic| with_reducible assumption)
local macro_rules | `(tactic| walk_at "hp") => `(tactic| first
  | with_reducible assumption
  | ((with_reducible apply SqT.of); walk_at "as")
  | ((with_reducible apply SqL.of); walk_at "as")
  | ((with_reducible apply ex_at); (focus walk_at "as"); walk_at "hp")
  | ((with_reducible apply ex_t); (focus walk_at "as"); walk_at "hp")
  | ((with_reducible apply ex_l); (focus walk_at "as"); walk_at "hp")
  | ((with_reducible apply exb_ins); (focus walk_at "as"); (focus walk_at "hp"); walk_at "hp")
  | ((with_reducible apply exb_t); (focus walk_at "as"); (focus walk_at "hp"); walk_at "hp")
  | ((with_reducible apply exb_at); (focus walk_at "as"); (focus walk_at "ne"); walk_at "hp")
  | ((with_reducible apply exb_l); (focus walk_at "as"); (focus walk_at "ne"); walk_at "hp"))
local macro_rules | `(tactic| walk_at "ne") => `(tactic| first
  | with_reducible assumption
  | exact Ne.symm (by with_reducible assumption)
  | exact ne_of_none (by with_reducible assumption) (by with_reducible assumption)
  | exact Ne.symm (ne_of_none (by with_reducible assumption) (by with_reducible assumption)))
local macro_rules | `(tactic| walk_at "tr") => `(tactic| first
  | rfl
  | with_reducible assumption
  | exact decide_eq_true (by first | with_reducible assumption | omega)
  | exact decide_eq_false (by first | with_reducible assumption | omega)
  | (rw [Bool.not_eq_true']; exact decide_eq_false (by first | with_reducible assumption | omega))
  | (rw [Bool.not_eq_false']; exact decide_eq_true (by first | with_reducible assumption | omega)))
local macro_rules | `(tactic| walk_at "nn") => `(tactic| first | with_reducible assumption | (exact List.cons_ne_nil _ _))
local macro_rules | `(tactic| walk_at "sz") => `(tactic| first | (exact sz1000 (Nat.le_of_ble_eq_true rfl)) | (refine sz1000 ?_; simp only [List.length_map, List.length_cons, List.length_nil, List.length_append]; omega) | with_reducible assumption)
local macro_rules | `(tactic| walk_at "sl") => `(tactic| first | with_reducible assumption | (refine lt1000 ?_; simp only [List.length_map, List.length_cons, List.length_nil, List.length_append]; omega) | (refine lt1000 ?_; omega))
local macro_rules | `(tactic| walk_at "ix") => `(tactic| first | rfl | with_reducible assumption)
local macro_rules | `(tactic| walk_at "rg") => `(tactic| exact RgOk.of_le (by omega) (by omega) (by omega) (by omega))
local macro_rules | `(tactic| walk_at "sp") => `(tactic| fail "sp")
local macro_rules | `(tactic| walk_at "cl") => `(tactic| with_reducible assumption)
local macro_rules | `(tactic| walk_at "lk") => `(tactic| with_reducible assumption)
local macro_rules | `(tactic| walk_at "it") => `(tactic| first | rfl | with_reducible assumption | exact atI_nat (by with_reducible assumption))
local macro_rules | `(tactic| walk_at "g1") => `(tactic| first
  | (with_reducible apply g_var); (focus rfl)
  | with_reducible apply g_c
  | with_reducible apply g_seq
  | with_reducible apply g_asg
  | with_reducible apply gg_name
  | with_reducible apply g_op
  | with_reducible apply g_cons
  | with_reducible apply g_nil
  | with_reducible apply g_cb
  | with_reducible apply g_fld
  | ((with_reducible apply g_kFld); (focus walk_at "hp"); (focus walk_at "cl"); (focus walk_at "cl"); (focus walk_at "lk"))
  | with_reducible apply g_call
  | walk_at "sp"
  | with_reducible apply g_ret
  | with_reducible apply g_drop
  | with_reducible apply g_test
  | with_reducible apply g_B
  | with_reducible apply g_kTest
  | with_reducible apply g_ifS
  | with_reducible apply g_kIfST
  | with_reducible apply g_kIfSF
  | with_reducible apply g_add
  | with_reducible apply g_sub
  | with_reducible apply g_lt
  | with_reducible apply g_le
  | with_reducible apply g_gt
  | with_reducible apply g_ge
  | with_reducible apply g_eqI
  | with_reducible apply g_neI
  | ((with_reducible apply g_mod); (focus first | decide | omega))
  | ((with_reducible apply g_mul); (focus first | (left; constructor <;> omega) | (right; constructor <;> omega)))
  | ((with_reducible apply g_fdiv); (focus (constructor <;> omega)))
  | ((with_reducible apply g_ixT); (focus walk_at "hp"); (focus walk_at "it"))
  | ((with_reducible apply g_ixL); (focus walk_at "hp"); (focus walk_at "it"))
  | with_reducible apply g_and
  | with_reducible apply g_or
  | with_reducible apply g_not
  | with_reducible apply g_kNotT
  | with_reducible apply g_kNotF
  | with_reducible apply g_if
  | with_reducible apply g_kAndT
  | with_reducible apply g_kAndF
  | with_reducible apply g_kOrT
  | with_reducible apply g_kOrF
  | with_reducible apply g_kIfT
  | with_reducible apply g_kIfF
  | with_reducible apply g_next
  | with_reducible apply g_andV
  | with_reducible apply g_orV
  | with_reducible apply g_notV
  | with_reducible apply g_kNotV
  | with_reducible apply g_kAndVT
  | with_reducible apply g_kAndVF
  | with_reducible apply g_chain
  | with_reducible apply g_kChainT
  | with_reducible apply g_kChainF
  | with_reducible apply g_tup
  | with_reducible apply g_lst
  | ((with_reducible apply g_kT); (focus walk_at "sz"); intro _ _ _ _ _)
  | ((with_reducible apply g_kL); (focus walk_at "sz"); intro _ _ _ _ _)
  | with_reducible apply g_un
  | with_reducible apply g_neg
  | with_reducible apply g_meth
  | ((with_reducible apply g_kMeth); (focus walk_at "hp"); (focus walk_at "lk"))
  | with_reducible apply g_prop
  | ((with_reducible apply g_kProp); (focus walk_at "hp"))
  | with_reducible apply g_make
  | with_reducible apply g_par
  | with_reducible apply g_kPar
  | ((with_reducible apply g_lenLM); (focus walk_at "hp"))
  | ((with_reducible apply g_lenTM); (focus walk_at "hp"))
  | ((with_reducible apply g_lenL); (focus walk_at "hp"))
  | ((with_reducible apply g_lenT); (focus walk_at "hp"))
  | with_reducible apply g_int1
  | with_reducible apply g_max2
  | with_reducible apply g_min2
  | ((with_reducible apply g_listL); (focus walk_at "hp"); intro _ _ _ _ _)
  | ((with_reducible apply g_listT); (focus walk_at "hp"); intro _ _ _ _ _)
  | ((with_reducible apply g_tupL); (focus walk_at "hp"); intro _ _ _ _ _)
  | ((with_reducible apply g_sum); (focus walk_at "hp"))
  | with_reducible apply g_sfld
  | with_reducible apply g_sl
  | with_reducible apply g_nopart
  | with_reducible apply g_part
  | with_reducible apply g_kPart
  | with_reducible apply g_lstRg
  | with_reducible apply g_rg1
  | with_reducible apply g_kRg1
  | with_reducible apply g_bm
  | with_reducible apply gg_sub
  | ((with_reducible apply gg_tup); (focus walk_at "hp"); (focus rfl))
  | with_reducible apply gg_cons
  | with_reducible apply gg_nil
  | with_reducible apply g_forL
  | with_reducible apply g_forT
  | with_reducible apply g_forR1
  | with_reducible apply g_forR2
  | with_reducible apply g_forE
  | with_reducible apply g_forEL
  | ((with_reducible apply g_maxT); (focus walk_at "hp"); (focus walk_at "nn"))
  | ((with_reducible apply g_maxL); (focus walk_at "hp"); (focus walk_at "nn"))
  | ((with_reducible apply g_catA); (focus walk_at "hp"); (focus walk_at "hp"); (focus walk_at "sz"); intro _ _ _ _)
  | ((with_reducible apply g_slA); (focus walk_at "hp"); intro _ _ _ _)
  | ((with_reducible apply g_tupD); (focus walk_at "hp"); intro _ _ _ _ _)
  | ((with_reducible apply g_setL); (focus walk_at "hp"); (focus walk_at "ix"); intro _ _ _)
  | ((with_reducible apply g_append); (focus walk_at "hp"); (focus walk_at "sl"); intro _ _ _)
  | ((with_reducible apply g_aug); (focus rfl))
  | with_reducible apply g_ipI
  | with_reducible apply g_retN
  | with_reducible apply g_lcR1
  | with_reducible apply g_lcR2
  | with_reducible apply g_lcL
  | with_reducible apply g_lcU
  | with_reducible apply g_lcN
  | ((with_reducible apply g_kLcG); (focus rfl))
  | with_reducible apply g_yes
  | with_reducible apply g_kLcTT
  | with_reducible apply g_kLcTF
  | ((with_reducible apply g_kLcE); (focus walk_at "hp"); (focus walk_at "sl"); intro _ _ _)
  | ((with_reducible apply g_pow); (focus (constructor <;> (try constructor) <;> decide)))
  | ((with_reducible apply g_kLRg); (focus walk_at "rg"); intro _ _ _ _ _)
  | ((with_reducible apply g_cat); (focus walk_at "hp"); (focus walk_at "hp"); (focus walk_at "sz"); intro _ _ _ _ _)
  | ((with_reducible apply g_slL); (focus walk_at "hp"); intro _ _ _ _ _)
  | with_reducible apply g_bmT
  | with_reducible apply g_break
  | with_reducible apply g_cont)
local macro_rules | `(tactic| walk_at "g0") => `(tactic| try dsimp only [L2.cxOf, L2.Cx.nox, L2.Cx.wish])
local macro_rules | `(tactic| walk_at "yn") => `(tactic| first
  | ((with_reducible apply y_kIfS); (focus walk_at "tr"))
  | ((with_reducible apply n_kIfS); (focus walk_at "tr"))
  | ((with_reducible apply y_kOr); (focus walk_at "tr"))
  | ((with_reducible apply n_kOr); (focus walk_at "tr"))
  | ((with_reducible apply y_kAnd); (focus walk_at "tr"))
  | ((with_reducible apply n_kAnd); (focus walk_at "tr"))
  | ((with_reducible apply y_kNot); (focus walk_at "tr"))
  | ((with_reducible apply n_kNot); (focus walk_at "tr"))
  | ((with_reducible apply y_kIf); (focus walk_at "tr"))
  | ((with_reducible apply n_kIf); (focus walk_at "tr"))
  | ((with_reducible apply y_kAndV); (focus walk_at "tr"))
  | ((with_reducible apply n_kAndV); (focus walk_at "tr"))
  | ((with_reducible apply y_kOrV); (focus walk_at "tr"))
  | ((with_reducible apply n_kOrV); (focus walk_at "tr"))
  | ((with_reducible apply y_kChain); (focus walk_at "tr"))
  | ((with_reducible apply n_kChain); (focus walk_at "tr"))
  | ((with_reducible apply y_kLcT); (focus walk_at "tr"))
  | ((with_reducible apply n_kLcT); (focus walk_at "tr"))
  | ((with_reducible apply y_kWh); (focus walk_at "tr"))
  | ((with_reducible apply n_kWh); (focus walk_at "tr")))
local macro_rules | `(tactic| walk_at "go") => `(tactic| repeat (first | walk_at "g1" | walk_at "yn"))
local macro_rules | `(tactic| walk_at "hp") => `(tactic| first
  | ((with_reducible apply RingIn.ex); (focus walk_at "as"); walk_at "hp")
  | ((with_reducible apply RingAt.ex); (focus walk_at "as"); walk_at "hp")
  | ((with_reducible apply RingIn.exb); (focus walk_at "as"); (focus walk_at "hp"); walk_at "hp")
  | ((with_reducible apply RingAt.exb); (focus walk_at "as"); (focus walk_at "hp"); walk_at "hp")
  | ((with_reducible apply TupK.ex); (focus walk_at "as"); walk_at "hp")
  | ((with_reducible apply TupK.exb); (focus walk_at "as"); (focus walk_at "hp"); walk_at "hp"))
local macro_rules | `(tactic| walk_at "lk") => `(tactic| first | with_reducible exact rf_spans | with_reducible exact rf_heaps | with_reducible exact rf_total | with_reducible exact rf_nr | with_reducible exact rf_wd)
local macro_rules | `(tactic| walk_at "sp") => `(tactic| first
  | ((with_reducible apply g_isiTup); (focus walk_at "hp"))
  | ((with_reducible apply g_isiLst); (focus walk_at "hp"))
  | ((with_reducible apply g_isint); (focus omega); (focus omega))
  | ((with_reducible apply g_checkn); (focus omega); (focus omega))
  | ((with_reducible apply g_rbooks); (focus walk_at "hp"))
  | ((with_reducible apply g_rpace); (focus walk_at "hp"); intro _ _ _ _)
  | ((with_reducible apply g_rlen); (focus walk_at "hp"))
  | ((with_reducible apply g_rneed); (focus walk_at "hp"); (focus omega))
  | ((with_reducible apply g_rneedM); (focus walk_at "hp"))
  | ((with_reducible apply g_rwithM); (focus walk_at "hp"))
  | ((with_reducible apply g_rspans); (focus walk_at "hp"); (focus with_reducible assumption))
  | ((with_reducible apply g_rheaps); (focus walk_at "hp"); (focus with_reducible assumption))
  | ((with_reducible apply g_rtotal); (focus walk_at "hp"); (focus with_reducible assumption)))

local macro_rules | `(tactic| walk_at "hp") => `(tactic| first
  | ((with_reducible apply CrsIn.ex); (focus walk_at "as"); walk_at "hp")
  | ((with_reducible apply RowsAt.ex); (focus walk_at "as"); walk_at "hp"))
local macro_rules | `(tactic| walk_at "sp") => `(tactic| first
  | ((with_reducible apply g_crows); (focus walk_at "hp"); (focus with_reducible assumption))
  | ((with_reducible apply g_csize); (focus walk_at "hp"); (focus with_reducible assumption))
  | ((with_reducible apply g_cevery); (focus walk_at "hp"); (focus with_reducible assumption))
  | ((with_reducible apply g_cshift); (focus walk_at "hp"); (focus with_reducible assumption))
  | ((with_reducible apply g_cring); (focus walk_at "hp"); (focus with_reducible assumption))
  | ((with_reducible apply g_cfirst); (focus walk_at "hp"); (focus with_reducible assumption))
  | ((with_reducible apply g_clen); (focus walk_at "hp"))
  | ((with_reducible apply g_cmShifted); (focus walk_at "hp"))
  | ((with_reducible apply g_cmSettled); (focus walk_at "hp"))
  | ((with_reducible apply g_cmNext); (focus walk_at "hp"))
  | ((with_reducible apply g_cmEnd); (focus walk_at "hp"))
  | ((with_reducible apply g_cmArrival); (focus walk_at "hp")))

local macro_rules | `(tactic| walk_at "sp") => `(tactic| first
  | ((with_reducible apply g_taken); (focus walk_at "hp"); (focus first | decide | omega); (focus first | decide | omega); intro _ _ _ _ _ _))
local macro_rules | `(tactic| walk_at "hp") => `(tactic| first
  | ((with_reducible apply DiceAt.ex); (focus walk_at "as"); walk_at "hp")
  | ((with_reducible apply exb_tD); (focus walk_at "as"); (focus walk_at "hp"); walk_at "hp")
  | ((with_reducible apply exb_insD); (focus walk_at "as"); (focus walk_at "hp"); walk_at "hp")
  | ((with_reducible apply RingIn.exD); (focus walk_at "as"); (focus walk_at "hp"); walk_at "hp")
  | ((with_reducible apply TupK.exD); (focus walk_at "as"); (focus walk_at "hp"); walk_at "hp"))

section
variable {P : Program} {w : World} {K : PySem.W.Frag} {mg : Str → Option Value} {base : Heap} {C : Addr}
theorem Pl.ex {H H' : Hp} {v : V} (e : Ex H H') (h : Pl K H v) : Pl K H' v := by
  cases h with
  | non => exact .non
  | bl b => exact .bl b
  | int i => exact .int i
  | str x => exact .str x
  | lst h => exact .lst (e _ _ h)
  | tup h => exact .tup (e _ _ h)
theorem g_intOk {H : Hp} {Q : VK} {E : XK} {v : V} {lo hi : Int} (p : Pl K H v) (h : inB lo hi v = true) (q : Q (.bl true) H) : sp_is_integer K [v, .int lo, .int hi] H Q E := ⟨_, lo, hi, rfl, p, by rw [h]; exact q⟩
theorem inB_get {x : V} {lo hi : Int} (h : inB lo hi x = true) : ∃ i : Int, x = .int i ∧ lo ≤ i ∧ i ≤ hi := by
  cases x with
  | int i =>
    have h : (decide (lo ≤ i) && decide (i ≤ hi)) = true := h
    rw [Bool.and_eq_true] at h
    exact ⟨i, rfl, of_decide_eq_true h.1, of_decide_eq_true h.2⟩
  | _ => cases h
/-- no tuple -/
def NoTup (H : Hp) (v : V) : Prop := v = .non ∨ (∃ i, v = .int i) ∨ ∃ a xs, v = .ref a ∧ H a = some (.lst xs)
theorem g_isNoTup {H : Hp} {Q : VK} {v : V} (h : NoTup H v) (q : Q (.bl false) H) : rIsi K [v, .ty "tuple"] H Q := by
  rcases h with rfl | ⟨i, rfl⟩ | ⟨a, xs, rfl, h⟩
  · obtain ⟨u, rb, ri, rs, ty, k1, _⟩ := (LeafV.non : LeafV .non).ty (K := K) (H := H)
    exact g_isi (.ty _) ty k1 q
  · obtain ⟨u, rb, ri, rs, ty, k1, _⟩ := (LeafV.int i : LeafV (.int i)).ty (K := K) (H := H)
    exact g_isi (.ty _) ty k1 q
  · exact g_isiLi (SqL.of h) (r := false) (by decide +kernel) q
/-- InvalidRing(part, i) is raised -/
def ErrR (K : PySem.W.Frag) (E : XK) (part : Str) (i : Int) (H : Hp) : Prop := ∀ H', Ex H H' → ∀ dd, H' dd = none → E (.ref (He.ga K "InvalidRing")) (some dd) (upd H' dd (.xd [("index", .int i), ("part", .str part)]))
theorem ErrR.ex {E : XK} {part : Str} {i : Int} {H H' : Hp} (e : Ex H H') (h : ErrR K E part i H) : ErrR K E part i H' := fun H2 e2 dd nd => h H2 (e.trans e2) dd nd
/-- the first item that is not good -/
def firstB (good : Nat → V → Bool) (xs : List V) : Option Nat := (List.range xs.length).find? fun k => !((xs[k]?).map (good k)).getD false
theorem firstB_some {good : Nat → V → Bool} {xs : List V} {i : Nat} {x : V} (hx : xs[i]? = some x) (h : ∀ j y, j < i → xs[j]? = some y → good j y = true) (hb : good i x = false) : firstB good xs = some i := by
  unfold firstB
  rw [List.find?_range_eq_some]
  refine ⟨by rw [hx]; show (!good i x) = true; rw [hb]; rfl, List.mem_range.mpr (List.getElem?_eq_some_iff.mp hx).1, fun j hj => ?_⟩
  have hjl : j < xs.length := by have := (List.getElem?_eq_some_iff.mp hx).1; omega
  rw [List.getElem?_eq_getElem hjl]
  show (!(!good j xs[j])) = true
  rw [h j _ hj (List.getElem?_eq_getElem hjl)]
  rfl
theorem firstB_none {good : Nat → V → Bool} {xs : List V} (h : ∀ j y, j < xs.length → xs[j]? = some y → good j y = true) : firstB good xs = none := by
  unfold firstB
  rw [List.find?_eq_none]
  intro k hk
  have hkl := List.mem_range.mp hk
  rw [List.getElem?_eq_getElem hkl]
  show ¬ (!good k xs[k]) = true
  rw [h k _ hkl (List.getElem?_eq_getElem hkl)]
  decide
def dayB (k : Nat) (x : V) : Bool := decide (k ≠ 8) && inB 1 30 x
/-- the place that is told of wrong days -/
def badDays (xs : List V) : Option Nat := match firstB dayB xs with
  | some k => some k
  | none => if xs.length < 2 then some xs.length else none
def DaysX (K : PySem.W.Frag) (H : Hp) (v : V) (E : XK) (Q : Prop) : Prop := (NoTup H v ∧ ErrR K E "days" 0 H) ∨ ∃ a xs, v = .ref a ∧ SqT K H a xs ∧ xs.length ≤ 20 ∧ (∀ x ∈ xs, Pl K H x) ∧ ((∃ i, badDays xs = some i ∧ ErrR K E "days" (i : Int) H) ∨ (badDays xs = none ∧ Q))
def sp_checkDaysX (K : PySem.W.Frag) : Sp := fun vs H Q E => ∃ v, vs = [v] ∧ DaysX K H v E (∀ H', Ex H H' → Q .non H')
theorem okx_check_days (Z : Blt mg) (c_MAX_READERS : ∃ t, mg "MAX_READERS" = some (.int 8 t)) (c_MAX_DAYS : ∃ t, mg "MAX_DAYS" = some (.int 30 t)) (Err_InvalidRing : ErrC K (He.ga K "InvalidRing") 0 ["part", "index"]) (E_InvalidRing : Ef P w K mg base "InvalidRing" (He.ga K "InvalidRing") 1 ["self", "part", "index"] (sp_initR K (He.ga K "InvalidRing")))
    (D_is_integer : Df P w K mg base 1 "is_integer" ["value", "low", "high"] (sp_is_integer K)) (G : GFun K mg "check_days" s_check_days) : Df P w K mg base 3 "check_days" ["days"] (sp_checkDaysX K) := by
  refine Df.of G sc_check_days b_check_days (fun vs H Q E h => ?_) (fun f cdv A outer s H vs Q E hr h => ?_)
  · obtain ⟨v, rfl, _⟩ := h
    rfl
  · obtain ⟨v, rfl, h⟩ := h
    have lp : Str.length (Str.ofString "days") ≤ 20 := by decide
    refine ⟨_, (pss_cons (ps_if (pt_not (pt_val (pe_callB call_isi (by rfl) Z.zisinstance (by decide +kernel) (pa_cons (pv 0) (pa_cons (pe_bltn rfl Z.ztuple (v := .ty "tuple") (by decide +kernel) rfl) pa_nil))))) (pss_one (psr_err Err_InvalidRing.ox E_InvalidRing hr (pa_cons pe_str (pa_cons pe_int pa_nil)) rfl (takes_of rfl rfl rfl rfl))) pss_nil)
      (pss_cons (ps_for (passes_of rfl) rfl (pi_enumT (by rfl) Z.zenumerate (pa_cons (pv 0) pa_nil)) (pg_tup (by rfl) (pgs_cons (pg_name (i := 1) sc_check_days.nd rfl (by first | exact Or.inl rfl | exact Or.inr rfl)) (pgs_cons (pg_name (i := 2) sc_check_days.nd rfl (by first | exact Or.inl rfl | exact Or.inr rfl)) pgs_nil))) (pss_one (ps_if (PW.pt (pw_or (pt_cmpR op_eq (pv 1) (pint c_MAX_READERS) (nomark _)) (pw_or1 (pt_not (pt_val (pg D_is_integer hr (pa_cons (pv 2) (pa_cons pe_int (pa_cons (pint c_MAX_DAYS) pa_nil))))))))) (pss_one (psr_err Err_InvalidRing.ox E_InvalidRing hr (pa_cons pe_str (pa_cons (pv 1) pa_nil)) rfl (takes_of rfl rfl rfl rfl))) pss_nil)))
      (pss_one (ps_if (pt_cmpR op_lt (pe_callB c_len (by rfl) Z.zlen PySem.boot_len (pa_cons (pv 0) pa_nil)) pe_int (nomark _)) (pss_one (psr_err Err_InvalidRing.ox E_InvalidRing hr (pa_cons pe_str (pa_cons (pe_callB c_len (by rfl) Z.zlen PySem.boot_len (pa_cons (pv 0) pa_nil)) pa_nil)) rfl (takes_of rfl rfl rfl rfl))) pss_nil)))), ?_⟩
    walk_at "g0"
    walk_at "go"
    rcases h with ⟨hn, q⟩ | ⟨a, xs, rfl, hS, h20, hpl, hq⟩
    · refine g_isNoTup hn ?_
      walk_at "go"
      refine g_tMkO ?_
      walk_at "go"
      exact g_mkR lp ⟨by omega, by omega⟩ fun dd nd => q H (Ex.refl _) dd nd
    · refine g_isiTu hS (r := true) (by decide +kernel) ?_
      walk_at "go"
      refine g_kForE hS (fun i σ H' => ∃ v1 v2, σ = [some (.ref a), v1, v2] ∧ Ex H H' ∧ ∀ j y, j < i → xs[j]? = some y → dayB j y = true) ⟨none, none, rfl, Ex.refl _, fun j y hj => absurd hj (Nat.not_lt_zero j)⟩ (fun i σ H' _ ⟨_, _, _, e, _⟩ => ex_t e hS) ?_ ?_
      · rintro i x σ H' T H2 hx ⟨v1, v2, rfl, e1, hg⟩ e2 nT hT
        have hi : i < xs.length := (List.getElem?_eq_some_iff.mp hx).1
        have hplx := (hpl x (List.mem_of_getElem? hx)).ex (e1.trans e2)
        have stop : dayB i x = false → ErrR K E "days" (i : Int) H := fun hb => by
          rcases hq with ⟨k, hk, q⟩ | ⟨hk, _⟩
          · unfold badDays at hk
            rw [firstB_some hx hg hb] at hk
            cases hk
            exact q
          · unfold badDays at hk
            rw [firstB_some hx hg hb] at hk
            cases hk
        walk_at "go"
        refine g_kOr (fun h => ?_) (fun h => ?_)
        · have h : (i : Int) = 8 := of_decide_eq_true h
          have hb : dayB i x = false := by
            unfold dayB
            rw [decide_eq_false (by omega : ¬ i ≠ 8), Bool.false_and]
          walk_at "go"
          refine g_tMkO ?_
          walk_at "go"
          exact g_mkR lp ⟨by omega, by omega⟩ fun dd nd => stop hb _ (e1.trans e2) dd nd
        · have h : ¬ (i : Int) = 8 := of_decide_eq_false h
          have hd : dayB i x = inB 1 30 x := by
            unfold dayB
            rw [decide_eq_true (by omega : i ≠ 8), Bool.true_and]
          walk_at "go"
          cases hb : inB 1 30 x with
          | false =>
            refine g_notint hplx hb ?_
            walk_at "go"
            refine g_tMkO ?_
            walk_at "go"
            exact g_mkR lp ⟨by omega, by omega⟩ fun dd nd => stop (hd.trans hb) _ (e1.trans e2) dd nd
          | true =>
            refine g_intOk hplx hb ?_
            walk_at "go"
            exact ⟨_, _, rfl, e1.trans e2, fun j y hj hy => by
              by_cases z : j = i
              · subst z
                rw [hx] at hy
                cases hy
                exact hd.trans hb
              · exact hg j y (by omega) hy⟩
      · rintro σ H' ⟨v1, v2, rfl, e1, hg⟩
        walk_at "go"
        refine g_kIfS (fun h => ?_) (fun h => ?_)
        · have h := of_decide_eq_true h
          have e0 : badDays xs = some xs.length := by
            unfold badDays
            rw [firstB_none hg]
            exact if_pos (by omega)
          walk_at "go"
          refine g_tMkO ?_
          walk_at "go"
          rcases hq with ⟨k, hk, q⟩ | ⟨hk, _⟩
          · rw [e0] at hk
            cases hk
            exact g_mkR lp ⟨by omega, by omega⟩ fun dd nd => q _ e1 dd nd
          · rw [e0] at hk
            cases hk
        · have h := of_decide_eq_false h
          have e0 : badDays xs = none := by
            unfold badDays
            rw [firstB_none hg]
            exact if_neg (by omega)
          walk_at "go"
          rcases hq with ⟨k, hk, q⟩ | ⟨hk, q⟩
          · rw [e0] at hk
            cases hk
          · exact q _ e1
/-- the place that is told of wrong starts, n readers -/
def starB (n : Nat) (k : Nat) (x : V) : Bool := decide (k ≠ n) && inB 0 12 x
def intsOf (xs : List V) : List Int := xs.map fun x => match x with
  | .int i => i
  | _ => 0
def badStarts (n : Nat) (xs : List V) : Option Int := match firstB (starB n) xs with
  | some k => some (k : Int)
  | none => if xs.length < n then some (xs.length : Int) else if 1 ≤ (intsOf xs).sum ∧ (intsOf xs).sum ≤ 12 then none else some (-1)
def sp_checkStartsX (K : PySem.W.Frag) : Sp := fun vs H Q E => ∃ (a : Addr) (ds : List Int) (v : V), vs = [.ref a, v] ∧ SqT K H a (ds.map V.int) ∧ ds.length ≤ 8 ∧ ((NoTup H v ∧ ErrR K E "starts" 0 H) ∨ ∃ b xs, v = .ref b ∧ SqT K H b xs ∧ xs.length ≤ 20 ∧ (∀ x ∈ xs, Pl K H x) ∧ ∃ i, badStarts ds.length xs = some i ∧ ErrR K E "starts" i H)
theorem intsOf_map {xs : List V} (h : ∀ x ∈ xs, ∃ i, x = .int i) : xs = (intsOf xs).map V.int := by
  induction xs with
  | nil => rfl
  | cons x xs ih =>
    obtain ⟨i, rfl⟩ := h x (List.mem_cons_self ..)
    have := ih fun y hy => h y (List.mem_cons_of_mem _ hy)
    unfold intsOf at this ⊢
    rw [List.map_cons, List.map_cons, ← this]
theorem okx_check_starts (Z : Blt mg) (c_MAX_BOOKS : ∃ t, mg "MAX_BOOKS" = some (.int 12 t)) (Err_InvalidRing : ErrC K (He.ga K "InvalidRing") 0 ["part", "index"]) (E_InvalidRing : Ef P w K mg base "InvalidRing" (He.ga K "InvalidRing") 1 ["self", "part", "index"] (sp_initR K (He.ga K "InvalidRing")))
    (D_is_integer : Df P w K mg base 1 "is_integer" ["value", "low", "high"] (sp_is_integer K)) (G : GFun K mg "check_starts" s_check_starts) : Df P w K mg base 3 "check_starts" ["days", "starts"] (sp_checkStartsX K) := by
  refine Df.of G sc_check_starts b_check_starts (fun vs H Q E h => ?_) (fun f cdv A outer s H vs Q E hr h => ?_)
  · obtain ⟨a, ds, v, rfl, _⟩ := h
    rfl
  · obtain ⟨a, ds, v, rfl, sa, hds, h⟩ := h
    have lp : Str.length (Str.ofString "starts") ≤ 20 := by decide
    refine ⟨_, (pss_cons (ps_if (pt_not (pt_val (pe_callB call_isi (by rfl) Z.zisinstance (by decide +kernel) (pa_cons (pv 1) (pa_cons (pe_bltn rfl Z.ztuple (v := .ty "tuple") (by decide +kernel) rfl) pa_nil))))) (pss_one (psr_err Err_InvalidRing.ox E_InvalidRing hr (pa_cons pe_str (pa_cons pe_int pa_nil)) rfl (takes_of rfl rfl rfl rfl))) pss_nil)
      (pss_cons (ps_for (passes_of rfl) rfl (pi_enumT (by rfl) Z.zenumerate (pa_cons (pv 1) pa_nil)) (pg_tup (by rfl) (pgs_cons (pg_name (i := 2) sc_check_starts.nd rfl (by first | exact Or.inl rfl | exact Or.inr rfl)) (pgs_cons (pg_name (i := 3) sc_check_starts.nd rfl (by first | exact Or.inl rfl | exact Or.inr rfl)) pgs_nil))) (pss_one (ps_if (PW.pt (pw_or (pt_cmpR op_eq (pv 2) (pe_callB c_len (by rfl) Z.zlen PySem.boot_len (pa_cons (pv 0) pa_nil)) (nomark _)) (pw_or1 (pt_not (pt_val (pg D_is_integer hr (pa_cons (pv 3) (pa_cons pe_int (pa_cons (pint c_MAX_BOOKS) pa_nil))))))))) (pss_one (psr_err Err_InvalidRing.ox E_InvalidRing hr (pa_cons pe_str (pa_cons (pv 2) pa_nil)) rfl (takes_of rfl rfl rfl rfl))) pss_nil)))
      (pss_cons (ps_if (pt_cmpR op_lt (pe_callB c_len (by rfl) Z.zlen PySem.boot_len (pa_cons (pv 1) pa_nil)) (pe_callB c_len (by rfl) Z.zlen PySem.boot_len (pa_cons (pv 0) pa_nil)) (nomark _)) (pss_one (psr_err Err_InvalidRing.ox E_InvalidRing hr (pa_cons pe_str (pa_cons (pe_callB c_len (by rfl) Z.zlen PySem.boot_len (pa_cons (pv 1) pa_nil)) pa_nil)) rfl (takes_of rfl rfl rfl rfl))) pss_nil)
      (pss_one (ps_if (pt_not (pt_chain op_le op_le pe_int (pe_callB (cr_sum rfl) (by rfl) Z.zsum (by decide +kernel) (pa_cons (pe_callTy c_list_of (by rfl) Z.zlist (by decide +kernel) (pa_cons (pv 1) pa_nil)) pa_nil)) (pint c_MAX_BOOKS))) (pss_one (psr_err Err_InvalidRing.ox E_InvalidRing hr (pa_cons pe_str (pa_cons (pe_un un_neg pe_int) pa_nil)) rfl (takes_of rfl rfl rfl rfl))) pss_nil))))), ?_⟩
    walk_at "g0"
    walk_at "go"
    rcases h with ⟨hn, q⟩ | ⟨b, xs, rfl, hS, h20, hpl, ix, hbad, q⟩
    · refine g_isNoTup hn ?_
      walk_at "go"
      refine g_tMkO ?_
      walk_at "go"
      exact g_mkR lp ⟨by omega, by omega⟩ fun dd nd => q H (Ex.refl _) dd nd
    · refine g_isiTu hS (r := true) (by decide +kernel) ?_
      walk_at "go"
      refine g_kForE hS (fun i σ H' => ∃ v1 v2, σ = [some (.ref a), some (.ref b), v1, v2] ∧ Ex H H' ∧ ∀ j y, j < i → xs[j]? = some y → starB ds.length j y = true) ⟨none, none, rfl, Ex.refl _, fun j y hj => absurd hj (Nat.not_lt_zero j)⟩ (fun i σ H' _ ⟨_, _, _, e, _⟩ => ex_t e hS) ?_ ?_
      · rintro i x σ H' T H2 hx ⟨v1, v2, rfl, e1, hg⟩ e2 nT hT
        have hi : i < xs.length := (List.getElem?_eq_some_iff.mp hx).1
        have hplx := (hpl x (List.mem_of_getElem? hx)).ex (e1.trans e2)
        have sa2 := ex_t (e1.trans e2) sa
        have stop : starB ds.length i x = false → ErrR K E "starts" (i : Int) H := fun hb => by
          unfold badStarts at hbad
          rw [firstB_some hx hg hb] at hbad
          cases hbad
          exact q
        walk_at "go"
        refine g_kOr (fun h => ?_) (fun h => ?_)
        · have h : (i : Int) = ds.length := of_decide_eq_true h
          have hb : starB ds.length i x = false := by
            unfold starB
            rw [decide_eq_false (by omega : ¬ i ≠ ds.length), Bool.false_and]
          walk_at "go"
          refine g_tMkO ?_
          walk_at "go"
          exact g_mkR lp ⟨by omega, by omega⟩ fun dd nd => stop hb _ (e1.trans e2) dd nd
        · have h : ¬ (i : Int) = ds.length := of_decide_eq_false h
          have hd : starB ds.length i x = inB 0 12 x := by
            unfold starB
            rw [decide_eq_true (by omega : i ≠ ds.length), Bool.true_and]
          walk_at "go"
          cases hb : inB 0 12 x with
          | false =>
            refine g_notint hplx hb ?_
            walk_at "go"
            refine g_tMkO ?_
            walk_at "go"
            exact g_mkR lp ⟨by omega, by omega⟩ fun dd nd => stop (hd.trans hb) _ (e1.trans e2) dd nd
          | true =>
            refine g_intOk hplx hb ?_
            walk_at "go"
            exact ⟨_, _, rfl, e1.trans e2, fun j y hj hy => by
              by_cases z : j = i
              · subst z
                rw [hx] at hy
                cases hy
                exact hd.trans hb
              · exact hg j y (by omega) hy⟩
      · rintro σ H' ⟨v1, v2, rfl, e1, hg⟩
        have sa2 := ex_t e1 sa
        unfold badStarts at hbad
        rw [firstB_none hg] at hbad
        walk_at "go"
        refine g_kIfS (fun h => ?_) (fun h => ?_)
        · have h := of_decide_eq_true h
          have hbad := hbad
          rw [show (match (none : Option Nat) with | some k => some (k : Int) | none => if xs.length < ds.length then some (xs.length : Int) else if 1 ≤ (intsOf xs).sum ∧ (intsOf xs).sum ≤ 12 then none else some (-1)) = some (xs.length : Int) from if_pos (by omega)] at hbad
          cases hbad
          walk_at "go"
          refine g_tMkO ?_
          walk_at "go"
          exact g_mkR lp ⟨by omega, by omega⟩ fun dd nd => q _ e1 dd nd
        · have h := of_decide_eq_false h
          have hxi : xs = (intsOf xs).map V.int := intsOf_map fun x hx => by
            obtain ⟨j, hj⟩ := List.getElem?_of_mem hx
            have hg := hg j x (List.getElem?_eq_some_iff.mp hj).1 hj
            unfold starB at hg
            obtain ⟨i, rfl, _⟩ := inB_get (Bool.and_eq_true_iff.mp hg).2
            exact ⟨i, rfl⟩
          have hns : ¬ (1 ≤ (intsOf xs).sum ∧ (intsOf xs).sum ≤ 12) ∧ ix = -1 := by
            have hbad : (if xs.length < ds.length then some (xs.length : Int) else if 1 ≤ (intsOf xs).sum ∧ (intsOf xs).sum ≤ 12 then none else some (-1)) = some ix := hbad
            rw [if_neg (by omega)] at hbad
            by_cases z : 1 ≤ (intsOf xs).sum ∧ (intsOf xs).sum ≤ 12
            · rw [if_pos z] at hbad
              cases hbad
            · rw [if_neg z] at hbad
              cases hbad
              exact ⟨z, rfl⟩
          obtain ⟨hns, rfl⟩ := hns
          walk_at "go"
          rename_i l2 H2 n2 e2 h2
          refine g_sum (ns := intsOf xs) (SqL.of (by rw [← hxi]; exact h2)) ?_
          generalize (intsOf xs).sum = S at hns
          walk_at "go"
          refine g_kChain (fun b0 => ?_) (fun b0 => ?_)
          · have b0 := of_decide_eq_true b0
            walk_at "go"
            refine g_tMkO ?_
            walk_at "go"
            exact g_mkR lp ⟨by omega, by omega⟩ fun dd nd => q _ (e1.trans e2) dd nd
          · walk_at "go"
            refine g_tMkO ?_
            walk_at "go"
            exact g_mkR lp ⟨by omega, by omega⟩ fun dd nd => q _ (e1.trans e2) dd nd
/-- Ring(v, u) with wrong days, or with right days and wrong starts -/
def sp_RingX (K : PySem.W.Frag) (C : Addr) : Sp := fun vs H Q E => ∃ (x dx : Addr) (v u : V), vs = [.ref x, v, u] ∧ H x = some (.ins C dx []) ∧ ((NoTup H v ∧ ErrR K E "days" 0 H) ∨ (∃ a xs i, v = .ref a ∧ SqT K H a xs ∧ xs.length ≤ 20 ∧ (∀ x ∈ xs, Pl K H x) ∧ badDays xs = some i ∧ ErrR K E "days" (i : Int) H) ∨
  (∃ a ds, v = .ref a ∧ SqT K H a (ds.map V.int) ∧ DaysOk ds ∧ ((NoTup H u ∧ ErrR K E "starts" 0 H) ∨ ∃ b xs i, u = .ref b ∧ SqT K H b xs ∧ xs.length ≤ 20 ∧ (∀ x ∈ xs, Pl K H x) ∧ badStarts ds.length xs = some i ∧ ErrR K E "starts" i H)))
theorem NoTup.ex {H H' : Hp} {v : V} (e : Ex H H') (h : NoTup H v) : NoTup H' v := h.imp id fun h => h.imp id fun ⟨a, xs, b, c⟩ => ⟨a, xs, b, e _ _ c⟩
theorem okx_Ring_init (Z : Blt mg) (R : RingC K C) (DX_check_days : Df P w K mg base 3 "check_days" ["days"] (sp_checkDaysX K)) (D_check_days : Df P w K mg base 2 "check_days" ["days"] (sp_check_days K)) (DX_check_starts : Df P w K mg base 3 "check_starts" ["days", "starts"] (sp_checkStartsX K))
    (G : IFun K mg "Ring" C "Ring.__init__" s_Ring___init__) : If P w K mg base "Ring" C 4 ["self", "days", "starts"] (sp_RingX K C) := by
  refine If.of G sc_Ring___init__ b_Ring___init__ (fun vs H Q E h => ?_) (fun f cdv A outer s H vs Q E hr h => ?_)
  · obtain ⟨x, dx, v, u, rfl, _⟩ := h
    rfl
  · obtain ⟨x, dx, v, u, rfl, hx, h⟩ := h
    have cl_Ring := R.cl
    rcases h with h | ⟨a, xs, i, rfl, h1, h2, h3, h4, h5⟩ | ⟨a, ds, rfl, sa, O, h⟩
    · refine ⟨_, (pss_cons (ps_expr (pg DX_check_days hr (pa_cons (pv 1) pa_nil) (passes_call (takes_of rfl rfl rfl rfl) (fun _ _ _ _ h => h))))
      (pss_cons (ps_expr (pg DX_check_starts hr (pa_cons (pv 1) (pa_cons (pv 2) pa_nil)) (passes_call (takes_of rfl rfl rfl rfl) (fun _ _ _ _ h => h))))
      (pss_cons ps_never
      (pss_cons ps_never
      (pss_one ps_never))))), ?_⟩
      walk_at "g0"
      walk_at "go"
      exact ⟨_, rfl, .inl h⟩
    · refine ⟨_, (pss_cons (ps_expr (pg DX_check_days hr (pa_cons (pv 1) pa_nil) (passes_call (takes_of rfl rfl rfl rfl) (fun _ _ _ _ h => h))))
      (pss_cons (ps_expr (pg DX_check_starts hr (pa_cons (pv 1) (pa_cons (pv 2) pa_nil)) (passes_call (takes_of rfl rfl rfl rfl) (fun _ _ _ _ h => h))))
      (pss_cons ps_never
      (pss_cons ps_never
      (pss_one ps_never))))), ?_⟩
      walk_at "g0"
      walk_at "go"
      exact ⟨_, rfl, .inr ⟨a, xs, rfl, h1, h2, h3, .inl ⟨i, h4, h5⟩⟩⟩
    · refine ⟨_, (pss_cons (ps_expr (pg D_check_days hr (pa_cons (pv 1) pa_nil)))
      (pss_cons (ps_expr (pg DX_check_starts hr (pa_cons (pv 1) (pa_cons (pv 2) pa_nil)) (passes_call (takes_of rfl rfl rfl rfl) (fun _ _ _ _ h => h))))
      (pss_cons ps_never
      (pss_cons ps_never
      (pss_one ps_never))))), ?_⟩
      walk_at "g0"
      walk_at "go"
      refine g_checkd sa O.two O.eight O.dd fun H1 e1 => ?_
      walk_at "go"
      refine ⟨a, ds, u, rfl, ex_t e1 sa, O.eight, ?_⟩
      rcases h with ⟨h1, h2⟩ | ⟨b, xs, i, rfl, h1, h2, h3, h4, h5⟩
      · exact .inl ⟨h1.ex e1, h2.ex e1⟩
      · exact .inr ⟨b, xs, rfl, ex_t e1 h1, h2, fun y hy => (h3 y hy).ex e1, i, h4, h5.ex e1⟩
end
end G48

/-! ring[..], ring >> .., with_days: what is raised -/
namespace G48
open PySem PySem.Spec PyProof.Rows L2 Evl
/-! the steps -/
local macro_rules | `(tactic| walk_at "as") => `(tactic| with_reducible assumption)
local macro_rules | `(tactic| walk_at "hp") => `(tactic| first
  | with_reducible assumption
  | ((with_reducible apply SqT.of); walk_at "as")
  | ((with_reducible apply SqL.of); walk_at "as")
  | ((with_reducible apply ex_at); (focus walk_at "as"); walk_at "hp")
  | ((with_reducible apply ex_t); (focus walk_at "as"); walk_at "hp")
  | ((with_reducible apply ex_l); (focus walk_at "as"); walk_at "hp")
  | ((with_reducible apply exb_ins); (focus walk_at "as"); (focus walk_at "hp"); walk_at "hp")
  | ((with_reducible apply exb_t); (focus walk_at "as"); (focus walk_at "hp"); walk_at "hp")
  | ((with_reducible apply exb_at); (focus walk_at "as"); (focus walk_at "ne"); walk_at "hp")
  | ((with_reducible apply exb_l); (focus walk_at "as"); (focus walk_at "ne"); walk_at "hp"))
local macro_rules | `(tactic| walk_at "ne") => `(tactic| first
  | with_reducible assumption
  | exact Ne.symm (by with_reducible assumption)
  | exact ne_of_none (by with_reducible assumption) (by with_reducible assumption)
  | exact Ne.symm (ne_of_none (by with_reducible assumption) (by with_reducible assumption)))
local macro_rules | `(tactic| walk_at "tr") => `(tactic| first
  | rfl
  | with_reducible assumption
  | exact decide_eq_true (by first | with_reducible assumption | omega)
  | exact decide_eq_false (by first | with_reducible assumption | omega)
  | (rw [Bool.not_eq_true']; exact decide_eq_false (by first | with_reducible assumption | omega))
  | (rw [Bool.not_eq_false']; exact decide_eq_true (by first | with_reducible assumption | omega)))
local macro_rules | `(tactic| walk_at "nn") => `(tactic| first | with_reducible assumption | (exact List.cons_ne_nil _ _))
local macro_rules | `(tactic| walk_at "sz") => `(tactic| first | (exact sz1000 (Nat.le_of_ble_eq_true rfl)) | (refine sz1000 ?_; simp only [List.length_map, List.length_cons, List.length_nil, List.length_append]; omega) | with_reducible assumption)
local macro_rules | `(tactic| walk_at "sl") => `(tactic| first | with_reducible assumption | (refine lt1000 ?_; simp only [List.length_map, List.length_cons, List.length_nil, List.length_append]; omega) | (refine lt1000 ?_; omega))
local macro_rules | `(tactic| walk_at "ix") => `(tactic| first | rfl | with_reducible assumption)
local macro_rules | `(tactic| walk_at "rg") => `(tactic| exact RgOk.of_le (by omega) (by omega) (by omega) (by omega))
local macro_rules | `(tactic| walk_at "sp") => `(tactic| fail "sp")
local macro_rules | `(tactic| walk_at "cl") => `(tactic| with_reducible assumption)
local macro_rules | `(tactic| walk_at "lk") => `(tactic| with_reducible assumption)
local macro_rules | `(tactic| walk_at "it") => `(tactic| first | rfl | with_reducible assumption | exact atI_nat (by with_reducible assumption))
local macro_rules | `(tactic| walk_at "g1") => `(tactic| first
  | (with_reducible apply g_var); (focus rfl)
  | with_reducible apply g_c
  | with_reducible apply g_seq
  | with_reducible apply g_asg
  | with_reducible apply gg_name
  | with_reducible apply g_op
  | with_reducible apply g_cons
  | with_reducible apply g_nil
  | with_reducible apply g_cb
  | with_reducible apply g_fld
  | ((with_reducible apply g_kFld); (focus walk_at "hp"); (focus walk_at "cl"); (focus walk_at "cl"); (focus walk_at "lk"))
  | with_reducible apply g_call
  | walk_at "sp"
  | with_reducible apply g_ret
  | with_reducible apply g_drop
  | with_reducible apply g_test
  | with_reducible apply g_B
  | with_reducible apply g_kTest
  | with_reducible apply g_ifS
  | with_reducible apply g_kIfST
  | with_reducible apply g_kIfSF
  | with_reducible apply g_add
  | with_reducible apply g_sub
  | with_reducible apply g_lt
  | with_reducible apply g_le
  | with_reducible apply g_gt
  | with_reducible apply g_ge
  | with_reducible apply g_eqI
  | with_reducible apply g_neI
  | ((with_reducible apply g_mod); (focus first | decide | omega))
  | ((with_reducible apply g_mul); (focus first | (left; constructor <;> omega) | (right; constructor <;> omega)))
  | ((with_reducible apply g_fdiv); (focus (constructor <;> omega)))
  | ((with_reducible apply g_ixT); (focus walk_at "hp"); (focus walk_at "it"))
  | ((with_reducible apply g_ixL); (focus walk_at "hp"); (focus walk_at "it"))
  | with_reducible apply g_and
  | with_reducible apply g_or
  | with_reducible apply g_not
  | with_reducible apply g_kNotT
  | with_reducible apply g_kNotF
  | with_reducible apply g_if
  | with_reducible apply g_kAndT
  | with_reducible apply g_kAndF
  | with_reducible apply g_kOrT
  | with_reducible apply g_kOrF
  | with_reducible apply g_kIfT
  | with_reducible apply g_kIfF
  | with_reducible apply g_next
  | with_reducible apply g_andV
  | with_reducible apply g_orV
  | with_reducible apply g_notV
  | with_reducible apply g_kNotV
  | with_reducible apply g_kAndVT
  | with_reducible apply g_kAndVF
  | with_reducible apply g_chain
  | with_reducible apply g_kChainT
  | with_reducible apply g_kChainF
  | with_reducible apply g_tup
  | with_reducible apply g_lst
  | ((with_reducible apply g_kT); (focus walk_at "sz"); intro _ _ _ _ _)
  | ((with_reducible apply g_kL); (focus walk_at "sz"); intro _ _ _ _ _)
  | with_reducible apply g_un
  | with_reducible apply g_neg
  | with_reducible apply g_meth
  | ((with_reducible apply g_kMeth); (focus walk_at "hp"); (focus walk_at "lk"))
  | with_reducible apply g_prop
  | ((with_reducible apply g_kProp); (focus walk_at "hp"))
  | with_reducible apply g_make
  | with_reducible apply g_par
  | with_reducible apply g_kPar
  | ((with_reducible apply g_lenLM); (focus walk_at "hp"))
  | ((with_reducible apply g_lenTM); (focus walk_at "hp"))
  | ((with_reducible apply g_lenL); (focus walk_at "hp"))
  | ((with_reducible apply g_lenT); (focus walk_at "hp"))
  | with_reducible apply g_int1
  | with_reducible apply g_max2
  | with_reducible apply g_min2
  | ((with_reducible apply g_listL); (focus walk_at "hp"); intro _ _ _ _ _)
  | ((with_reducible apply g_listT); (focus walk_at "hp"); intro _ _ _ _ _)
  | ((with_reducible apply g_tupL); (focus walk_at "hp"); intro _ _ _ _ _)
  | ((with_reducible apply g_sum); (focus walk_at "hp"))
  | with_reducible apply g_sfld
  | with_reducible apply g_sl
  | with_reducible apply g_nopart
  | with_reducible apply g_part
  | with_reducible apply g_kPart
  | with_reducible apply g_lstRg
  | with_reducible apply g_rg1
  | with_reducible apply g_kRg1
  | with_reducible apply g_bm
  | with_reducible apply gg_sub
  | ((with_reducible apply gg_tup); (focus walk_at "hp"); (focus rfl))
  | with_reducible apply gg_cons
  | with_reducible apply gg_nil
  | with_reducible apply g_forL
  | with_reducible apply g_forT
  | with_reducible apply g_forR1
  | with_reducible apply g_forR2
  | with_reducible apply g_forE
  | with_reducible apply g_forEL
  | ((with_reducible apply g_maxT); (focus walk_at "hp"); (focus walk_at "nn"))
  | ((with_reducible apply g_maxL); (focus walk_at "hp"); (focus walk_at "nn"))
  | ((with_reducible apply g_catA); (focus walk_at "hp"); (focus walk_at "hp"); (focus walk_at "sz"); intro _ _ _ _)
  | ((with_reducible apply g_slA); (focus walk_at "hp"); intro _ _ _ _)
  | ((with_reducible apply g_tupD); (focus walk_at "hp"); intro _ _ _ _ _)
  | ((with_reducible apply g_setL); (focus walk_at "hp"); (focus walk_at "ix"); intro _ _ _)
  | ((with_reducible apply g_append); (focus walk_at "hp"); (focus walk_at "sl"); intro _ _ _)
  | ((with_reducible apply g_aug); (focus rfl))
  | with_reducible apply g_ipI
  | with_reducible apply g_retN
  | with_reducible apply g_lcR1
  | with_reducible apply g_lcR2
  | with_reducible apply g_lcL
  | with_reducible apply g_lcU
  | with_reducible apply g_lcN
  | ((with_reducible apply g_kLcG); (focus rfl))
  | with_reducible apply g_yes
  | with_reducible apply g_kLcTT
  | with_reducible apply g_kLcTF
  | ((with_reducible apply g_kLcE); (focus walk_at "hp"); (focus walk_at "sl"); intro _ _ _)
  | ((with_reducible apply g_pow); (focus (constructor <;> (try constructor) <;> decide)))
  | ((with_reducible apply g_kLRg); (focus walk_at "rg"); intro _ _ _ _ _)
  | ((with_reducible apply g_cat); (focus walk_at "hp"); (focus walk_at "hp"); (focus walk_at "sz"); intro _ _ _ _ _)
  | ((with_reducible apply g_slL); (focus walk_at "hp"); intro _ _ _ _ _)
  | with_reducible apply g_bmT
  | with_reducible apply g_break
  | with_reducible apply g_cont)
local macro_rules | `(tactic| walk_at "g0") => `(tactic| try dsimp only [L2.cxOf, L2.Cx.nox, L2.Cx.wish])
local macro_rules | `(tactic| walk_at "yn") => `(tactic| first
  | ((with_reducible apply y_kIfS); (focus walk_at "tr"))
  | ((with_reducible apply n_kIfS); (focus walk_at "tr"))
  | ((with_reducible apply y_kOr); (focus walk_at "tr"))
  | ((with_reducible apply n_kOr); (focus walk_at "tr"))
  | ((with_reducible apply y_kAnd); (focus walk_at "tr"))
  | ((with_reducible apply n_kAnd); (focus walk_at "tr"))
  | ((with_reducible apply y_kNot); (focus walk_at "tr"))
  | ((with_reducible apply n_kNot); (focus walk_at "tr"))
  | ((with_reducible apply y_kIf); (focus walk_at "tr"))
  | ((with_reducible apply n_kIf); (focus walk_at "tr"))
  | ((with_reducible apply y_kAndV); (focus walk_at "tr"))
  | ((with_reducible apply n_kAndV); (focus walk_at "tr"))
  | ((with_reducible apply y_kOrV); (focus walk_at "tr"))
  | ((with_reducible apply n_kOrV); (focus walk_at "tr"))
  | ((with_reducible apply y_kChain); (focus walk_at "tr"))
  | ((with_reducible apply n_kChain); (focus walk_at "tr"))
  | ((with_reducible apply y_kLcT); (focus walk_at "tr"))
  | ((with_reducible apply n_kLcT); (focus walk_at "tr"))
  | ((with_reducible apply y_kWh); (focus walk_at "tr"))
  | ((with_reducible apply n_kWh); (focus walk_at "tr")))
local macro_rules | `(tactic| walk_at "go") => `(tactic| repeat (first | walk_at "g1" | walk_at "yn"))
local macro_rules | `(tactic| walk_at "hp") => `(tactic| first
  | ((with_reducible apply RingIn.ex); (focus walk_at "as"); walk_at "hp")
  | ((with_reducible apply RingAt.ex); (focus walk_at "as"); walk_at "hp")
  | ((with_reducible apply RingIn.exb); (focus walk_at "as"); (focus walk_at "hp"); walk_at "hp")
  | ((with_reducible apply RingAt.exb); (focus walk_at "as"); (focus walk_at "hp"); walk_at "hp")
  | ((with_reducible apply TupK.ex); (focus walk_at "as"); walk_at "hp")
  | ((with_reducible apply TupK.exb); (focus walk_at "as"); (focus walk_at "hp"); walk_at "hp"))
local macro_rules | `(tactic| walk_at "lk") => `(tactic| first | with_reducible exact rf_spans | with_reducible exact rf_heaps | with_reducible exact rf_total | with_reducible exact rf_nr | with_reducible exact rf_wd)
local macro_rules | `(tactic| walk_at "sp") => `(tactic| first
  | ((with_reducible apply g_isiTup); (focus walk_at "hp"))
  | ((with_reducible apply g_isiLst); (focus walk_at "hp"))
  | ((with_reducible apply g_isint); (focus omega); (focus omega))
  | ((with_reducible apply g_checkn); (focus omega); (focus omega))
  | ((with_reducible apply g_rbooks); (focus walk_at "hp"))
  | ((with_reducible apply g_rpace); (focus walk_at "hp"); intro _ _ _ _)
  | ((with_reducible apply g_rlen); (focus walk_at "hp"))
  | ((with_reducible apply g_rneed); (focus walk_at "hp"); (focus omega))
  | ((with_reducible apply g_rneedM); (focus walk_at "hp"))
  | ((with_reducible apply g_rwithM); (focus walk_at "hp"))
  | ((with_reducible apply g_rspans); (focus walk_at "hp"); (focus with_reducible assumption))
  | ((with_reducible apply g_rheaps); (focus walk_at "hp"); (focus with_reducible assumption))
  | ((with_reducible apply g_rtotal); (focus walk_at "hp"); (focus with_reducible assumption)))

local macro_rules | `(tactic| walk_at "hp") => `(tactic| first
  | ((with_reducible apply CrsIn.ex); (focus walk_at "as"); walk_at "hp")
  | ((with_reducible apply RowsAt.ex); (focus walk_at "as"); walk_at "hp"))
local macro_rules | `(tactic| walk_at "sp") => `(tactic| first
  | ((with_reducible apply g_crows); (focus walk_at "hp"); (focus with_reducible assumption))
  | ((with_reducible apply g_csize); (focus walk_at "hp"); (focus with_reducible assumption))
  | ((with_reducible apply g_cevery); (focus walk_at "hp"); (focus with_reducible assumption))
  | ((with_reducible apply g_cshift); (focus walk_at "hp"); (focus with_reducible assumption))
  | ((with_reducible apply g_cring); (focus walk_at "hp"); (focus with_reducible assumption))
  | ((with_reducible apply g_cfirst); (focus walk_at "hp"); (focus with_reducible assumption))
  | ((with_reducible apply g_clen); (focus walk_at "hp"))
  | ((with_reducible apply g_cmShifted); (focus walk_at "hp"))
  | ((with_reducible apply g_cmSettled); (focus walk_at "hp"))
  | ((with_reducible apply g_cmNext); (focus walk_at "hp"))
  | ((with_reducible apply g_cmEnd); (focus walk_at "hp"))
  | ((with_reducible apply g_cmArrival); (focus walk_at "hp")))

local macro_rules | `(tactic| walk_at "sp") => `(tactic| first
  | ((with_reducible apply g_taken); (focus walk_at "hp"); (focus first | decide | omega); (focus first | decide | omega); intro _ _ _ _ _ _))
local macro_rules | `(tactic| walk_at "hp") => `(tactic| first
  | ((with_reducible apply DiceAt.ex); (focus walk_at "as"); walk_at "hp")
  | ((with_reducible apply exb_tD); (focus walk_at "as"); (focus walk_at "hp"); walk_at "hp")
  | ((with_reducible apply exb_insD); (focus walk_at "as"); (focus walk_at "hp"); walk_at "hp")
  | ((with_reducible apply RingIn.exD); (focus walk_at "as"); (focus walk_at "hp"); walk_at "hp")
  | ((with_reducible apply TupK.exD); (focus walk_at "as"); (focus walk_at "hp"); walk_at "hp"))

local macro_rules | `(tactic| walk_at "hp") => `(tactic| first
  | ((with_reducible apply CrsAt.ex); (focus walk_at "as"); walk_at "hp")
  | ((with_reducible apply CrsAt.into); walk_at "hp"))
local macro_rules | `(tactic| walk_at "g1") => `(tactic| first
  | ((with_reducible apply g_callO); (focus walk_at "hp"))
  | with_reducible apply g_tCallO
  | with_reducible apply g_kCallO)
local macro_rules | `(tactic| walk_at "sp") => `(tactic| first
  | ((with_reducible apply g_rdays); (focus walk_at "hp"))
  | ((with_reducible apply g_rstarts); (focus walk_at "hp"))
  | ((with_reducible apply g_rget); (focus walk_at "hp"); (focus with_reducible assumption); intro _ _ _ _)
  | ((with_reducible apply g_rcall); (focus walk_at "hp"); (focus with_reducible assumption); (focus omega); intro _ _)
  | ((with_reducible apply g_mkCourse); (focus walk_at "hp"); intro _ _ _ _ _ _ _ _ _)
  | ((with_reducible apply g_ncheckn); (focus omega); (focus omega)))

section
variable {P : Program} {w : World} {K : PySem.W.Frag} {mg : Str → Option Value} {base : Heap} {C : Addr}
theorem okx_getitem (Z : Blt mg) (R : RingC K C) (Exc_UnknownReader : ExcT K (He.ga K "UnknownReader") 2) (g_UnknownReader : mg "UnknownReader" = some (.ref (He.ga K "UnknownReader"))) (D_is_integer : Df P w K mg base 1 "is_integer" ["value", "low", "high"] (sp_is_integer K)) (G : CFun K C "__getitem__" "Ring.__getitem__" s_Ring___getitem__) : Cf P w K mg base C 2 "__getitem__" ["self", "reader"] (sp_needX K C) := by
  refine Cf.of G sc_Ring___getitem__ b_Ring___getitem__ (fun vs H Q E h => ?_) (fun f cdv A outer s H vs Q E hr h => ?_)
  · obtain ⟨r, a, b, ds, hs, v, rfl, _⟩ := h
    rfl
  · obtain ⟨r, a, b, ds, hs, v, rfl, RI, hv, h1, q⟩ := h
    obtain ⟨⟨dx, ho⟩, hS, hT, O⟩ := id RI
    obtain ⟨cl_Ring, nS, nH, nT⟩ := R
    refine ⟨_, (pss_cons (ps_if (pt_not (pt_val (pg D_is_integer hr (pa_cons (pv 1) (pa_cons pe_int (pa_cons (pe_op op_sub (pe_callB c_len (by rfl) Z.zlen PySem.boot_len (pa_cons (pe_fld (pv 0) rfl) pa_nil)) pe_int) pa_nil)))))) (pss_one (psr_own Exc_UnknownReader g_UnknownReader rfl (takes_of rfl rfl rfl rfl))) pss_nil)
      (pss_one ps_never)), ?_⟩
    walk_at "g0"
    walk_at "go"
    refine g_notint hv h1 ?_
    walk_at "go"
    exact q
def sp_shrX (K : PySem.W.Frag) (C : Addr) : Sp := fun vs H Q E => ∃ (r a b : Addr) (ds hs : List Int) (v : V), vs = [.ref r, v] ∧ RingIn K C H r a b ds hs ∧ Pl K H v ∧ inB 0 ((ds.length : Int) - 1) v = false ∧ E (.ref (He.ga K "InvalidNumber")) none H
theorem okx_rshift (Z : Blt mg) (R : RingC K C) (Exc_InvalidNumber : ExcT K (He.ga K "InvalidNumber") 4) (g_InvalidNumber : mg "InvalidNumber" = some (.ref (He.ga K "InvalidNumber"))) (D_is_integer : Df P w K mg base 1 "is_integer" ["value", "low", "high"] (sp_is_integer K)) (G : CFun K C "__rshift__" "Ring.__rshift__" s_Ring___rshift__) : Cf P w K mg base C 5 "__rshift__" ["self", "steps"] (sp_shrX K C) := by
  refine Cf.of G sc_Ring___rshift__ b_Ring___rshift__ (fun vs H Q E h => ?_) (fun f cdv A outer s H vs Q E hr h => ?_)
  · obtain ⟨r, a, b, ds, hs, v, rfl, _⟩ := h
    rfl
  · obtain ⟨r, a, b, ds, hs, v, rfl, RI, hv, h1, q⟩ := h
    obtain ⟨⟨dx, ho⟩, hS, hT, O⟩ := id RI
    obtain ⟨cl_Ring, nS, nH, nT⟩ := R
    refine ⟨_, (pss_cons (ps_if (pt_not (pt_val (pg D_is_integer hr (pa_cons (pv 1) (pa_cons pe_int (pa_cons (pe_op op_sub (pe_callB c_len (by rfl) Z.zlen PySem.boot_len (pa_cons (pe_fld (pv 0) rfl) pa_nil)) pe_int) pa_nil)))))) (pss_one (psr_own Exc_InvalidNumber g_InvalidNumber rfl (takes_of rfl rfl rfl rfl))) pss_nil)
      (pss_one ps_never)), ?_⟩
    walk_at "g0"
    walk_at "go"
    refine g_notint hv h1 ?_
    walk_at "go"
    exact q
/-- with_days: no such reader, or no such days -/
def sp_withX (K : PySem.W.Frag) (C : Addr) : Sp := fun vs H Q E => ∃ (r a b : Addr) (ds hs : List Int) (v u : V), vs = [.ref r, v, u] ∧ RingIn K C H r a b ds hs ∧ Pl K H v ∧ Pl K H u ∧
  ((inB 0 ((ds.length : Int) - 1) v = false ∧ E (.ref (He.ga K "UnknownReader")) none H) ∨ (∃ k : Nat, v = .int (k : Int) ∧ k < ds.length ∧ inB 1 30 u = false ∧ ErrR K E "days" (k : Int) H) ∨
   ∃ (k : Nat) (n : Int), v = .int (k : Int) ∧ u = .int n ∧ k < ds.length ∧ (1 ≤ n ∧ n ≤ 30) ∧ ∀ r' a' H', H r' = none → Ex H H' → RingIn K C H' r' a' b (ds.set k n) hs → Q (.ref r') H')
theorem okx_with (Z : Blt mg) (R : RingC K C) (M_Ring_need_reader : Mf P w K mg base C 2 "need_reader" ["self", "reader"] (sp_Ring_need K C)) (MX_Ring_need_reader : Mf P w K mg base C 2 "need_reader" ["self", "reader"] (sp_needX K C)) (IX_Ring : If P w K mg base "Ring" C 4 ["self", "days", "starts"] (sp_RingX K C)) (I_Ring : If P w K mg base "Ring" C 3 ["self", "days", "starts"] (sp_Ring_init K C))
    (G : CFun K C "with_days" "Ring.with_days" s_Ring_with_days) : Mf P w K mg base C 6 "with_days" ["self", "reader", "days"] (sp_withX K C) := by
  refine Mf.of G sc_Ring_with_days b_Ring_with_days (fun vs H Q E h => ?_) (fun f cdv A outer s H vs Q E hr h => ?_)
  · obtain ⟨r, a, b, ds, hs, v, u, rfl, _⟩ := h
    rfl
  · obtain ⟨r, a, b, ds, hs, v, u, rfl, RI, hv, hu, h⟩ := h
    obtain ⟨⟨dx, ho⟩, hS, hT, O⟩ := id RI
    have h8 := O.eight
    rcases h with ⟨h1, q⟩ | ⟨k, rfl, hk, h1, q⟩ | ⟨k, n, rfl, rfl, hk, hn, q⟩
    · obtain ⟨cl_Ring, nS, nH, nT⟩ := R
      refine ⟨_, (pss_cons (ps_expr (pm (pv 0) cl_Ring MX_Ring_need_reader hr (pa_cons (pv 1) pa_nil) (passes_call (takes_of rfl rfl rfl rfl) (fun _ _ _ _ h => h))))
      (pss_one ps_never)), ?_⟩
      walk_at "g0"
      walk_at "go"
      exact g_needX RI hv h1 q
    · obtain ⟨cl_Ring, nS, nH, nT⟩ := R
      refine ⟨_, (pss_cons (ps_expr (pm (pv 0) cl_Ring M_Ring_need_reader hr (pa_cons (pv 1) pa_nil)))
      (pss_one (ps_ret (pk IX_Ring hr (pa_cons (pe_op op_catA (pe_op op_catA (pe_slice sl_tupA (pe_fld (pv 0) rfl) po_none (po_some (pv 1))) (pe_tup (pa_cons (pv 2) pa_nil))) (pe_slice sl_tupA (pe_fld (pv 0) rfl) (po_some (pe_op op_add (pv 1) pe_int)) po_none)) (pa_cons (pe_fld (pv 0) rfl) pa_nil)) (passes_call (takes_of rfl rfl rfl rfl) (fun _ _ _ _ h => h)))))), ?_⟩
      walk_at "g0"
      walk_at "go"
      rename_i p1 H1 e1 s1 p2 H2 n2 e2 hp2
      refine g_catA (xs := (ds.take k).map V.int) (ys := [u]) (by rw [← cut_lo ds k (by omega)]; exact ex_t e2 s1) (SqT.of hp2) (by rw [List.length_map, List.length_take]; exact sz1000 (by simp; omega)) fun p3 H3 e3 s3 => ?_
      have ho3 := e3 _ _ (e2 _ _ (e1 _ _ ho))
      have hS3 := ex_t e3 (ex_t e2 (ex_t e1 hS))
      walk_at "go"
      rename_i p4 H4 e4 s4
      have s4' : SqT K H4 p4 ((ds.drop (k + 1)).map V.int) := by
        rw [← cut_hi ds (k + 1) (by omega)]
        exact s4
      refine g_catA (ex_t e4 s3) s4' (by simp only [List.length_append, List.length_map, List.length_take, List.length_drop]; exact sz1000 (by simp; omega)) fun p5 H5 e5 s5 => ?_
      have e05 := (((e1.trans e2).trans e3).trans e4).trans e5
      have ho5 := e05 _ _ ho
      have hat : (((ds.take k).map V.int ++ [u]) ++ (ds.drop (k + 1)).map V.int)[k]? = some u := by
        rw [List.getElem?_append_left (by rw [List.length_append, List.length_map, List.length_take]; show k < min k ds.length + 1; omega), List.getElem?_append_right (by rw [List.length_map, List.length_take]; omega), List.length_map, List.length_take, show k - min k ds.length = 0 by omega]
        rfl
      have hbd : badDays (((ds.take k).map V.int ++ [u]) ++ (ds.drop (k + 1)).map V.int) = some k := by
        unfold badDays
        rw [firstB_some hat (fun j y hj hy => ?_) (by unfold dayB; rw [h1, Bool.and_false])]
        rw [List.getElem?_append_left (by rw [List.length_append, List.length_map, List.length_take]; show j < min k ds.length + 1; omega), List.getElem?_append_left (by rw [List.length_map, List.length_take]; omega)] at hy
        obtain ⟨m, rfl, hm, hmm, _⟩ := at_int hy
        have hb := O.dd m (List.mem_of_mem_take hmm)
        unfold dayB
        rw [decide_eq_true (by omega : j ≠ 8), Bool.true_and]
        show (decide (1 ≤ m) && decide (m ≤ 30)) = true
        rw [decide_eq_true hb.1, decide_eq_true hb.2]
        rfl
      walk_at "go"
      intro x dx' nx ndx ne
      have e6 : Ex H5 (upd (upd H5 dx' (.own x)) x (.ins C dx' [])) := fun c o h => by
        rw [upd_ne (ne_of_none h nx), upd_ne (ne_of_none h ndx)]
        exact h
      refine ⟨x, dx', .ref p5, .ref b, rfl, upd_same, .inr (.inl ⟨p5, _, k, rfl, ex_t e6 s5, ?_, fun y hy => ?_, hbd, q.ex (e05.trans e6)⟩)⟩
      · rw [List.length_append, List.length_append, List.length_map, List.length_map, List.length_take, List.length_drop]
        show _ + 1 + _ ≤ 20
        omega
      · rcases List.mem_append.mp hy with hy | hy
        · rcases List.mem_append.mp hy with hy | hy
          · obtain ⟨i, _, rfl⟩ := List.mem_map.mp hy
            exact .int i
          · rw [List.mem_singleton.mp hy]
            exact hu.ex (e05.trans e6)
        · obtain ⟨i, _, rfl⟩ := List.mem_map.mp hy
          exact .int i
    · obtain ⟨cl_Ring, nS, nH, nT⟩ := R
      refine ⟨_, PSs.nox (pss_cons (ps_expr (pm (pv 0) cl_Ring M_Ring_need_reader hr (pa_cons (pv 1) pa_nil)))
      (pss_one (ps_ret (pk I_Ring hr (pa_cons (pe_op op_catA (pe_op op_catA (pe_slice sl_tupA (pe_fld (pv 0) rfl) po_none (po_some (pv 1))) (pe_tup (pa_cons (pv 2) pa_nil))) (pe_slice sl_tupA (pe_fld (pv 0) rfl) (po_some (pe_op op_add (pv 1) pe_int)) po_none)) (pa_cons (pe_fld (pv 0) rfl) pa_nil)))))), ?_⟩
      walk_at "g0"
      walk_at "go"
      rename_i p1 H1 e1 s1 p2 H2 _ e2 hp2
      refine g_catA (xs := (ds.take k).map V.int) (ys := [V.int n]) (by rw [← cut_lo ds k (by omega)]; exact ex_t e2 s1) (SqT.of hp2) (by rw [List.length_map, List.length_take]; exact sz1000 (by simp; omega)) fun p3 H3 e3 s3 => ?_
      have ho3 := e3 _ _ (e2 _ _ (e1 _ _ ho))
      have hS3 := ex_t e3 (ex_t e2 (ex_t e1 hS))
      walk_at "go"
      rename_i p4 H4 e4 s4
      have s4' : SqT K H4 p4 ((ds.drop (k + 1)).map V.int) := by
        rw [← cut_hi ds (k + 1) (by omega)]
        exact s4
      refine g_catA (ex_t e4 s3) s4' (by simp only [List.length_append, List.length_map, List.length_take, List.length_drop]; exact sz1000 (by simp; omega)) fun p5 H5 e5 s5 => ?_
      have s5' : SqT K H5 p5 ((ds.set k n).map V.int) := by
        rw [← set_split ds k n hk, List.map_append, List.map_append]
        exact s5
      have e05 := (((e1.trans e2).trans e3).trans e4).trans e5
      have ho5 := e05 _ _ ho
      walk_at "go"
      exact g_mkRing s5' (ex_t e05 hT) (O.set k hn) fun r' H6 n6 e6 R6 => q r' p5 H6 (fresh_back e05 n6) (e05.trans e6) R6
end
end G48

namespace G48
open PySem PySem.Spec PyProof.Rows L2 Evl
abbrev N__law_bad_rings : List Str := ["_law_d", "_law_days", "_law_starts", "_law_k", "_law_odd", "_law_bad", "_law_zeros", "_law_size", "_law_rows", "_law_one", "_law_two", "_law_part", "_law_index"]
theorem sc__law_bad_rings : FnScope N__law_bad_rings ["_law_d", "_law_days", "_law_starts"] (defScope s__law_bad_rings) := ⟨rfl, rfl, rfl, by decide +kernel, rfl, by decide +kernel, by decide +kernel⟩
theorem b__law_bad_rings : BindL "_law_bad_rings" "_law_bad_rings" s__law_bad_rings ["_law_d", "_law_days", "_law_starts"] := fun _ _ _ _ _ _ us hl => match us, hl with | [_, _, _], _ => rfl
end G48
/-! `_law_bad_rings`: wrong rings are told -/
namespace G48
open PySem PySem.Spec PyProof.Rows L2 Evl
open LamX (Tabs ExtN)
/-! the steps -/
local macro_rules | `(tactic| walk_at "as") => `(tactic| with_reducible assumption)
local macro_rules | `(tactic| walk_at "hp") => `(tactic| first
  | with_reducible assumption
  | ((with_reducible apply SqT.of); walk_at "as")
  | ((with_reducible apply SqL.of); walk_at "as")
  | ((with_reducible apply ex_at); (focus walk_at "as"); walk_at "hp")
  | ((with_reducible apply ex_t); (focus walk_at "as"); walk_at "hp")
  | ((with_reducible apply ex_l); (focus walk_at "as"); walk_at "hp")
  | ((with_reducible apply exb_ins); (focus walk_at "as"); (focus walk_at "hp"); walk_at "hp")
  | ((with_reducible apply exb_t); (focus walk_at "as"); (focus walk_at "hp"); walk_at "hp")
  | ((with_reducible apply exb_at); (focus walk_at "as"); (focus walk_at "ne"); walk_at "hp")
  | ((with_reducible apply exb_l); (focus walk_at "as"); (focus walk_at "ne"); walk_at "hp"))
local macro_rules | `(tactic| walk_at "ne") => `(tactic| first
  | with_reducible assumption
  | exact Ne.symm (by with_reducible assumption)
  | exact ne_of_none (by with_reducible assumption) (by with_reducible assumption)
  | exact Ne.symm (ne_of_none (by with_reducible assumption) (by with_reducible assumption)))
local macro_rules | `(tactic| walk_at "tr") => `(tactic| first
  | rfl
  | with_reducible assumption
  | exact decide_eq_true (by first | with_reducible assumption | omega)
  | exact decide_eq_false (by first | with_reducible assumption | omega)
  | (rw [Bool.not_eq_true']; exact decide_eq_false (by first | with_reducible assumption | omega))
  | (rw [Bool.not_eq_false']; exact decide_eq_true (by first | with_reducible assumption | omega)))
local macro_rules | `(tactic| walk_at "nn") => `(tactic| first | with_reducible assumption | (exact List.cons_ne_nil _ _))
local macro_rules | `(tactic| walk_at "sz") => `(tactic| first | (exact sz1000 (Nat.le_of_ble_eq_true rfl)) | (refine sz1000 ?_; simp only [List.length_map, List.length_cons, List.length_nil, List.length_append]; omega) | with_reducible assumption)
local macro_rules | `(tactic| walk_at "sl") => `(tactic| first | with_reducible assumption | (refine lt1000 ?_; simp only [List.length_map, List.length_cons, List.length_nil, List.length_append]; omega) | (refine lt1000 ?_; omega))
local macro_rules | `(tactic| walk_at "ix") => `(tactic| first | rfl | with_reducible assumption)
local macro_rules | `(tactic| walk_at "rg") => `(tactic| exact RgOk.of_le (by omega) (by omega) (by omega) (by omega))
local macro_rules | `(tactic| walk_at "sp") => `(tactic| fail "sp")
local macro_rules | `(tactic| walk_at "cl") => `(tactic| with_reducible assumption)
local macro_rules | `(tactic| walk_at "lk") => `(tactic| with_reducible assumption)
local macro_rules | `(tactic| walk_at "it") => `(tactic| first | rfl | with_reducible assumption | exact atI_nat (by with_reducible assumption))
local macro_rules | `(tactic| walk_at "g1") => `(tactic| first
  | (with_reducible apply g_var); (focus rfl)
  | with_reducible apply g_c
  | with_reducible apply g_seq
  | with_reducible apply g_asg
  | with_reducible apply gg_name
  | with_reducible apply g_op
  | with_reducible apply g_cons
  | with_reducible apply g_nil
  | with_reducible apply g_cb
  | with_reducible apply g_fld
  | ((with_reducible apply g_kFld); (focus walk_at "hp"); (focus walk_at "cl"); (focus walk_at "cl"); (focus walk_at "lk"))
  | with_reducible apply g_call
  | walk_at "sp"
  | with_reducible apply g_ret
  | with_reducible apply g_drop
  | with_reducible apply g_test
  | with_reducible apply g_B
  | with_reducible apply g_kTest
  | with_reducible apply g_ifS
  | with_reducible apply g_kIfST
  | with_reducible apply g_kIfSF
  | with_reducible apply g_add
  | with_reducible apply g_sub
  | with_reducible apply g_lt
  | with_reducible apply g_le
  | with_reducible apply g_gt
  | with_reducible apply g_ge
  | with_reducible apply g_eqI
  | with_reducible apply g_neI
  | ((with_reducible apply g_mod); (focus first | decide | omega))
  | ((with_reducible apply g_mul); (focus first | (left; constructor <;> omega) | (right; constructor <;> omega)))
  | ((with_reducible apply g_fdiv); (focus (constructor <;> omega)))
  | ((with_reducible apply g_ixT); (focus walk_at "hp"); (focus walk_at "it"))
  | ((with_reducible apply g_ixL); (focus walk_at "hp"); (focus walk_at "it"))
  | with_reducible apply g_and
  | with_reducible apply g_or
  | with_reducible apply g_not
  | with_reducible apply g_kNotT
  | with_reducible apply g_kNotF
  | with_reducible apply g_if
  | with_reducible apply g_kAndT
  | with_reducible apply g_kAndF
  | with_reducible apply g_kOrT
  | with_reducible apply g_kOrF
  | with_reducible apply g_kIfT
  | with_reducible apply g_kIfF
  | with_reducible apply g_next
  | with_reducible apply g_andV
  | with_reducible apply g_orV
  | with_reducible apply g_notV
  | with_reducible apply g_kNotV
  | with_reducible apply g_kAndVT
  | with_reducible apply g_kAndVF
  | with_reducible apply g_chain
  | with_reducible apply g_kChainT
  | with_reducible apply g_kChainF
  | with_reducible apply g_tup
  | with_reducible apply g_lst
  | ((with_reducible apply g_kT); (focus walk_at "sz"); intro _ _ _ _ _)
  | ((with_reducible apply g_kL); (focus walk_at "sz"); intro _ _ _ _ _)
  | with_reducible apply g_un
  | with_reducible apply g_neg
  | with_reducible apply g_meth
  | ((with_reducible apply g_kMeth); (focus walk_at "hp"); (focus walk_at "lk"))
  | with_reducible apply g_prop
  | ((with_reducible apply g_kProp); (focus walk_at "hp"))
  | with_reducible apply g_make
  | with_reducible apply g_par
  | with_reducible apply g_kPar
  | ((with_reducible apply g_lenLM); (focus walk_at "hp"))
  | ((with_reducible apply g_lenTM); (focus walk_at "hp"))
  | ((with_reducible apply g_lenL); (focus walk_at "hp"))
  | ((with_reducible apply g_lenT); (focus walk_at "hp"))
  | with_reducible apply g_int1
  | with_reducible apply g_max2
  | with_reducible apply g_min2
  | ((with_reducible apply g_listL); (focus walk_at "hp"); intro _ _ _ _ _)
  | ((with_reducible apply g_listT); (focus walk_at "hp"); intro _ _ _ _ _)
  | ((with_reducible apply g_tupL); (focus walk_at "hp"); intro _ _ _ _ _)
  | ((with_reducible apply g_sum); (focus walk_at "hp"))
  | with_reducible apply g_sfld
  | with_reducible apply g_sl
  | with_reducible apply g_nopart
  | with_reducible apply g_part
  | with_reducible apply g_kPart
  | with_reducible apply g_lstRg
  | with_reducible apply g_rg1
  | with_reducible apply g_kRg1
  | with_reducible apply g_bm
  | with_reducible apply gg_sub
  | ((with_reducible apply gg_tup); (focus walk_at "hp"); (focus rfl))
  | with_reducible apply gg_cons
  | with_reducible apply gg_nil
  | with_reducible apply g_forL
  | with_reducible apply g_forT
  | with_reducible apply g_forR1
  | with_reducible apply g_forR2
  | with_reducible apply g_forE
  | with_reducible apply g_forEL
  | ((with_reducible apply g_maxT); (focus walk_at "hp"); (focus walk_at "nn"))
  | ((with_reducible apply g_maxL); (focus walk_at "hp"); (focus walk_at "nn"))
  | ((with_reducible apply g_catA); (focus walk_at "hp"); (focus walk_at "hp"); (focus walk_at "sz"); intro _ _ _ _)
  | ((with_reducible apply g_slA); (focus walk_at "hp"); intro _ _ _ _)
  | ((with_reducible apply g_tupD); (focus walk_at "hp"); intro _ _ _ _ _)
  | ((with_reducible apply g_setL); (focus walk_at "hp"); (focus walk_at "ix"); intro _ _ _)
  | ((with_reducible apply g_append); (focus walk_at "hp"); (focus walk_at "sl"); intro _ _ _)
  | ((with_reducible apply g_aug); (focus rfl))
  | with_reducible apply g_ipI
  | with_reducible apply g_retN
  | with_reducible apply g_lcR1
  | with_reducible apply g_lcR2
  | with_reducible apply g_lcL
  | with_reducible apply g_lcU
  | with_reducible apply g_lcN
  | ((with_reducible apply g_kLcG); (focus rfl))
  | with_reducible apply g_yes
  | with_reducible apply g_kLcTT
  | with_reducible apply g_kLcTF
  | ((with_reducible apply g_kLcE); (focus walk_at "hp"); (focus walk_at "sl"); intro _ _ _)
  | ((with_reducible apply g_pow); (focus (constructor <;> (try constructor) <;> decide)))
  | ((with_reducible apply g_kLRg); (focus walk_at "rg"); intro _ _ _ _ _)
  | ((with_reducible apply g_cat); (focus walk_at "hp"); (focus walk_at "hp"); (focus walk_at "sz"); intro _ _ _ _ _)
  | ((with_reducible apply g_slL); (focus walk_at "hp"); intro _ _ _ _ _)
  | with_reducible apply g_bmT
  | with_reducible apply g_break
  | with_reducible apply g_cont)
local macro_rules | `(tactic| walk_at "g0") => `(tactic| try dsimp only [L2.cxOf, L2.Cx.nox, L2.Cx.wish])
local macro_rules | `(tactic| walk_at "yn") => `(tactic| first
  | ((with_reducible apply y_kIfS); (focus walk_at "tr"))
  | ((with_reducible apply n_kIfS); (focus walk_at "tr"))
  | ((with_reducible apply y_kOr); (focus walk_at "tr"))
  | ((with_reducible apply n_kOr); (focus walk_at "tr"))
  | ((with_reducible apply y_kAnd); (focus walk_at "tr"))
  | ((with_reducible apply n_kAnd); (focus walk_at "tr"))
  | ((with_reducible apply y_kNot); (focus walk_at "tr"))
  | ((with_reducible apply n_kNot); (focus walk_at "tr"))
  | ((with_reducible apply y_kIf); (focus walk_at "tr"))
  | ((with_reducible apply n_kIf); (focus walk_at "tr"))
  | ((with_reducible apply y_kAndV); (focus walk_at "tr"))
  | ((with_reducible apply n_kAndV); (focus walk_at "tr"))
  | ((with_reducible apply y_kOrV); (focus walk_at "tr"))
  | ((with_reducible apply n_kOrV); (focus walk_at "tr"))
  | ((with_reducible apply y_kChain); (focus walk_at "tr"))
  | ((with_reducible apply n_kChain); (focus walk_at "tr"))
  | ((with_reducible apply y_kLcT); (focus walk_at "tr"))
  | ((with_reducible apply n_kLcT); (focus walk_at "tr"))
  | ((with_reducible apply y_kWh); (focus walk_at "tr"))
  | ((with_reducible apply n_kWh); (focus walk_at "tr")))
local macro_rules | `(tactic| walk_at "go") => `(tactic| repeat (first | walk_at "g1" | walk_at "yn"))
local macro_rules | `(tactic| walk_at "hp") => `(tactic| first
  | ((with_reducible apply RingIn.ex); (focus walk_at "as"); walk_at "hp")
  | ((with_reducible apply RingAt.ex); (focus walk_at "as"); walk_at "hp")
  | ((with_reducible apply RingIn.exb); (focus walk_at "as"); (focus walk_at "hp"); walk_at "hp")
  | ((with_reducible apply RingAt.exb); (focus walk_at "as"); (focus walk_at "hp"); walk_at "hp")
  | ((with_reducible apply TupK.ex); (focus walk_at "as"); walk_at "hp")
  | ((with_reducible apply TupK.exb); (focus walk_at "as"); (focus walk_at "hp"); walk_at "hp"))
local macro_rules | `(tactic| walk_at "lk") => `(tactic| first | with_reducible exact rf_spans | with_reducible exact rf_heaps | with_reducible exact rf_total | with_reducible exact rf_nr | with_reducible exact rf_wd)
local macro_rules | `(tactic| walk_at "sp") => `(tactic| first
  | ((with_reducible apply g_isiTup); (focus walk_at "hp"))
  | ((with_reducible apply g_isiLst); (focus walk_at "hp"))
  | ((with_reducible apply g_isint); (focus omega); (focus omega))
  | ((with_reducible apply g_checkn); (focus omega); (focus omega))
  | ((with_reducible apply g_rbooks); (focus walk_at "hp"))
  | ((with_reducible apply g_rpace); (focus walk_at "hp"); intro _ _ _ _)
  | ((with_reducible apply g_rlen); (focus walk_at "hp"))
  | ((with_reducible apply g_rneed); (focus walk_at "hp"); (focus omega))
  | ((with_reducible apply g_rneedM); (focus walk_at "hp"))
  | ((with_reducible apply g_rwithM); (focus walk_at "hp"))
  | ((with_reducible apply g_rspans); (focus walk_at "hp"); (focus with_reducible assumption))
  | ((with_reducible apply g_rheaps); (focus walk_at "hp"); (focus with_reducible assumption))
  | ((with_reducible apply g_rtotal); (focus walk_at "hp"); (focus with_reducible assumption)))

local macro_rules | `(tactic| walk_at "hp") => `(tactic| first
  | ((with_reducible apply CrsIn.ex); (focus walk_at "as"); walk_at "hp")
  | ((with_reducible apply RowsAt.ex); (focus walk_at "as"); walk_at "hp"))
local macro_rules | `(tactic| walk_at "sp") => `(tactic| first
  | ((with_reducible apply g_crows); (focus walk_at "hp"); (focus with_reducible assumption))
  | ((with_reducible apply g_csize); (focus walk_at "hp"); (focus with_reducible assumption))
  | ((with_reducible apply g_cevery); (focus walk_at "hp"); (focus with_reducible assumption))
  | ((with_reducible apply g_cshift); (focus walk_at "hp"); (focus with_reducible assumption))
  | ((with_reducible apply g_cring); (focus walk_at "hp"); (focus with_reducible assumption))
  | ((with_reducible apply g_cfirst); (focus walk_at "hp"); (focus with_reducible assumption))
  | ((with_reducible apply g_clen); (focus walk_at "hp"))
  | ((with_reducible apply g_cmShifted); (focus walk_at "hp"))
  | ((with_reducible apply g_cmSettled); (focus walk_at "hp"))
  | ((with_reducible apply g_cmNext); (focus walk_at "hp"))
  | ((with_reducible apply g_cmEnd); (focus walk_at "hp"))
  | ((with_reducible apply g_cmArrival); (focus walk_at "hp")))

local macro_rules | `(tactic| walk_at "sp") => `(tactic| first
  | ((with_reducible apply g_taken); (focus walk_at "hp"); (focus first | decide | omega); (focus first | decide | omega); intro _ _ _ _ _ _))
local macro_rules | `(tactic| walk_at "hp") => `(tactic| first
  | ((with_reducible apply DiceAt.ex); (focus walk_at "as"); walk_at "hp")
  | ((with_reducible apply exb_tD); (focus walk_at "as"); (focus walk_at "hp"); walk_at "hp")
  | ((with_reducible apply exb_insD); (focus walk_at "as"); (focus walk_at "hp"); walk_at "hp")
  | ((with_reducible apply RingIn.exD); (focus walk_at "as"); (focus walk_at "hp"); walk_at "hp")
  | ((with_reducible apply TupK.exD); (focus walk_at "as"); (focus walk_at "hp"); walk_at "hp"))

local macro_rules | `(tactic| walk_at "sp") => `(tactic| first
  | ((with_reducible apply g_next'); (focus walk_at "hp"); (focus first | decide | omega); (focus first | decide | omega); intro _ _ _ _ _ _))

local macro_rules | `(tactic| walk_at "hp") => `(tactic| first
  | ((with_reducible apply CrsAt.ex); (focus walk_at "as"); walk_at "hp")
  | ((with_reducible apply CrsAt.into); walk_at "hp"))
local macro_rules | `(tactic| walk_at "g1") => `(tactic| first
  | ((with_reducible apply g_callO); (focus walk_at "hp"))
  | with_reducible apply g_tCallO
  | with_reducible apply g_kCallO)
local macro_rules | `(tactic| walk_at "sp") => `(tactic| first
  | ((with_reducible apply g_rdays); (focus walk_at "hp"))
  | ((with_reducible apply g_rstarts); (focus walk_at "hp"))
  | ((with_reducible apply g_rget); (focus walk_at "hp"); (focus with_reducible assumption); intro _ _ _ _)
  | ((with_reducible apply g_rcall); (focus walk_at "hp"); (focus with_reducible assumption); (focus omega); intro _ _)
  | ((with_reducible apply g_mkCourse); (focus walk_at "hp"); intro _ _ _ _ _ _ _ _ _)
  | ((with_reducible apply g_ncheckn); (focus omega); (focus omega)))

section
variable {P : Program} {w : World} {K : PySem.W.Frag} {mg : Str → Option Value} {base : Heap} {C CC : Addr}
/-- all but the dice and the tables stand -/
def Kept (d : Addr) (H H' : Hp) : Prop := ∀ b o, b ≠ d → H b = some o → (∀ ps, o ≠ .tbl ps) → H' b = some o
theorem Kept.of {d : Addr} {H H' : Hp} (e : Ex H H') : Kept d H H' := fun b o _ h _ => e b o h
theorem Kept.ofb {d : Addr} {H H' : Hp} (e : Exb d H H') : Kept d H H' := fun b o n h _ => e b o n h
theorem Kept.ofn {d : Addr} {H H' : Hp} (e : ExtN H H') : Kept d H H' := fun b o _ h n => e b o h n
theorem Kept.trans {d : Addr} {H H1 H2 : Hp} (e : Kept d H H1) (f : Kept d H1 H2) : Kept d H H2 := fun b o n h t => f b o n (e b o n h t) t
def sp_badRings (K : PySem.W.Frag) : Sp := fun vs H Q _ => ∃ (d a b : Addr) (ds hs : List Int), vs = [.ref d, .ref a, .ref b] ∧ DiceAt K H d ∧ SqT K H a (ds.map V.int) ∧ SqT K H b (hs.map V.int) ∧ RingOk ds hs ∧ Tabs (twoTs K "law" "_law_bad_rings") H ∧
  ∀ H', Kept d H H' → DiceAt K H' d → Tabs (twoTs K "law" "_law_bad_rings") H' → Q (.bl true) H'
theorem Kept.app {d l : Addr} {H H1 H2 H3 : Hp} (k : Kept d H H1) (n : H1 l = none) (e : Ex H1 H2) (e2 : Exb l H2 H3) : Kept d H H3 := fun b o nb h nt => by
  have h1 := k b o nb h nt
  exact e2 b o (fun z => by rw [z, n] at h1; cases h1) (e b o h1)
theorem Kept.t {H H' : Hp} {d a : Addr} {xs : List V} (e : Kept d H H') (D : DiceAt K H d) (h : SqT K H a xs) : SqT K H' a xs := by
  obtain ⟨ys, hl⟩ := D.lst
  rcases h with (h | ⟨o, h⟩) | h
  · exact .inl (.inl (e _ _ (ne_of h hl (by intro z; cases z)) h (by intro _ z; cases z)))
  · exact .inl (.inr ⟨o, e _ _ (ne_of h hl (by intro z; cases z)) h (by intro _ z; cases z)⟩)
  · exact .inr h
theorem RingIn.kept {H H' : Hp} {d r a b : Addr} {ds hs : List Int} (e : Kept d H H') (D : DiceAt K H d) (R : RingIn K C H r a b ds hs) : RingIn K C H' r a b ds hs := by
  obtain ⟨ys, hl⟩ := D.lst
  obtain ⟨dx, h⟩ := R.obj
  exact ⟨⟨dx, e _ _ (ne_of h hl (by intro z; cases z)) h (by intro _ z; cases z)⟩, e.t D R.sp, e.t D R.hp, R.ok⟩
theorem sp_badRings_len {vs : List V} {H : Hp} {Q : VK} {E : XK} (h : sp_badRings K vs H Q E) : vs.length = ["_law_d", "_law_days", "_law_starts"].length := by
  obtain ⟨d, a, b, ds, hs, rfl, _⟩ := h
  rfl
theorem Pl.exn {H H' : Hp} {v : V} (e : ExtN H H') (h : Pl K H v) : Pl K H' v := by
  cases h with
  | non => exact .non
  | bl b => exact .bl b
  | int i => exact .int i
  | str x => exact .str x
  | lst h => exact .lst (exn_lst e h)
  | tup h => exact .tup (e _ _ h fun _ z => by cases z)
theorem NoTup.exn {H H' : Hp} {v : V} (e : ExtN H H') (h : NoTup H v) : NoTup H' v := h.imp id fun h => h.imp id fun ⟨a, xs, b, c⟩ => ⟨a, xs, b, exn_lst e c⟩
/-- Ring(v, u) is told to be wrong at `part`, `i` -/
def RB (K : PySem.W.Frag) (H : Hp) (v u : V) (part : Str) (i : Int) : Prop :=
  (part = "days" ∧ i = 0 ∧ NoTup H v) ∨ (∃ a xs k, part = "days" ∧ i = ((k : Nat) : Int) ∧ v = .ref a ∧ SqT K H a xs ∧ xs.length ≤ 20 ∧ (∀ x ∈ xs, Pl K H x) ∧ badDays xs = some k) ∨
  (∃ a ds, part = "starts" ∧ v = .ref a ∧ SqT K H a (ds.map V.int) ∧ DaysOk ds ∧ ((NoTup H u ∧ i = 0) ∨ ∃ b xs, u = .ref b ∧ SqT K H b xs ∧ xs.length ≤ 20 ∧ (∀ x ∈ xs, Pl K H x) ∧ badStarts ds.length xs = some i))
theorem RB.ex {H H' : Hp} {v u : V} {part : Str} {i : Int} (e : Ex H H') (h : RB K H v u part i) : RB K H' v u part i := by
  rcases h with ⟨a, b, h⟩ | ⟨a, xs, k, a1, a2, a3, h1, h2, h3, h4⟩ | ⟨a, ds, a1, a2, h1, h2, h3⟩
  · exact .inl ⟨a, b, h.ex e⟩
  · exact .inr (.inl ⟨a, xs, k, a1, a2, a3, ex_t e h1, h2, fun x hx => (h3 x hx).ex e, h4⟩)
  · exact .inr (.inr ⟨a, ds, a1, a2, ex_t e h1, h2, h3.imp (fun h => ⟨h.1.ex e, h.2⟩) fun ⟨b, xs, b1, b2, b3, b4, b5⟩ => ⟨b, xs, b1, ex_t e b2, b3, fun x hx => (b4 x hx).ex e, b5⟩⟩)
theorem RB.exn {H H' : Hp} {v u : V} {part : Str} {i : Int} (e : ExtN H H') (h : RB K H v u part i) : RB K H' v u part i := by
  rcases h with ⟨a, b, h⟩ | ⟨a, xs, k, a1, a2, a3, h1, h2, h3, h4⟩ | ⟨a, ds, a1, a2, h1, h2, h3⟩
  · exact .inl ⟨a, b, h.exn e⟩
  · exact .inr (.inl ⟨a, xs, k, a1, a2, a3, exn_t e h1, h2, fun x hx => (h3 x hx).exn e, h4⟩)
  · exact .inr (.inr ⟨a, ds, a1, a2, exn_t e h1, h2, h3.imp (fun h => ⟨h.1.exn e, h.2⟩) fun ⟨b, xs, b1, b2, b3, b4, b5⟩ => ⟨b, xs, b1, exn_t e b2, b3, fun x hx => (b4 x hx).exn e, b5⟩⟩)
theorem firstB_ins {good : Nat → V → Bool} {xs ys : List V} {odd : V} {k : Nat} (hl : xs.length = k) (h : ∀ j y, xs[j]? = some y → good j y = true) (hb : good k odd = false) : firstB good ((xs ++ [odd]) ++ ys) = some k := by
  subst hl
  refine firstB_some (x := odd) ?_ (fun j y hj hy => ?_) hb
  · rw [List.append_assoc, List.getElem?_append_right (Nat.le_refl _), Nat.sub_self]
    rfl
  · rw [List.append_assoc, List.getElem?_append_left hj] at hy
    exact h j y hy
theorem badDays_ins {ds hs : List Int} (O : RingOk ds hs) {k : Nat} (hk : k ≤ ds.length) {odd : V} (bo : inB 1 30 odd = false) (ys : List V) : badDays ((((ds.take k).map V.int) ++ [odd]) ++ ys) = some k := by
  have o8 := O.eight
  unfold badDays
  rw [firstB_ins (k := k) (by rw [List.length_map, List.length_take]; omega) (fun j y hy => ?_) (by unfold dayB; rw [bo, Bool.and_false])]
  have hj := (List.getElem?_eq_some_iff.mp hy).1
  rw [List.length_map, List.length_take] at hj
  obtain ⟨x, hx, rfl⟩ := List.mem_map.mp (List.mem_of_getElem? hy)
  have := O.dd x (List.mem_of_mem_take hx)
  unfold dayB
  rw [decide_eq_true (by omega : j ≠ 8), Bool.true_and]
  show (decide (1 ≤ x) && decide (x ≤ 30)) = true
  rw [decide_eq_true this.1, decide_eq_true this.2]
  rfl
theorem badStarts_ins {ds hs : List Int} (O : RingOk ds hs) {k : Nat} (hk : k < hs.length) {odd : V} (bo : inB 0 12 odd = false) (ys : List V) : badStarts ds.length ((((hs.take k).map V.int) ++ [odd]) ++ ys) = some (k : Int) := by
  have ol := O.len
  unfold badStarts
  rw [firstB_ins (k := k) (by rw [List.length_map, List.length_take]; omega) (fun j y hy => ?_) (by unfold starB; rw [bo, Bool.and_false])]
  have hj := (List.getElem?_eq_some_iff.mp hy).1
  rw [List.length_map, List.length_take] at hj
  obtain ⟨x, hx, rfl⟩ := List.mem_map.mp (List.mem_of_getElem? hy)
  have := O.hh x (List.mem_of_mem_take hx)
  unfold starB
  rw [decide_eq_true (by omega : j ≠ ds.length), Bool.true_and]
  show (decide (0 ≤ x) && decide (x ≤ 12)) = true
  rw [decide_eq_true this.1, decide_eq_true this.2]
  rfl
theorem inB_int {lo hi i : Int} (h1 : lo ≤ i) (h2 : i ≤ hi) : inB lo hi (.int i) = true := by
  show (decide (lo ≤ i) && decide (i ≤ hi)) = true
  rw [decide_eq_true h1, decide_eq_true h2]
  rfl
theorem starB_int {n : Nat} {zs : List Int} (hz : ∀ z ∈ zs, 0 ≤ z ∧ z ≤ 12) {j : Nat} {y : V} (hj : j ≠ n) (hy : (zs.map V.int)[j]? = some y) : starB n j y = true := by
  obtain ⟨z, hm, rfl⟩ := List.mem_map.mp (List.mem_of_getElem? hy)
  have := hz z hm
  unfold starB
  rw [decide_eq_true hj, Bool.true_and]
  exact inB_int this.1 this.2
theorem intsOf_ints (zs : List Int) : intsOf (zs.map V.int) = zs := by
  induction zs with
  | nil => rfl
  | cons z zs ih =>
    show z :: intsOf (zs.map V.int) = _
    rw [ih]
theorem badStarts_short {n : Nat} {zs : List Int} (hz : ∀ z ∈ zs, 0 ≤ z ∧ z ≤ 12) (h : zs.length < n) : badStarts n (zs.map V.int) = some (zs.length : Int) := by
  unfold badStarts
  rw [firstB_none fun j y hj hy => starB_int hz (by rw [List.length_map] at hj; omega) hy]
  dsimp only
  rw [if_pos (by rw [List.length_map]; exact h), List.length_map]
theorem badStarts_sum {n : Nat} {zs : List Int} (hz : ∀ z ∈ zs, 0 ≤ z ∧ z ≤ 12) (h : zs.length = n) (hs : ¬ (1 ≤ zs.sum ∧ zs.sum ≤ 12)) : badStarts n (zs.map V.int) = some (-1) := by
  unfold badStarts
  rw [firstB_none fun j y hj hy => starB_int hz (by rw [List.length_map] at hj; omega) hy]
  dsimp only
  rw [if_neg (by rw [List.length_map]; omega), if_neg (by rw [intsOf_ints]; exact hs)]
theorem badStarts_long {n : Nat} {zs : List Int} (hz : ∀ z ∈ zs, 0 ≤ z ∧ z ≤ 12) (h : zs.length = n) (z : Int) : badStarts n ((zs ++ [z]).map V.int) = some (n : Int) := by
  unfold badStarts
  rw [firstB_some (i := n) (x := .int z) (by rw [List.getElem?_map, List.getElem?_append_right (by omega), h, Nat.sub_self]; rfl) (fun j y hj hy => starB_int (n := n) hz (by omega) (by rw [List.map_append, List.getElem?_append_left (by rw [List.length_map]; omega)] at hy; exact hy)) (by unfold starB; rw [decide_eq_false (by simp)]; rfl)]
def RowOk (K : PySem.W.Frag) (H : Hp) (v : V) : Prop := ∃ p one two part i, v = .ref p ∧ SqT K H p [one, two, .str part, .int i] ∧ (part = "days" ∨ part = "starts") ∧ RB K H one two part i
theorem RowOk.ex {H H' : Hp} {v : V} (e : Ex H H') (h : RowOk K H v) : RowOk K H' v := by
  obtain ⟨p, one, two, part, i, a1, a2, a3, a4⟩ := h
  exact ⟨p, one, two, part, i, a1, ex_t e a2, a3, a4.ex e⟩
theorem RowOk.exn {H H' : Hp} {v : V} (e : ExtN H H') (h : RowOk K H v) : RowOk K H' v := by
  obtain ⟨p, one, two, part, i, a1, a2, a3, a4⟩ := h
  exact ⟨p, one, two, part, i, a1, exn_t e a2, a3, a4.exn e⟩
theorem RowOk.bs {H : Hp} {p a b : Addr} {ds zs : List Int} {i : Int} (hp : H p = some (.tup [.ref a, .ref b, .str "starts", .int i])) (sa : SqT K H a (ds.map V.int)) (hd : DaysOk ds) (sb : SqT K H b (zs.map V.int)) (hl : zs.length ≤ 20) (hb : badStarts ds.length (zs.map V.int) = some i) : RowOk K H (.ref p) :=
  ⟨p, _, _, _, _, rfl, SqT.of hp, .inr rfl, .inr (.inr ⟨a, ds, rfl, rfl, sa, hd, .inr ⟨b, _, rfl, sb, by rw [List.length_map]; exact hl, fun x hx => by
    obtain ⟨z, _, rfl⟩ := List.mem_map.mp hx
    exact .int z, hb⟩⟩)⟩
theorem RowOk.bd {H : Hp} {p a : Addr} {u : V} {zs : List Int} {k : Nat} (hp : H p = some (.tup [.ref a, u, .str "days", .int (k : Int)])) (sa : SqT K H a (zs.map V.int)) (hl : zs.length ≤ 20) (hb : badDays (zs.map V.int) = some k) : RowOk K H (.ref p) :=
  ⟨p, _, _, _, _, rfl, SqT.of hp, .inl rfl, .inr (.inl ⟨a, _, k, rfl, rfl, rfl, sa, by rw [List.length_map]; exact hl, fun x hx => by
    obtain ⟨z, _, rfl⟩ := List.mem_map.mp hx
    exact .int z, hb⟩)⟩
theorem RowOk.nd {H : Hp} {p : Addr} {v u : V} (hp : H p = some (.tup [v, u, .str "days", .int 0])) (n : NoTup H v) : RowOk K H (.ref p) := ⟨p, _, _, _, _, rfl, SqT.of hp, .inl rfl, .inl ⟨rfl, rfl, n⟩⟩
theorem RowOk.ns {H : Hp} {p a : Addr} {u : V} {ds : List Int} (hp : H p = some (.tup [.ref a, u, .str "starts", .int 0])) (sa : SqT K H a (ds.map V.int)) (hd : DaysOk ds) (n : NoTup H u) : RowOk K H (.ref p) := ⟨p, _, _, _, _, rfl, SqT.of hp, .inr rfl, .inr (.inr ⟨a, ds, rfl, rfl, sa, hd, .inl ⟨n, rfl⟩⟩)⟩
theorem sum_ones (n : Nat) : (List.replicate n (1 : Int)).sum = (n : Int) := by
  induction n with
  | zero => rfl
  | succ n ih => rw [List.replicate_succ, List.sum_cons, ih]; omega
theorem flat_rep (n : Nat) (z : Int) : (List.replicate n [V.int z]).flatten = (List.replicate n z).map V.int := by
  induction n with
  | zero => rfl
  | succ n ih => rw [List.replicate_succ, List.replicate_succ, List.flatten_cons, ih]; rfl
section
variable {H H' : Hp} {l : Addr} {ys zs : List V} (e : Exb l H H') (hl : H l = some (.lst ys)) (hl' : H' l = some (.lst zs))
include e hl hl'
theorem lst_exb {a : Addr} {xs : List V} (h : H a = some (.lst xs)) : ∃ xs', H' a = some (.lst xs') := by
  by_cases z : a = l
  · rw [z]
    exact ⟨zs, hl'⟩
  · exact ⟨xs, e _ _ z h⟩
theorem Pl.exb {v : V} (h : Pl K H v) : Pl K H' v := by
  cases h with
  | non => exact .non
  | bl b => exact .bl b
  | int i => exact .int i
  | str x => exact .str x
  | lst h =>
    obtain ⟨_, h⟩ := lst_exb e hl hl' h
    exact .lst h
  | @tup a xs h => exact .tup (e a _ (fun z => by rw [z, hl] at h; cases h) h)
theorem NoTup.exb {v : V} (h : NoTup H v) : NoTup H' v := h.imp id fun h => h.imp id fun ⟨a, xs, b, c⟩ => let ⟨xs', c'⟩ := lst_exb e hl hl' c; ⟨a, xs', b, c'⟩
theorem RB.exb {v u : V} {part : Str} {i : Int} (h : RB K H v u part i) : RB K H' v u part i := by
  rcases h with ⟨a, b, h⟩ | ⟨a, xs, k, a1, a2, a3, h1, h2, h3, h4⟩ | ⟨a, ds, a1, a2, h1, h2, h3⟩
  · exact .inl ⟨a, b, NoTup.exb e hl hl' h⟩
  · exact .inr (.inl ⟨a, xs, k, a1, a2, a3, exb_t e hl h1, h2, fun x hx => Pl.exb e hl hl' (h3 x hx), h4⟩)
  · exact .inr (.inr ⟨a, ds, a1, a2, exb_t e hl h1, h2, h3.imp (fun h => ⟨NoTup.exb e hl hl' h.1, h.2⟩) fun ⟨b, xs, b1, b2, b3, b4, b5⟩ => ⟨b, xs, b1, exb_t e hl b2, b3, fun x hx => Pl.exb e hl hl' (b4 x hx), b5⟩⟩)
theorem RowOk.exb {v : V} (h : RowOk K H v) : RowOk K H' v := by
  obtain ⟨p, one, two, part, i, a1, a2, a3, a4⟩ := h
  exact ⟨p, one, two, part, i, a1, exb_t e hl a2, a3, RB.exb e hl hl' a4⟩
end
theorem g_TT {tl : XK → Hp → VK → Prop} {H : Hp} {Q : VK} (q : tl (ToldE K Q) H Q) : TToldP K tl H Q := q
theorem g_ringBad {H : Hp} {Q Q' : VK} {v u : V} {part : Str} {i : Int} (Er : ErrC K (He.ga K "InvalidRing") 0 ["part", "index"]) (B : RB K H v u part i) (q : ∀ p q' H2, Ex H H2 → H2 q' = some (.lst [.str part, .int i]) → H2 p = some (.tup [.str "error", .str "InvalidRing", .ref q']) → Q (.ref p) H2) : kMake C (sp_RingX K C) (ToldE K Q) Q' [v, u] H := by
  intro x dx nx ndx ne
  have e1 : Ex H (upd (upd H dx (.own x)) x (.ins C dx [])) := fun c o h => by
    rw [upd_ne (ne_of_none h nx), upd_ne (ne_of_none h ndx)]
    exact h
  have er : ErrR K (ToldE K Q) part i (upd (upd H dx (.own x)) x (.ins C dx [])) := fun H' e' dd nd => .inr (.inr ⟨_, dd, .int i, .str part, rfl, rfl, Er, upd_same, fun p q' H2 np e2 hq hp => q p q' H2 (e1.trans (e'.trans ((Ex.new nd).trans e2))) hq hp⟩)
  refine ⟨x, dx, v, u, rfl, upd_same, ?_⟩
  rcases B.ex e1 with ⟨rfl, rfl, h⟩ | ⟨a, xs, k, rfl, rfl, a3, h1, h2, h3, h4⟩ | ⟨a, ds, rfl, a2, h1, h2, h3⟩
  · exact .inl ⟨h, er⟩
  · exact .inr (.inl ⟨a, xs, k, a3, h1, h2, h3, h4, er⟩)
  · exact .inr (.inr ⟨a, ds, a2, h1, h2, h3.imp (fun ⟨h, e⟩ => by subst e; exact ⟨h, er⟩) fun ⟨b, xs, b1, b2, b3, b4, b5⟩ => ⟨b, xs, i, b1, b2, b3, b4, b5, er⟩⟩)
set_option maxHeartbeats 16000000 in
theorem ok_badRings (Z : Blt mg) (R : RingC K C) (ne2 : (He.cT K ("law", none)).2 ≠ (He.cT K ("_law_bad_rings", none)).2) (Err_InvalidRing : ErrC K (He.ga K "InvalidRing") 0 ["part", "index"]) (G__law_told : GFun K mg "_law_told" s__law_told) (T__law_told : GivesL P w K mg base N__law_told "_law_told" s__law_told "_law_work" 9 (TToldP K))
    (D__law_next : Df P w K mg base 1 "_law_next" ["_law_dice_here", "_law_many"] (sp_taken K)) (D__law_pick : Df P w K mg base 2 "_law_pick" ["_law_d", "_law_some"] (sp_pickV K)) (IX_Ring : If P w K mg base "Ring" C 4 ["self", "days", "starts"] (sp_RingX K C)) : BodyTd P w K mg base "_law_bad_rings" N__law_bad_rings s__law_bad_rings 12 (sp_badRings K) := by
  intro f A outer s H vs Q E TB hr h
  · obtain ⟨d, a, b, ds, hs, rfl, D0, sa, sb, O, T0, q⟩ := h
    refine ⟨_, PSs.nox (pss_cons (ps_set (i := 3) sc__law_bad_rings.nd rfl (by first | exact Or.inl rfl | exact Or.inr rfl) (pg D__law_next hr (pa_cons (pv 0) (pa_cons (pe_op op_add (pe_callB c_len (by rfl) Z.zlen PySem.boot_len (pa_cons (pv 1) pa_nil)) pe_int) pa_nil))))
      (pss_cons (ps_set (i := 4) sc__law_bad_rings.nd rfl (by first | exact Or.inl rfl | exact Or.inr rfl) (pg D__law_pick hr (pa_cons (pv 0) (pa_cons (pe_lst (pa_cons pe_int (pa_cons pe_int (pa_cons (pe_un un_neg pe_int) (pa_cons pe_non (pa_cons pe_bl (pa_cons pe_str (pa_cons (pe_tup (pa_cons pe_int pa_nil)) pa_nil)))))))) pa_nil))))
      (pss_cons (ps_set (i := 5) sc__law_bad_rings.nd rfl (by first | exact Or.inl rfl | exact Or.inr rfl) (pe_op op_catA (pe_op op_catA (pe_slice sl_tupA (pv 1) po_none (po_some (pv 3))) (pe_tup (pa_cons (pv 4) pa_nil))) (pe_slice sl_tupA (pv 1) (po_some (pv 3)) po_none)))
      (pss_cons (ps_if (pt_cmpR (op_neD hr.units) (pe_toldL0 (T := twoTs K "law" "_law_bad_rings") TB rfl two_m2 (two_u2 ne2) hr G__law_told sc__law_told b__law_told T__law_told rfl (.inl rfl) (lamS_of (N := N__law_bad_rings) (sc := defScope s__law_bad_rings) (by decide +kernel)) (lamB0 fun _ _ _ _ _ _ _ _ => rfl) (fun A outer s H E f c' hr => (pk IX_Ring hr (pa_cons (pv 5) (pa_cons pe_non pa_nil)) (passes_call (takes_of rfl rfl rfl rfl) (fun _ _ _ _ h => h))))) (pe_tup (pa_cons pe_str (pa_cons pe_str (pa_cons (pe_lst (pa_cons pe_str (pa_cons (pv 3) pa_nil))) pa_nil)))) (nomark _)) (pss_one (ps_ret pe_bl)) pss_nil)
      (pss_cons (ps_set (i := 4) sc__law_bad_rings.nd rfl (by first | exact Or.inl rfl | exact Or.inr rfl) (pg D__law_pick hr (pa_cons (pv 0) (pa_cons (pe_lst (pa_cons pe_int (pa_cons (pe_un un_neg pe_int) (pa_cons pe_non (pa_cons pe_bl (pa_cons pe_str pa_nil)))))) pa_nil))))
      (pss_cons (ps_set (i := 3) sc__law_bad_rings.nd rfl (by first | exact Or.inl rfl | exact Or.inr rfl) (pg D__law_next hr (pa_cons (pv 0) (pa_cons (pe_callB c_len (by rfl) Z.zlen PySem.boot_len (pa_cons (pv 2) pa_nil)) pa_nil))))
      (pss_cons (ps_set (i := 5) sc__law_bad_rings.nd rfl (by first | exact Or.inl rfl | exact Or.inr rfl) (pe_op op_catA (pe_op op_catA (pe_slice sl_tupA (pv 2) po_none (po_some (pv 3))) (pe_tup (pa_cons (pv 4) pa_nil))) (pe_slice sl_tupA (pv 2) (po_some (pe_op op_add (pv 3) pe_int)) po_none)))
      (pss_cons (ps_if (pt_cmpR (op_neD hr.units) (pe_toldL0 (T := twoTs K "law" "_law_bad_rings") TB rfl two_m2 (two_u2 ne2) hr G__law_told sc__law_told b__law_told T__law_told rfl (.inl rfl) (lamS_of (N := N__law_bad_rings) (sc := defScope s__law_bad_rings) (by decide +kernel)) (lamB0 fun _ _ _ _ _ _ _ _ => rfl) (fun A outer s H E f c' hr => (pk IX_Ring hr (pa_cons (pv 1) (pa_cons (pv 5) pa_nil)) (passes_call (takes_of rfl rfl rfl rfl) (fun _ _ _ _ h => h))))) (pe_tup (pa_cons pe_str (pa_cons pe_str (pa_cons (pe_lst (pa_cons pe_str (pa_cons (pv 3) pa_nil))) pa_nil)))) (nomark _)) (pss_one (ps_ret pe_bl)) pss_nil)
      (pss_cons (ps_par (i := 6) (j := 7) rfl sc__law_bad_rings.nd rfl rfl (by decide) rfl rfl (pa_cons (pe_op op_repU (pe_tup (pa_cons pe_int pa_nil)) (pe_callB c_len (by rfl) Z.zlen PySem.boot_len (pa_cons (pv 1) pa_nil))) (pa_cons (pe_callB c_len (by rfl) Z.zlen PySem.boot_len (pa_cons (pv 1) pa_nil)) pa_nil)) (by rfl))
      (pss_cons (ps_set (i := 8) sc__law_bad_rings.nd rfl (by first | exact Or.inl rfl | exact Or.inr rfl) (pe_lst (pa_cons (pe_tup (pa_cons (pv 1) (pa_cons (pv 6) (pa_cons pe_str (pa_cons (pe_un un_neg pe_int) pa_nil))))) (pa_cons (pe_tup (pa_cons (pv 1) (pa_cons (pe_op op_catA (pe_tup (pa_cons pe_int pa_nil)) (pe_op op_repU (pe_tup (pa_cons pe_int pa_nil)) (pe_op op_sub (pv 7) pe_int))) (pa_cons pe_str (pa_cons (pe_un un_neg pe_int) pa_nil))))) (pa_cons (pe_tup (pa_cons (pe_tup (pa_cons pe_int pa_nil)) (pa_cons (pe_tup (pa_cons pe_int pa_nil)) (pa_cons pe_str (pa_cons pe_int pa_nil))))) pa_nil)))))
      (pss_cons (ps_set (i := 8) sc__law_bad_rings.nd rfl (by first | exact Or.inl rfl | exact Or.inr rfl) (pe_op op_cat (pv 8) (pe_lst (pa_cons (pe_tup (pa_cons (pv 1) (pa_cons (pe_slice sl_tupA (pv 6) (po_some pe_int) po_none) (pa_cons pe_str (pa_cons (pe_op op_sub (pv 7) pe_int) pa_nil))))) (pa_cons (pe_tup (pa_cons (pv 1) (pa_cons (pe_op op_catA (pv 6) (pe_tup (pa_cons pe_int pa_nil))) (pa_cons pe_str (pa_cons (pv 7) pa_nil))))) (pa_cons (pe_tup (pa_cons (pe_tup pa_nil) (pa_cons (pe_tup pa_nil) (pa_cons pe_str (pa_cons pe_int pa_nil))))) pa_nil))))))
      (pss_cons (ps_set (i := 8) sc__law_bad_rings.nd rfl (by first | exact Or.inl rfl | exact Or.inr rfl) (pe_op op_cat (pv 8) (pe_lst (pa_cons (pe_tup (pa_cons (pe_callTy c_list_of (by rfl) Z.zlist (by decide +kernel) (pa_cons (pv 1) pa_nil)) (pa_cons (pv 2) (pa_cons pe_str (pa_cons pe_int pa_nil))))) (pa_cons (pe_tup (pa_cons (pv 1) (pa_cons (pe_callTy c_list_of (by rfl) Z.zlist (by decide +kernel) (pa_cons (pv 2) pa_nil)) (pa_cons pe_str (pa_cons pe_int pa_nil))))) (pa_cons (pe_tup (pa_cons pe_non (pa_cons pe_int (pa_cons pe_str (pa_cons pe_int pa_nil))))) pa_nil))))))
      (pss_cons (ps_expr (pe_bm PySem.F.plainAttrs_list PySem.F.slot_list_append PySem.F.type_list_append mt_append (pv 8) (pa_cons (pe_tup (pa_cons (pe_op op_repU (pe_tup (pa_cons pe_int pa_nil)) pe_int) (pa_cons (pe_op op_repU (pe_tup (pa_cons pe_int pa_nil)) pe_int) (pa_cons pe_str (pa_cons pe_int pa_nil))))) pa_nil)))
      (pss_cons (ps_for PassesOwn.never rfl (pi_list (pv 8)) (pg_tup (by rfl) (pgs_cons (pg_name (i := 9) sc__law_bad_rings.nd rfl (by first | exact Or.inl rfl | exact Or.inr rfl)) (pgs_cons (pg_name (i := 10) sc__law_bad_rings.nd rfl (by first | exact Or.inl rfl | exact Or.inr rfl)) (pgs_cons (pg_name (i := 11) sc__law_bad_rings.nd rfl (by first | exact Or.inl rfl | exact Or.inr rfl)) (pgs_cons (pg_name (i := 12) sc__law_bad_rings.nd rfl (by first | exact Or.inl rfl | exact Or.inr rfl)) pgs_nil))))) (pss_one (ps_if (pt_cmpR (op_neD hr.units) (pe_toldL0 (T := twoTs K "law" "_law_bad_rings") TB rfl two_m2 (two_u2 ne2) hr G__law_told sc__law_told b__law_told T__law_told rfl (.inl rfl) (lamS_of (N := N__law_bad_rings) (sc := defScope s__law_bad_rings) (by decide +kernel)) (lamB0 fun _ _ _ _ _ _ _ _ => rfl) (fun A outer s H E f c' hr => (pk IX_Ring hr (pa_cons (pv 9) (pa_cons (pv 10) pa_nil)) (passes_call (takes_of rfl rfl rfl rfl) (fun _ _ _ _ h => h))))) (pe_tup (pa_cons pe_str (pa_cons pe_str (pa_cons (pe_lst (pa_cons (pv 11) (pa_cons (pv 12) pa_nil))) pa_nil)))) (nomark _)) (pss_one (ps_ret pe_bl)) pss_nil)))
      (pss_one (ps_ret pe_bl)))))))))))))))), ?_⟩
    have o2 := O.two
    have o8 := O.eight
    walk_at "g0"
    walk_at "go"
    rename_i kk H1 k0 k1 e1 D1 p2 H2 n2 e2 h2 l3 H3 n3 e3 h3
    obtain ⟨k, rfl⟩ : ∃ k : Nat, kk = (k : Int) := ⟨kk.toNat, by omega⟩
    have hk : k ≤ ds.length := by omega
    have D3 := (D1.ex e2).ex e3
    have nl3 : d ≠ l3 := by
      obtain ⟨ys, hys⟩ := (D1.ex e2).lst
      exact ne_of_none hys n3
    refine g_pickV D3 nl3 h3 (List.cons_ne_nil _ _) (show 7 ≤ 100 by decide) fun odd H4 hodd e4 D4 => ?_
    have e14 : Exb d H H4 := (e1.trans (Exb.of (e2.trans e3))).trans e4
    have T4 := tabs_exD e14 D0 T0
    have sa4 := exb_tD e14 D0 sa
    have po : ∀ H', Ex H4 H' → Pl K H' odd := fun H' e => by
      have e24 : Exb d H2 H4 := (Exb.of e3).trans e4
      have np2 : p2 ≠ d := by
        obtain ⟨ys, hys⟩ := D1.lst
        exact Ne.symm (ne_of_none hys n2)
      have h2' := e _ _ (e24 _ _ np2 h2)
      simp only [List.mem_cons, List.not_mem_nil, or_false] at hodd
      rcases hodd with rfl | rfl | rfl | rfl | rfl | rfl | rfl
      · exact .int _
      · exact .int _
      · exact .int _
      · exact .non
      · exact .bl _
      · exact .str _
      · exact .tup h2'
    have bo : inB 1 30 odd = false := by
      simp only [List.mem_cons, List.not_mem_nil, or_false] at hodd
      rcases hodd with rfl | rfl | rfl | rfl | rfl | rfl | rfl <;> rfl
    walk_at "go"
    rename_i p5 H5 e5 s5 p6 H6 n6 e6 h6
    rw [cut_lo ds k hk] at s5
    refine g_catA (ex_t e6 s5) (SqT.of h6) (by refine sz1000 ?_; rw [List.length_map, List.length_take]; show _ + 1 ≤ 1000; omega) fun p7 H7 e7 s7 => ?_
    have sa7 := ex_t ((e5.trans e6).trans e7) sa4
    walk_at "go"
    rename_i p8 H8 e8 s8
    rw [cut_hi ds k hk] at s8
    refine g_catA (ex_t e8 s7) s8 (by refine sz1000 ?_; rw [List.length_append, List.length_map, List.length_take, List.length_map, List.length_drop]; show _ + 1 + _ ≤ 1000; omega) fun p9 H9 e9 s9 => ?_
    have e49 := (((e5.trans e6).trans e7).trans e8).trans e9
    have T9 := T4.ext e49
    have po9 := po _ e49
    have hd9 := badDays_ins O hk bo ((ds.drop k).map V.int)
    walk_at "go"
    refine g_toldL T9 fun H10 e10 T10 => ?_
    refine g_TT ?_
    walk_at "go"
    have sa10 := exn_t e10 (ex_t ((e7.trans e8).trans e9) (ex_t (e5.trans e6) sa4))
    have s10 := exn_t e10 s9
    refine g_ringBad Err_InvalidRing (part := "days") (i := (k : Int)) (.inr (.inl ⟨p9, _, k, rfl, rfl, rfl, s10, by rw [List.length_append, List.length_append, List.length_map, List.length_map, List.length_take, List.length_drop]; show _ + 1 + _ ≤ 20; omega, fun x hx => ?_, hd9⟩)) fun p11 q11 H11 e11 hq11 hp11 => ?_
    · have hi : ∀ x ∈ ds.map V.int, Pl K H10 x := fun x hx => by
        obtain ⟨i, _, rfl⟩ := List.mem_map.mp hx
        exact .int i
      rcases List.mem_append.mp hx with hx | hx
      · rcases List.mem_append.mp hx with hx | hx
        · rw [List.map_take] at hx
          exact hi x (List.mem_of_mem_take hx)
        · rw [List.mem_singleton.mp hx]
          exact po9.exn e10
      · rw [List.map_drop] at hx
        exact hi x (List.mem_of_mem_drop hx)
    · have sa11 := ex_t e11 sa10
      have T11 := T10.ext e11
      walk_at "go"
      rename_i l12 H12 n12 e12 h12 p13 H13 n13 e13 h13
      have e1113 := e12.trans e13
      refine g_neFS (nm := "InvalidRing") (x := "days") (i := (k : Int)) (by decide +kernel) (by decide +kernel) ((ErrF.mk hp11 hq11).ex e1113) (ErrF.mk h13 (e13 _ _ h12)) ?_
      have D13 := (((D4.ex e49).exn e10).ex e11).ex e1113
      have T13 := T11.ext e1113
      have sa13 := ex_t e1113 sa11
      have sb13 := ex_t e1113 (ex_t e11 (exn_t e10 (ex_t e49 (exb_tD e14 D0 sb))))
      have K13 : Kept d H H13 := (((Kept.ofb e14).trans (Kept.of e49)).trans (Kept.ofn e10)).trans (Kept.of (e11.trans e1113))
      clear D1 D3 D4 T4 T9 T10 T11 sa4 sa7 sa10 sa11 s5 s7 s8 s9 s10 e1 e2 e3 e4 e5 e6 e7 e8 e9 e10 e11 e12 e13 e14 e49 e1113 h2 h3 h6 h12 h13 n2 n3 n6 n12 n13 hp11 hq11 po po9 bo hd9 hodd nl3
      walk_at "go"
      rename_i l14 H14 n14 e14 h14
      have D14 := D13.ex e14
      have nl14 : d ≠ l14 := by
        obtain ⟨ys, hys⟩ := D13.lst
        exact ne_of_none hys n14
      refine g_pickV D14 nl14 h14 (List.cons_ne_nil _ _) (show 5 ≤ 100 by decide) fun od2 H15 hod2 e15 D15 => ?_
      have po2 : ∀ H', Pl K H' od2 := fun H' => by
        simp only [List.mem_cons, List.not_mem_nil, or_false] at hod2
        rcases hod2 with rfl | rfl | rfl | rfl | rfl
        · exact .int _
        · exact .int _
        · exact .non
        · exact .bl _
        · exact .str _
      have bo2 : inB 0 12 od2 = false := by
        simp only [List.mem_cons, List.not_mem_nil, or_false] at hod2
        rcases hod2 with rfl | rfl | rfl | rfl | rfl <;> rfl
      have ol := O.len
      have sb15 := exb_tD ((Exb.of e14).trans e15) D13 sb13
      walk_at "go"
      rename_i kk2 H16 y0 y1 e16 D16 p17 H17 e17 s17 p18 H18 n18 e18 h18
      obtain ⟨k2, rfl⟩ : ∃ k2 : Nat, kk2 = (k2 : Int) := ⟨kk2.toNat, by omega⟩
      have hk2 : k2 < hs.length := by omega
      rw [cut_lo hs k2 (by omega)] at s17
      have e1316 : Exb d H13 H16 := ((Exb.of e14).trans e15).trans e16
      have T16 := tabs_exD e1316 D13 T13
      have sa16 := exb_tD e1316 D13 sa13
      have sb16 := exb_tD e1316 D13 sb13
      have K16 : Kept d H H16 := K13.trans (Kept.ofb e1316)
      clear D13 T13 sa13 sb13 sb15 K13 e14 e15 e16 h14 n14 D14 nl14 D15 e1316
      refine g_catA (ex_t e18 s17) (SqT.of h18) (by refine sz1000 ?_; rw [List.length_map, List.length_take]; show _ + 1 ≤ 1000; omega) fun p19 H19 e19 s19 => ?_
      have sb19 := ex_t ((e17.trans e18).trans e19) sb16
      walk_at "go"
      rename_i p20 H20 e20 s20
      rw [show (k2 : Int) + 1 = ((k2 + 1 : Nat) : Int) by omega, cut_hi hs (k2 + 1) (by omega)] at s20
      refine g_catA (ex_t e20 s19) s20 (by refine sz1000 ?_; rw [List.length_append, List.length_map, List.length_take, List.length_map, List.length_drop]; show _ + 1 + _ ≤ 1000; omega) fun p21 H21 e21 s21 => ?_
      have e1621 := (((e17.trans e18).trans e19).trans e20).trans e21
      have T21 := T16.ext e1621
      have hb21 := badStarts_ins O hk2 bo2 ((hs.drop (k2 + 1)).map V.int)
      walk_at "go"
      refine g_toldL T21 fun H22 e22 T22 => ?_
      refine g_TT ?_
      walk_at "go"
      have sa22 := exn_t e22 (ex_t e1621 sa16)
      have sb22 := exn_t e22 (ex_t e1621 sb16)
      have s22 := exn_t e22 s21
      refine g_ringBad Err_InvalidRing (part := "starts") (i := (k2 : Int)) (.inr (.inr ⟨a, ds, rfl, rfl, sa22, O.days, .inr ⟨p21, _, rfl, s22, by rw [List.length_append, List.length_append, List.length_map, List.length_map, List.length_take, List.length_drop]; show _ + 1 + _ ≤ 20; omega, fun x hx => ?_, hb21⟩⟩)) fun p23 q23 H23 e23 hq23 hp23 => ?_
      · have hi : ∀ x ∈ hs.map V.int, Pl K H22 x := fun x hx => by
          obtain ⟨i, _, rfl⟩ := List.mem_map.mp hx
          exact .int i
        rcases List.mem_append.mp hx with hx | hx
        · rcases List.mem_append.mp hx with hx | hx
          · rw [List.map_take] at hx
            exact hi x (List.mem_of_mem_take hx)
          · rw [List.mem_singleton.mp hx]
            exact po2 _
        · rw [List.map_drop] at hx
          exact hi x (List.mem_of_mem_drop hx)
      walk_at "go"
      rename_i l24 H24 n24 e24 h24 p25 H25 n25 e25 h25
      have e2325 := e24.trans e25
      refine g_neFS (nm := "InvalidRing") (x := "starts") (i := (k2 : Int)) (by decide +kernel) (by decide +kernel) ((ErrF.mk hp23 hq23).ex e2325) (ErrF.mk h25 (e25 _ _ h24)) ?_
      have e2225 := e23.trans e2325
      have D25 := ((D16.ex e1621).exn e22).ex e2225
      have T25 := T22.ext e2225
      have sa25 := ex_t e2225 sa22
      have sb25 := ex_t e2225 sb22
      have K25 : Kept d H H25 := ((K16.trans (Kept.of e1621)).trans (Kept.ofn e22)).trans (Kept.of e2225)
      clear D16 T16 T21 T22 sa16 sb16 sa22 sb22 s22 s21 s20 s19 s17 sb19 h18 n18 h24 h25 n24 n25 hp23 hq23 e17 e18 e19 e20 e21 e22 e23 e24 e25 e1621 e2325 e2225 hb21 K16 hod2 po2 bo2
      walk_at "go"
      rename_i p26 H26 n26 e26 h26
      refine g_repU (SqT.of h26) (List.cons_ne_nil _ _) (by decide) (k := ds.length) (by omega) (by omega) fun p27 H27 e27 s27 => ?_
      rw [flat_rep] at s27
      have e2527 := e26.trans e27
      have sa27 := ex_t e2527 sa25
      have sb27 := ex_t e2527 sb25
      walk_at "go"
      rename_i p28 H28 n28 e28 h28 p29 H29 n29 e29 h29 p30 H30 n30 e30 h30
      have z012 : ∀ (n : Nat), ∀ z ∈ List.replicate n (0 : Int), 0 ≤ z ∧ z ≤ 12 := fun n z hz => by
        rw [List.eq_of_mem_replicate hz]
        decide
      have r1 : RowOk K H28 (.ref p28) := RowOk.bs h28 (ex_t e28 sa27) O.days (ex_t e28 s27) (by rw [List.length_replicate]; omega) (badStarts_sum (z012 _) (List.length_replicate ..) (by simp))
      rw [show ((ds.length : Int) - 1) = ((ds.length - 1 : Nat) : Int) by omega]
      refine g_repU (SqT.of h30) (List.cons_ne_nil _ _) (by decide) (k := ds.length - 1) (by omega) (by omega) fun p31 H31 e31 s31 => ?_
      rw [flat_rep] at s31
      refine g_catA (ex_t (e30.trans e31) (SqT.of h29)) s31 (by refine sz1000 ?_; rw [List.length_map, List.length_replicate]; show 1 + _ ≤ 1000; omega) fun p32 H32 e32 s32 => ?_
      have s32' : SqT K H32 p32 (((12 : Int) :: List.replicate (ds.length - 1) 1).map V.int) := s32
      have e2832 := ((e29.trans e30).trans e31).trans e32
      have sa32 := ex_t (e28.trans e2832) sa27
      have r1' := r1.ex e2832
      have z32 := ex_t (e28.trans e2832) s27
      clear e29 e30 e31 e32 n26 n28 n29 n30 h26 h28 h29 h30 s31 r1 s27 sa25 e26 e27
      walk_at "go"
      rename_i p33 H33 n33 e33 h33 p34 H34 n34 e34 h34 p35 H35 n35 e35 h35 p36 H36 n36 e36 h36 l37 H37 n37 e37 h37 p38 H38 e38 s38 p39 H39 n39 e39 h39 p40 H40 n40 e40 h40
      have r2 : RowOk K H33 (.ref p33) := RowOk.bs h33 (ex_t e33 sa32) O.days (ex_t e33 s32') (by rw [List.length_cons, List.length_replicate]; omega) (badStarts_sum (fun z hz => by
        rcases List.mem_cons.mp hz with rfl | hz
        · decide
        · rw [List.eq_of_mem_replicate hz]
          decide) (by rw [List.length_cons, List.length_replicate]; omega) (by rw [List.sum_cons, sum_ones]; omega))
      have r3 : RowOk K H36 (.ref p36) := RowOk.bd (zs := [3]) (k := 1) h36 (ex_t (e35.trans e36) (SqT.of h34)) (by decide) (by decide)
      rw [show (1 : Int) = ((1 : Nat) : Int) from rfl, cut_hi (List.replicate ds.length 0) 1 (by rw [List.length_replicate]; omega), List.drop_replicate] at s38
      rw [show (ds.length : Int) - 1 = ((ds.length - 1 : Nat) : Int) by omega] at h39
      have e3238 := ((((e33.trans e34).trans e35).trans e36).trans e37).trans e38
      have e3839 := e38.trans e39
      have r4 : RowOk K H39 (.ref p39) := RowOk.bs h39 (ex_t (e3238.trans e39) sa32) O.days (ex_t e39 s38) (by rw [List.length_replicate]; omega) (by
        have := badStarts_short (n := ds.length) (z012 (ds.length - 1)) (by rw [List.length_replicate]; omega)
        rw [List.length_replicate] at this
        exact this)
      refine g_catA (ex_t ((e3238.trans e39).trans e40) z32) (SqT.of h40) (by refine sz1000 ?_; rw [List.length_map, List.length_replicate]; show _ + 1 ≤ 1000; omega) fun p41 H41 e41 s41 => ?_
      have s41' : SqT K H41 p41 ((List.replicate ds.length (0 : Int) ++ [1]).map V.int) := by
        rw [List.map_append]
        exact s41
      have e3941 := e40.trans e41
      have e3741 := e3839.trans e3941
      have r1a := r1'.ex (e3238.trans (e39.trans e3941))
      have r2a := r2.ex ((((e34.trans e35).trans e36).trans e37).trans e3741)
      have r3a := r3.ex (e37.trans e3741)
      have r4a := r4.ex e3941
      have sa41 := ex_t (e3238.trans (e39.trans e3941)) sa32
      have sb41 := ex_t ((e28.trans e2832).trans (e3238.trans (e39.trans e3941))) sb27
      have e3839x := e39
      have h37a := e3741 _ _ h37
      clear r1' r2 r3 r4 sa32 s32 s32' z32 s38 s41 e33 e34 e35 e36 e37 e38 e39 e40 e41 n33 n34 n35 n36 n37 n39 n40 h33 h34 h35 h36 h37 h39 h40
      walk_at "go"
      rename_i p42 H42 n42 e42 h42 p43 H43 n43 e43 h43 p44 H44 n44 e44 h44 p45 H45 n45 e45 h45 l46 H46 n46 e46 h46 l47 H47 n47 e47 h47 l48 H48 n48 e48 h48 p49 H49 n49 e49 h49 l50 H50 n50 e50 h50 p51 H51 n51 e51 h51 p52 H52 n52 e52 h52 l53 H53 n53 e53 h53 l54 H54 n54 e54 h54
      have e4554 := ((((((((e46.trans e47).trans e48).trans e49).trans e50).trans e51).trans e52).trans e53).trans e54)
      have e4254 := ((e43.trans e44).trans e45).trans e4554
      have r5 : RowOk K H54 (.ref p42) := (RowOk.bs h42 (ex_t e42 sa41) O.days (ex_t e42 s41') (by rw [List.length_append, List.length_replicate]; show _ + 1 ≤ 20; omega) (badStarts_long (z012 ds.length) (List.length_replicate ..) 1)).ex e4254
      have r6 : RowOk K H54 (.ref p45) := (RowOk.bd (zs := []) (k := 0) h45 (ex_t (e44.trans e45) (SqT.of h43)) (by decide) (by decide)).ex e4554
      have r7 : RowOk K H54 (.ref p49) := (RowOk.nd h49 (.inr (.inr ⟨_, _, rfl, e49 _ _ h48⟩))).ex ((((e50.trans e51).trans e52).trans e53).trans e54)
      have r8 : RowOk K H54 (.ref p51) := (RowOk.ns h51 (ex_t (e42.trans ((e43.trans e44).trans (e45.trans (((((e46.trans e47).trans e48).trans e49).trans e50).trans e51)))) sa41) O.days (.inr (.inr ⟨_, _, rfl, e51 _ _ h50⟩))).ex ((e52.trans e53).trans e54)
      have r9 : RowOk K H54 (.ref p52) := (RowOk.nd h52 (.inl rfl)).ex (e53.trans e54)
      have e4154 := e42.trans e4254
      have r1b := r1a.ex e4154
      have r2b := r2a.ex e4154
      have r3b := r3a.ex e4154
      have r4b := r4a.ex e4154
      have e2541 := e2527.trans ((e28.trans e2832).trans (e3238.trans (e3839x.trans e3941)))
      have K53 : Kept d H H53 := K25.trans (Kept.of (e2541.trans (e42.trans ((e43.trans e44).trans (e45.trans (((((((e46.trans e47).trans e48).trans e49).trans e50).trans e51).trans e52).trans e53))))))
      have D54 := D25.ex (e2541.trans e4154)
      have T54 := T25.ext (e2541.trans e4154)
      clear r1a r2a r3a r4a
      have nl : d ≠ l54 := by
        obtain ⟨ys, hys⟩ := (D25.ex (e2541.trans (e42.trans ((e43.trans e44).trans (e45.trans (((((((e46.trans e47).trans e48).trans e49).trans e50).trans e51).trans e52).trans e53)))))).lst
        exact ne_of_none hys n54
      refine g_kBM_list (SqL.of h54) ?_
      clear e3839x e3839 e3741 e3941 e3238 e2832 e28 e2527 e2541 sa41 sb41 s41' sa27 sb27 h37a D25 T25 K25 n42 n43 n44 n45 n46 n47 n48 n49 n50 n51 n52 n53 h42 h43 h44 h45 h46 h47 h48 h49 h50 h51 h52 h53 e42 e43 e44 e45 e46 e47 e48 e49 e50 e51 e52 e53 e4554 e4254 e4154 z012
      walk_at "go"
      rename_i p55 H55 n55 e55 h55
      refine g_repU (SqT.of h55) (List.cons_ne_nil _ _) (by decide) (k := 9) (by decide) (by decide) fun p56 H56 e56 s56 => ?_
      rw [flat_rep] at s56
      walk_at "go"
      rename_i p57 H57 n57 e57 h57
      refine g_repU (SqT.of h57) (List.cons_ne_nil _ _) (by decide) (k := 9) (by decide) (by decide) fun p58 H58 e58 s58 => ?_
      walk_at "go"
      rename_i p59 H59 n59 e59 h59 H60 e60 h60
      have e5459 := (((e55.trans e56).trans e57).trans e58).trans e59
      have r10 : RowOk K H59 (.ref p59) := RowOk.bd (zs := List.replicate 9 1) (k := 8) h59 (ex_t ((e57.trans e58).trans e59) s56) (by decide) (by decide)
      have h54b := e5459 _ _ h54
      have K60 := K53.app n54 (e54.trans e5459) e60
      have D60 := (D54.ex e5459).exb e60 nl h54b
      have T60 := tabs_exb e60 h54b (T54.ext e5459)
      have hR60 : ∀ v ∈ [V.ref p28, V.ref p33, V.ref p36] ++ [V.ref p39, V.ref p42, V.ref p45] ++ [V.ref p49, V.ref p51, V.ref p52] ++ [V.ref p59], RowOk K H60 v := fun v hv => by
        have go : ∀ {v : V}, RowOk K H54 v → RowOk K H60 v := fun r => RowOk.exb e60 h54b h60 (r.ex e5459)
        simp only [List.mem_append, List.mem_cons, List.not_mem_nil, or_false] at hv
        rcases hv with (((rfl | rfl | rfl) | (rfl | rfl | rfl)) | (rfl | rfl | rfl)) | rfl
        · exact go r1b
        · exact go r2b
        · exact go r3b
        · exact go r4b
        · exact go r5
        · exact go r6
        · exact go r7
        · exact go r8
        · exact go r9
        · exact RowOk.exb e60 h54b h60 r10
      clear r1b r2b r3b r4b r5 r6 r7 r8 r9 r10 e54 e55 e56 e57 e58 e59 e60 e5459 h55 h57 h59 s56 s58 n54 n55 n57 n59 h54 h54b K53 D54 T54 nl
      generalize [V.ref p28, V.ref p33, V.ref p36] ++ [V.ref p39, V.ref p42, V.ref p45] ++ [V.ref p49, V.ref p51, V.ref p52] ++ [V.ref p59] = rows at h60 hR60
      refine g_kForL (SqL.of h60) (fun i σ H' => ∃ v9 v10 v11 v12 : Option V, σ = [some (.ref d), some (.ref a), some (.ref b), some (.int (k2 : Int)), some od2, some (.ref p21), some (.ref p27), some (.int (ds.length : Int)), some (.ref l54), v9, v10, v11, v12] ∧ DiceAt K H' d ∧ Tabs (twoTs K "law" "_law_bad_rings") H' ∧ H' l54 = some (.lst rows) ∧ (∀ v ∈ rows, RowOk K H' v) ∧ Kept d H H')
        ⟨none, none, none, none, rfl, D60, T60, h60, hR60, K60⟩ (fun i σ H' _ hP => by
          obtain ⟨_, _, _, _, _, _, _, y, _⟩ := hP
          exact SqL.of y) ?_ ?_
      · rintro i x σ H61 hx ⟨v9, v10, v11, v12, rfl, D61, T61, hl61, hR61, K61⟩
        obtain ⟨p, one, two, part, ix, rfl, sp61, hpart, rb61⟩ := hR61 x (List.mem_of_getElem? hx)
        walk_at "go"
        refine g_toldL T61 fun H62 e62 T62 => ?_
        refine g_TT ?_
        walk_at "go"
        refine g_ringBad Err_InvalidRing (rb61.exn e62) fun p63 q63 H63 e63 hq63 hp63 => ?_
        walk_at "go"
        rename_i l64 H64 n64 e64 h64 p65 H65 n65 e65 h65
        have e6365 := e64.trans e65
        refine g_neFS (nm := "InvalidRing") (x := part) (i := ix) (by decide +kernel) (by rcases hpart with rfl | rfl <;> decide +kernel) ((ErrF.mk hp63 hq63).ex e6365) (ErrF.mk h65 (e65 _ _ h64)) ?_
        have e6265 := e63.trans e6365
        walk_at "go"
        exact ⟨_, _, _, _, rfl, (D61.exn e62).ex e6265, T62.ext e6265, e6265 _ _ (exn_lst e62 hl61), fun v hv => ((hR61 v hv).exn e62).ex e6265, (K61.trans (Kept.ofn e62)).trans (Kept.of e6265)⟩
      · rintro σ H61 ⟨v9, v10, v11, v12, rfl, D61, T61, hl61, hR61, K61⟩
        walk_at "go"
        exact q _ K61 D61 T61
end
end G48

namespace G48
open PySem PySem.Spec PyProof.Rows L2 Evl
abbrev N_Ring_single : List Str := ["cls", "days"]
theorem sc_Ring_single : FnScope N_Ring_single ["cls", "days"] (defScope s_Ring_single) := ⟨rfl, rfl, rfl, by decide +kernel, rfl, by decide +kernel, by decide +kernel⟩
theorem bS_Ring_single : BindS "Ring.single" "single" s_Ring_single "cls" "days" := fun kV doc pm an cdv ct => StX.bind_star1 (B := fun us => bindArgs (PySem.W.fnOf "single" "Ring.single" (defArgs s_Ring_single) (defBody s_Ring_single) (defScope s_Ring_single) .none kV doc pm an cdv ct) ⟨us, []⟩) (fun _ => rfl) (fun _ _ _ => rfl)
end G48
/-! Ring.single; ring == a tuple -/
namespace G48
open PySem PySem.Spec PyProof.Rows L2 Evl
/-! the steps -/
local macro_rules | `(tactic| walk_at "as") => `(tactic| with_reducible assumption)
local macro_rules | `(tactic| walk_at "hp") => `(tactic| first
  | with_reducible assumption
  | ((with_reducible apply SqT.of); walk_at "as")
  | ((with_reducible apply SqL.of); walk_at "as")
  | ((with_reducible apply ex_at); (focus walk_at "as"); walk_at "hp")
  | ((with_reducible apply ex_t); (focus walk_at "as"); walk_at "hp")
  | ((with_reducible apply ex_l); (focus walk_at "as"); walk_at "hp")
  | ((with_reducible apply exb_ins); (focus walk_at "as"); (focus walk_at "hp"); walk_at "hp")
  | ((with_reducible apply exb_t); (focus walk_at "as"); (focus walk_at "hp"); walk_at "hp")
  | ((with_reducible apply exb_at); (focus walk_at "as"); (focus walk_at "ne"); walk_at "hp")
  | ((with_reducible apply exb_l); (focus walk_at "as"); (focus walk_at "ne"); walk_at "hp"))
local macro_rules | `(tactic| walk_at "ne") => `(tactic| first
  | with_reducible assumption
  | exact Ne.symm (by with_reducible assumption)
  | exact ne_of_none (by with_reducible assumption) (by with_reducible assumption)
  | exact Ne.symm (ne_of_none (by with_reducible assumption) (by with_reducible assumption)))
local macro_rules | `(tactic| walk_at "tr") => `(tactic| first
  | rfl
  | with_reducible assumption
  | exact decide_eq_true (by first | with_reducible assumption | omega)
  | exact decide_eq_false (by first | with_reducible assumption | omega)
  | (rw [Bool.not_eq_true']; exact decide_eq_false (by first | with_reducible assumption | omega))
  | (rw [Bool.not_eq_false']; exact decide_eq_true (by first | with_reducible assumption | omega)))
local macro_rules | `(tactic| walk_at "nn") => `(tactic| first | with_reducible assumption | (exact List.cons_ne_nil _ _))
local macro_rules | `(tactic| walk_at "sz") => `(tactic| first | (exact sz1000 (Nat.le_of_ble_eq_true rfl)) | (refine sz1000 ?_; simp only [List.length_map, List.length_cons, List.length_nil, List.length_append]; omega) | with_reducible assumption)
local macro_rules | `(tactic| walk_at "sl") => `(tactic| first | with_reducible assumption | (refine lt1000 ?_; simp only [List.length_map, List.length_cons, List.length_nil, List.length_append]; omega) | (refine lt1000 ?_; omega))
local macro_rules | `(tactic| walk_at "ix") => `(tactic| first | rfl | with_reducible assumption)
local macro_rules | `(tactic| walk_at "rg") => `(tactic| exact RgOk.of_le (by omega) (by omega) (by omega) (by omega))
local macro_rules | `(tactic| walk_at "sp") => `(tactic| fail "sp")
local macro_rules | `(tactic| walk_at "cl") => `(tactic| with_reducible assumption)
local macro_rules | `(tactic| walk_at "lk") => `(tactic| with_reducible assumption)
local macro_rules | `(tactic| walk_at "it") => `(tactic| first | rfl | with_reducible assumption | exact atI_nat (by with_reducible assumption))
local macro_rules | `(tactic| walk_at "g1") => `(tactic| first
  | (with_reducible apply g_var); (focus rfl)
  | with_reducible apply g_c
  | with_reducible apply g_seq
  | with_reducible apply g_asg
  | with_reducible apply gg_name
  | with_reducible apply g_op
  | with_reducible apply g_cons
  | with_reducible apply g_nil
  | with_reducible apply g_cb
  | with_reducible apply g_fld
  | ((with_reducible apply g_kFld); (focus walk_at "hp"); (focus walk_at "cl"); (focus walk_at "cl"); (focus walk_at "lk"))
  | with_reducible apply g_call
  | walk_at "sp"
  | with_reducible apply g_ret
  | with_reducible apply g_drop
  | with_reducible apply g_test
  | with_reducible apply g_B
  | with_reducible apply g_kTest
  | with_reducible apply g_ifS
  | with_reducible apply g_kIfST
  | with_reducible apply g_kIfSF
  | with_reducible apply g_add
  | with_reducible apply g_sub
  | with_reducible apply g_lt
  | with_reducible apply g_le
  | with_reducible apply g_gt
  | with_reducible apply g_ge
  | with_reducible apply g_eqI
  | with_reducible apply g_neI
  | ((with_reducible apply g_mod); (focus first | decide | omega))
  | ((with_reducible apply g_mul); (focus first | (left; constructor <;> omega) | (right; constructor <;> omega)))
  | ((with_reducible apply g_fdiv); (focus (constructor <;> omega)))
  | ((with_reducible apply g_ixT); (focus walk_at "hp"); (focus walk_at "it"))
  | ((with_reducible apply g_ixL); (focus walk_at "hp"); (focus walk_at "it"))
  | with_reducible apply g_and
  | with_reducible apply g_or
  | with_reducible apply g_not
  | with_reducible apply g_kNotT
  | with_reducible apply g_kNotF
  | with_reducible apply g_if
  | with_reducible apply g_kAndT
  | with_reducible apply g_kAndF
  | with_reducible apply g_kOrT
  | with_reducible apply g_kOrF
  | with_reducible apply g_kIfT
  | with_reducible apply g_kIfF
  | with_reducible apply g_next
  | with_reducible apply g_andV
  | with_reducible apply g_orV
  | with_reducible apply g_notV
  | with_reducible apply g_kNotV
  | with_reducible apply g_kAndVT
  | with_reducible apply g_kAndVF
  | with_reducible apply g_chain
  | with_reducible apply g_kChainT
  | with_reducible apply g_kChainF
  | with_reducible apply g_tup
  | with_reducible apply g_lst
  | ((with_reducible apply g_kT); (focus walk_at "sz"); intro _ _ _ _ _)
  | ((with_reducible apply g_kL); (focus walk_at "sz"); intro _ _ _ _ _)
  | with_reducible apply g_un
  | with_reducible apply g_neg
  | with_reducible apply g_meth
  | ((with_reducible apply g_kMeth); (focus walk_at "hp"); (focus walk_at "lk"))
  | with_reducible apply g_prop
  | ((with_reducible apply g_kProp); (focus walk_at "hp"))
  | with_reducible apply g_make
  | with_reducible apply g_par
  | with_reducible apply g_kPar
  | ((with_reducible apply g_lenLM); (focus walk_at "hp"))
  | ((with_reducible apply g_lenTM); (focus walk_at "hp"))
  | ((with_reducible apply g_lenL); (focus walk_at "hp"))
  | ((with_reducible apply g_lenT); (focus walk_at "hp"))
  | with_reducible apply g_int1
  | with_reducible apply g_max2
  | with_reducible apply g_min2
  | ((with_reducible apply g_listL); (focus walk_at "hp"); intro _ _ _ _ _)
  | ((with_reducible apply g_listT); (focus walk_at "hp"); intro _ _ _ _ _)
  | ((with_reducible apply g_tupL); (focus walk_at "hp"); intro _ _ _ _ _)
  | ((with_reducible apply g_sum); (focus walk_at "hp"))
  | with_reducible apply g_sfld
  | with_reducible apply g_sl
  | with_reducible apply g_nopart
  | with_reducible apply g_part
  | with_reducible apply g_kPart
  | with_reducible apply g_lstRg
  | with_reducible apply g_rg1
  | with_reducible apply g_kRg1
  | with_reducible apply g_bm
  | with_reducible apply gg_sub
  | ((with_reducible apply gg_tup); (focus walk_at "hp"); (focus rfl))
  | with_reducible apply gg_cons
  | with_reducible apply gg_nil
  | with_reducible apply g_forL
  | with_reducible apply g_forT
  | with_reducible apply g_forR1
  | with_reducible apply g_forR2
  | with_reducible apply g_forE
  | with_reducible apply g_forEL
  | ((with_reducible apply g_maxT); (focus walk_at "hp"); (focus walk_at "nn"))
  | ((with_reducible apply g_maxL); (focus walk_at "hp"); (focus walk_at "nn"))
  | ((with_reducible apply g_catA); (focus walk_at "hp"); (focus walk_at "hp"); (focus walk_at "sz"); intro _ _ _ _)
  | ((with_reducible apply g_slA); (focus walk_at "hp"); intro _ _ _ _)
  | ((with_reducible apply g_tupD); (focus walk_at "hp"); intro _ _ _ _ _)
  | ((with_reducible apply g_setL); (focus walk_at "hp"); (focus walk_at "ix"); intro _ _ _)
  | ((with_reducible apply g_append); (focus walk_at "hp"); (focus walk_at "sl"); intro _ _ _)
  | ((with_reducible apply g_aug); (focus rfl))
  | with_reducible apply g_ipI
  | with_reducible apply g_retN
  | with_reducible apply g_lcR1
  | with_reducible apply g_lcR2
  | with_reducible apply g_lcL
  | with_reducible apply g_lcU
  | with_reducible apply g_lcN
  | ((with_reducible apply g_kLcG); (focus rfl))
  | with_reducible apply g_yes
  | with_reducible apply g_kLcTT
  | with_reducible apply g_kLcTF
  | ((with_reducible apply g_kLcE); (focus walk_at "hp"); (focus walk_at "sl"); intro _ _ _)
  | ((with_reducible apply g_pow); (focus (constructor <;> (try constructor) <;> decide)))
  | ((with_reducible apply g_kLRg); (focus walk_at "rg"); intro _ _ _ _ _)
  | ((with_reducible apply g_cat); (focus walk_at "hp"); (focus walk_at "hp"); (focus walk_at "sz"); intro _ _ _ _ _)
  | ((with_reducible apply g_slL); (focus walk_at "hp"); intro _ _ _ _ _)
  | with_reducible apply g_bmT
  | with_reducible apply g_break
  | with_reducible apply g_cont)
local macro_rules | `(tactic| walk_at "g0") => `(tactic| try dsimp only [L2.cxOf, L2.Cx.nox, L2.Cx.wish])
local macro_rules | `(tactic| walk_at "yn") => `(tactic| first
  | ((with_reducible apply y_kIfS); (focus walk_at "tr"))
  | ((with_reducible apply n_kIfS); (focus walk_at "tr"))
  | ((with_reducible apply y_kOr); (focus walk_at "tr"))
  | ((with_reducible apply n_kOr); (focus walk_at "tr"))
  | ((with_reducible apply y_kAnd); (focus walk_at "tr"))
  | ((with_reducible apply n_kAnd); (focus walk_at "tr"))
  | ((with_reducible apply y_kNot); (focus walk_at "tr"))
  | ((with_reducible apply n_kNot); (focus walk_at "tr"))
  | ((with_reducible apply y_kIf); (focus walk_at "tr"))
  | ((with_reducible apply n_kIf); (focus walk_at "tr"))
  | ((with_reducible apply y_kAndV); (focus walk_at "tr"))
  | ((with_reducible apply n_kAndV); (focus walk_at "tr"))
  | ((with_reducible apply y_kOrV); (focus walk_at "tr"))
  | ((with_reducible apply n_kOrV); (focus walk_at "tr"))
  | ((with_reducible apply y_kChain); (focus walk_at "tr"))
  | ((with_reducible apply n_kChain); (focus walk_at "tr"))
  | ((with_reducible apply y_kLcT); (focus walk_at "tr"))
  | ((with_reducible apply n_kLcT); (focus walk_at "tr"))
  | ((with_reducible apply y_kWh); (focus walk_at "tr"))
  | ((with_reducible apply n_kWh); (focus walk_at "tr")))
local macro_rules | `(tactic| walk_at "go") => `(tactic| repeat (first | walk_at "g1" | walk_at "yn"))
local macro_rules | `(tactic| walk_at "hp") => `(tactic| first
  | ((with_reducible apply RingIn.ex); (focus walk_at "as"); walk_at "hp")
  | ((with_reducible apply RingAt.ex); (focus walk_at "as"); walk_at "hp")
  | ((with_reducible apply RingIn.exb); (focus walk_at "as"); (focus walk_at "hp"); walk_at "hp")
  | ((with_reducible apply RingAt.exb); (focus walk_at "as"); (focus walk_at "hp"); walk_at "hp")
  | ((with_reducible apply TupK.ex); (focus walk_at "as"); walk_at "hp")
  | ((with_reducible apply TupK.exb); (focus walk_at "as"); (focus walk_at "hp"); walk_at "hp"))
local macro_rules | `(tactic| walk_at "lk") => `(tactic| first | with_reducible exact rf_spans | with_reducible exact rf_heaps | with_reducible exact rf_total | with_reducible exact rf_nr | with_reducible exact rf_wd)
local macro_rules | `(tactic| walk_at "sp") => `(tactic| first
  | ((with_reducible apply g_isiTup); (focus walk_at "hp"))
  | ((with_reducible apply g_isiLst); (focus walk_at "hp"))
  | ((with_reducible apply g_isint); (focus omega); (focus omega))
  | ((with_reducible apply g_checkn); (focus omega); (focus omega))
  | ((with_reducible apply g_rbooks); (focus walk_at "hp"))
  | ((with_reducible apply g_rpace); (focus walk_at "hp"); intro _ _ _ _)
  | ((with_reducible apply g_rlen); (focus walk_at "hp"))
  | ((with_reducible apply g_rneed); (focus walk_at "hp"); (focus omega))
  | ((with_reducible apply g_rneedM); (focus walk_at "hp"))
  | ((with_reducible apply g_rwithM); (focus walk_at "hp"))
  | ((with_reducible apply g_rspans); (focus walk_at "hp"); (focus with_reducible assumption))
  | ((with_reducible apply g_rheaps); (focus walk_at "hp"); (focus with_reducible assumption))
  | ((with_reducible apply g_rtotal); (focus walk_at "hp"); (focus with_reducible assumption)))

local macro_rules | `(tactic| walk_at "hp") => `(tactic| first
  | ((with_reducible apply CrsIn.ex); (focus walk_at "as"); walk_at "hp")
  | ((with_reducible apply RowsAt.ex); (focus walk_at "as"); walk_at "hp"))
local macro_rules | `(tactic| walk_at "sp") => `(tactic| first
  | ((with_reducible apply g_crows); (focus walk_at "hp"); (focus with_reducible assumption))
  | ((with_reducible apply g_csize); (focus walk_at "hp"); (focus with_reducible assumption))
  | ((with_reducible apply g_cevery); (focus walk_at "hp"); (focus with_reducible assumption))
  | ((with_reducible apply g_cshift); (focus walk_at "hp"); (focus with_reducible assumption))
  | ((with_reducible apply g_cring); (focus walk_at "hp"); (focus with_reducible assumption))
  | ((with_reducible apply g_cfirst); (focus walk_at "hp"); (focus with_reducible assumption))
  | ((with_reducible apply g_clen); (focus walk_at "hp"))
  | ((with_reducible apply g_cmShifted); (focus walk_at "hp"))
  | ((with_reducible apply g_cmSettled); (focus walk_at "hp"))
  | ((with_reducible apply g_cmNext); (focus walk_at "hp"))
  | ((with_reducible apply g_cmEnd); (focus walk_at "hp"))
  | ((with_reducible apply g_cmArrival); (focus walk_at "hp")))

local macro_rules | `(tactic| walk_at "sp") => `(tactic| first
  | ((with_reducible apply g_taken); (focus walk_at "hp"); (focus first | decide | omega); (focus first | decide | omega); intro _ _ _ _ _ _))
local macro_rules | `(tactic| walk_at "hp") => `(tactic| first
  | ((with_reducible apply DiceAt.ex); (focus walk_at "as"); walk_at "hp")
  | ((with_reducible apply exb_tD); (focus walk_at "as"); (focus walk_at "hp"); walk_at "hp")
  | ((with_reducible apply exb_insD); (focus walk_at "as"); (focus walk_at "hp"); walk_at "hp")
  | ((with_reducible apply RingIn.exD); (focus walk_at "as"); (focus walk_at "hp"); walk_at "hp")
  | ((with_reducible apply TupK.exD); (focus walk_at "as"); (focus walk_at "hp"); walk_at "hp"))

local macro_rules | `(tactic| walk_at "hp") => `(tactic| first
  | ((with_reducible apply CrsAt.ex); (focus walk_at "as"); walk_at "hp")
  | ((with_reducible apply CrsAt.into); walk_at "hp"))
local macro_rules | `(tactic| walk_at "g1") => `(tactic| first
  | ((with_reducible apply g_callO); (focus walk_at "hp"))
  | with_reducible apply g_tCallO
  | with_reducible apply g_kCallO)
local macro_rules | `(tactic| walk_at "sp") => `(tactic| first
  | ((with_reducible apply g_rdays); (focus walk_at "hp"))
  | ((with_reducible apply g_rstarts); (focus walk_at "hp"))
  | ((with_reducible apply g_rget); (focus walk_at "hp"); (focus with_reducible assumption); intro _ _ _ _)
  | ((with_reducible apply g_rcall); (focus walk_at "hp"); (focus with_reducible assumption); (focus omega); intro _ _)
  | ((with_reducible apply g_mkCourse); (focus walk_at "hp"); intro _ _ _ _ _ _ _ _ _)
  | ((with_reducible apply g_ncheckn); (focus omega); (focus omega)))

section
variable {P : Program} {w : World} {K : PySem.W.Frag} {mg : Str → Option Value} {base : Heap} {C : Addr}
def sp_Ring_eqT (K : PySem.W.Frag) (C : Addr) : Sp := fun vs H Q _ => ∃ (r a b p : Addr) (ds hs : List Int) (xs : List V), vs = [.ref r, .ref p] ∧ RingIn K C H r a b ds hs ∧ SqT K H p xs ∧ Q (.bl false) H
theorem okx_Ring_eqT (Z : Blt mg) (R : RingC K C) (Eqt_Ring : EqtC K C) (g_Ring : mg "Ring" = some (.ref C)) (G : CFun K C "__eq__" "Ring.__eq__" s_Ring___eq__) : Mf P w K mg base C 1 "__eq__" ["self", "other"] (sp_Ring_eqT K C) := by
  refine Mf.of G sc_Ring___eq__ b_Ring___eq__ (fun vs H Q E h => ?_) (fun f cdv A outer s H vs Q E hr h => ?_)
  · obtain ⟨r, a, b, p, ds, hs, xs, rfl, _⟩ := h
    rfl
  · obtain ⟨r, a, b, p, ds, hs, xs, rfl, RI, hp, q⟩ := h
    have cl_Ring := R.cl
    refine ⟨_, PSs.nox (pss_one (ps_ret (pe_and (pe_callB call_isi (by rfl) Z.zisinstance (by decide +kernel) (pa_cons (pv 1) (pa_cons (pcls g_Ring) pa_nil))) (pe_and (pe_cmpR (op_eqD hr.units) (pe_fld (pv 0) rfl) (pe_fld (pv 1) rfl) (nomark _)) (pe_one (pe_cmpR (op_eqD hr.units) (pe_fld (pv 0) rfl) (pe_fld (pv 1) rfl) (nomark _))))))), ?_⟩
    walk_at "g0"
    walk_at "go"
    refine g_isi (.own C) (sqT_ty hp) Eqt_Ring.ki ?_
    walk_at "go"
    exact q
def sp_single0 (K : PySem.W.Frag) (C : Addr) : Sp := fun vs H Q _ => ∃ (p : Addr) (ds : List Int), vs = [.ref C, .ref p] ∧ SqT K H p (ds.map V.int) ∧ RingOk ds (List.replicate ds.length 1) ∧ ∀ r b H', Ex H H' → RingIn K C H' r p b ds (List.replicate ds.length 1) → Q (.ref r) H'
def sp_single (K : PySem.W.Frag) (C : Addr) : Sp := fun vs H Q _ => ∃ ds : List Int, vs = .ref C :: ds.map V.int ∧ RingOk ds (List.replicate ds.length 1) ∧ ∀ r p b H', Ex H H' → RingIn K C H' r p b ds (List.replicate ds.length 1) → Q (.ref r) H'
theorem ok_single (Z : Blt mg) (R : RingC K C) (I_Ring : If P w K mg base "Ring" C 3 ["self", "days", "starts"] (sp_Ring_init K C)) (G : SFun K C "single" "Ring.single" s_Ring_single) : Sf P w K mg base C 6 "single" (sp_single K C) := by
  refine Sf.of (sp0 := sp_single0 K C) G sc_Ring_single bS_Ring_single (fun vs H Q E h => ?_) (fun f cdv A outer s H vs Q E hr h => ?_)
  · obtain ⟨ds, rfl, O, q⟩ := h
    have o8 := O.eight
    exact ⟨.ref C, ds.map V.int, rfl, sz1000 (by rw [List.length_map]; omega), fun p hp => ⟨p, ds, rfl, SqT.of upd_same, O, fun r b H' e RI => q r p b H' ((Ex.new hp).trans e) RI⟩⟩
  · obtain ⟨p, ds, rfl, hp, O, q⟩ := h
    have cl_Ring := R.cl
    refine ⟨_, PSs.nox (pss_one (ps_ret (pkV I_Ring hr (pv 0) (pa_cons (pv 1) (pa_cons (pe_op op_repU (pe_tup (pa_cons pe_int pa_nil)) (pe_callB c_len (by rfl) Z.zlen PySem.boot_len (pa_cons (pv 1) pa_nil))) pa_nil))))), ?_⟩
    walk_at "g0"
    have o2 := O.two
    have o8 := O.eight
    refine g_makeV ?_
    walk_at "go"
    refine g_kMakeV ?_
    walk_at "go"
    rename_i p2 H2 n2 e2 h2
    refine g_repU (SqT.of h2) (List.cons_ne_nil _ _) (by decide) (k := ds.length) (by omega) (by omega) fun p3 H3 e3 s3 => ?_
    rw [flat_rep] at s3
    walk_at "go"
    refine g_mkRing (ex_t (e2.trans e3) hp) s3 O fun r H4 nr e4 RI => ?_
    walk_at "go"
    exact q r p3 H4 ((e2.trans e3).trans e4) RI
end
end G48

namespace G48
open PySem PySem.Spec PyProof.Rows L2 Evl
abbrev N_law : List Str := ["_law_script", "_law_d", "_law_turn", "_law_days", "_law_starts", "_law_ring_here", "_law_size", "_law_k", "_law_turned", "_law_other", "_law_bad", "_law_new", "_law_due"]
theorem sc_law : FnScope N_law ["_law_script"] (defScope s_law) := ⟨rfl, rfl, rfl, by decide +kernel, rfl, by decide +kernel, by decide +kernel⟩
theorem b_law : BindL "law" "law" s_law ["_law_script"] := fun _ _ _ _ _ _ us hl => match us, hl with | [_], _ => rfl
end G48
/-! the law k01 -/
namespace G48
open PySem PySem.Spec PyProof.Rows L2 Evl
open LamX (Tabs ExtN)
/-! the steps -/
local macro_rules | `(tactic| walk_at "as") => `(tactic| with_reducible assumption)
local macro_rules | `(tactic| walk_at "hp") => `(tactic| first
  | with_reducible assumption
  | ((with_reducible apply SqT.of); walk_at "as")
  | ((with_reducible apply SqL.of); walk_at "as")
  | ((with_reducible apply ex_at); (focus walk_at "as"); walk_at "hp")
  | ((with_reducible apply ex_t); (focus walk_at "as"); walk_at "hp")
  | ((with_reducible apply ex_l); (focus walk_at "as"); walk_at "hp")
  | ((with_reducible apply exb_ins); (focus walk_at "as"); (focus walk_at "hp"); walk_at "hp")
  | ((with_reducible apply exb_t); (focus walk_at "as"); (focus walk_at "hp"); walk_at "hp")
  | ((with_reducible apply exb_at); (focus walk_at "as"); (focus walk_at "ne"); walk_at "hp")
  | ((with_reducible apply exb_l); (focus walk_at "as"); (focus walk_at "ne"); walk_at "hp"))
local macro_rules | `(tactic| walk_at "ne") => `(tactic| first
  | with_reducible assumption
  | exact Ne.symm (by with_reducible assumption)
  | exact ne_of_none (by with_reducible assumption) (by with_reducible assumption)
  | exact Ne.symm (ne_of_none (by with_reducible assumption) (by with_reducible assumption)))
local macro_rules | `(tactic| walk_at "tr") => `(tactic| first
  | rfl
  | with_reducible assumption
  | exact decide_eq_true (by first | with_reducible assumption | omega)
  | exact decide_eq_false (by first | with_reducible assumption | omega)
  | (rw [Bool.not_eq_true']; exact decide_eq_false (by first | with_reducible assumption | omega))
  | (rw [Bool.not_eq_false']; exact decide_eq_true (by first | with_reducible assumption | omega)))
local macro_rules | `(tactic| walk_at "nn") => `(tactic| first | with_reducible assumption | (exact List.cons_ne_nil _ _))
local macro_rules | `(tactic| walk_at "sz") => `(tactic| first | (exact sz1000 (Nat.le_of_ble_eq_true rfl)) | (refine sz1000 ?_; simp only [List.length_map, List.length_cons, List.length_nil, List.length_append]; omega) | with_reducible assumption)
local macro_rules | `(tactic| walk_at "sl") => `(tactic| first | with_reducible assumption | (refine lt1000 ?_; simp only [List.length_map, List.length_cons, List.length_nil, List.length_append]; omega) | (refine lt1000 ?_; omega))
local macro_rules | `(tactic| walk_at "ix") => `(tactic| first | rfl | with_reducible assumption)
local macro_rules | `(tactic| walk_at "rg") => `(tactic| exact RgOk.of_le (by omega) (by omega) (by omega) (by omega))
local macro_rules | `(tactic| walk_at "sp") => `(tactic| fail "sp")
local macro_rules | `(tactic| walk_at "cl") => `(tactic| with_reducible assumption)
local macro_rules | `(tactic| walk_at "lk") => `(tactic| with_reducible assumption)
local macro_rules | `(tactic| walk_at "it") => `(tactic| first | rfl | with_reducible assumption | exact atI_nat (by with_reducible assumption))
local macro_rules | `(tactic| walk_at "g1") => `(tactic| first
  | (with_reducible apply g_var); (focus rfl)
  | with_reducible apply g_c
  | with_reducible apply g_seq
  | with_reducible apply g_asg
  | with_reducible apply gg_name
  | with_reducible apply g_op
  | with_reducible apply g_cons
  | with_reducible apply g_nil
  | with_reducible apply g_cb
  | with_reducible apply g_fld
  | ((with_reducible apply g_kFld); (focus walk_at "hp"); (focus walk_at "cl"); (focus walk_at "cl"); (focus walk_at "lk"))
  | with_reducible apply g_call
  | walk_at "sp"
  | with_reducible apply g_ret
  | with_reducible apply g_drop
  | with_reducible apply g_test
  | with_reducible apply g_B
  | with_reducible apply g_kTest
  | with_reducible apply g_ifS
  | with_reducible apply g_kIfST
  | with_reducible apply g_kIfSF
  | with_reducible apply g_add
  | with_reducible apply g_sub
  | with_reducible apply g_lt
  | with_reducible apply g_le
  | with_reducible apply g_gt
  | with_reducible apply g_ge
  | with_reducible apply g_eqI
  | with_reducible apply g_neI
  | ((with_reducible apply g_mod); (focus first | decide | omega))
  | ((with_reducible apply g_mul); (focus first | (left; constructor <;> omega) | (right; constructor <;> omega)))
  | ((with_reducible apply g_fdiv); (focus (constructor <;> omega)))
  | ((with_reducible apply g_ixT); (focus walk_at "hp"); (focus walk_at "it"))
  | ((with_reducible apply g_ixL); (focus walk_at "hp"); (focus walk_at "it"))
  | with_reducible apply g_and
  | with_reducible apply g_or
  | with_reducible apply g_not
  | with_reducible apply g_kNotT
  | with_reducible apply g_kNotF
  | with_reducible apply g_if
  | with_reducible apply g_kAndT
  | with_reducible apply g_kAndF
  | with_reducible apply g_kOrT
  | with_reducible apply g_kOrF
  | with_reducible apply g_kIfT
  | with_reducible apply g_kIfF
  | with_reducible apply g_next
  | with_reducible apply g_andV
  | with_reducible apply g_orV
  | with_reducible apply g_notV
  | with_reducible apply g_kNotV
  | with_reducible apply g_kAndVT
  | with_reducible apply g_kAndVF
  | with_reducible apply g_chain
  | with_reducible apply g_kChainT
  | with_reducible apply g_kChainF
  | with_reducible apply g_tup
  | with_reducible apply g_lst
  | ((with_reducible apply g_kT); (focus walk_at "sz"); intro _ _ _ _ _)
  | ((with_reducible apply g_kL); (focus walk_at "sz"); intro _ _ _ _ _)
  | with_reducible apply g_un
  | with_reducible apply g_neg
  | with_reducible apply g_meth
  | ((with_reducible apply g_kMeth); (focus walk_at "hp"); (focus walk_at "lk"))
  | with_reducible apply g_prop
  | ((with_reducible apply g_kProp); (focus walk_at "hp"))
  | with_reducible apply g_make
  | with_reducible apply g_par
  | with_reducible apply g_kPar
  | ((with_reducible apply g_lenLM); (focus walk_at "hp"))
  | ((with_reducible apply g_lenTM); (focus walk_at "hp"))
  | ((with_reducible apply g_lenL); (focus walk_at "hp"))
  | ((with_reducible apply g_lenT); (focus walk_at "hp"))
  | with_reducible apply g_int1
  | with_reducible apply g_max2
  | with_reducible apply g_min2
  | ((with_reducible apply g_listL); (focus walk_at "hp"); intro _ _ _ _ _)
  | ((with_reducible apply g_listT); (focus walk_at "hp"); intro _ _ _ _ _)
  | ((with_reducible apply g_tupL); (focus walk_at "hp"); intro _ _ _ _ _)
  | ((with_reducible apply g_sum); (focus walk_at "hp"))
  | with_reducible apply g_sfld
  | with_reducible apply g_sl
  | with_reducible apply g_nopart
  | with_reducible apply g_part
  | with_reducible apply g_kPart
  | with_reducible apply g_lstRg
  | with_reducible apply g_rg1
  | with_reducible apply g_kRg1
  | with_reducible apply g_bm
  | with_reducible apply gg_sub
  | ((with_reducible apply gg_tup); (focus walk_at "hp"); (focus rfl))
  | with_reducible apply gg_cons
  | with_reducible apply gg_nil
  | with_reducible apply g_forL
  | with_reducible apply g_forT
  | with_reducible apply g_forR1
  | with_reducible apply g_forR2
  | with_reducible apply g_forE
  | with_reducible apply g_forEL
  | ((with_reducible apply g_maxT); (focus walk_at "hp"); (focus walk_at "nn"))
  | ((with_reducible apply g_maxL); (focus walk_at "hp"); (focus walk_at "nn"))
  | ((with_reducible apply g_catA); (focus walk_at "hp"); (focus walk_at "hp"); (focus walk_at "sz"); intro _ _ _ _)
  | ((with_reducible apply g_slA); (focus walk_at "hp"); intro _ _ _ _)
  | ((with_reducible apply g_tupD); (focus walk_at "hp"); intro _ _ _ _ _)
  | ((with_reducible apply g_setL); (focus walk_at "hp"); (focus walk_at "ix"); intro _ _ _)
  | ((with_reducible apply g_append); (focus walk_at "hp"); (focus walk_at "sl"); intro _ _ _)
  | ((with_reducible apply g_aug); (focus rfl))
  | with_reducible apply g_ipI
  | with_reducible apply g_retN
  | with_reducible apply g_lcR1
  | with_reducible apply g_lcR2
  | with_reducible apply g_lcL
  | with_reducible apply g_lcU
  | with_reducible apply g_lcN
  | ((with_reducible apply g_kLcG); (focus rfl))
  | with_reducible apply g_yes
  | with_reducible apply g_kLcTT
  | with_reducible apply g_kLcTF
  | ((with_reducible apply g_kLcE); (focus walk_at "hp"); (focus walk_at "sl"); intro _ _ _)
  | ((with_reducible apply g_pow); (focus (constructor <;> (try constructor) <;> decide)))
  | ((with_reducible apply g_kLRg); (focus walk_at "rg"); intro _ _ _ _ _)
  | ((with_reducible apply g_cat); (focus walk_at "hp"); (focus walk_at "hp"); (focus walk_at "sz"); intro _ _ _ _ _)
  | ((with_reducible apply g_slL); (focus walk_at "hp"); intro _ _ _ _ _)
  | with_reducible apply g_bmT
  | with_reducible apply g_break
  | with_reducible apply g_cont)
local macro_rules | `(tactic| walk_at "g0") => `(tactic| try dsimp only [L2.cxOf, L2.Cx.nox, L2.Cx.wish])
local macro_rules | `(tactic| walk_at "yn") => `(tactic| first
  | ((with_reducible apply y_kIfS); (focus walk_at "tr"))
  | ((with_reducible apply n_kIfS); (focus walk_at "tr"))
  | ((with_reducible apply y_kOr); (focus walk_at "tr"))
  | ((with_reducible apply n_kOr); (focus walk_at "tr"))
  | ((with_reducible apply y_kAnd); (focus walk_at "tr"))
  | ((with_reducible apply n_kAnd); (focus walk_at "tr"))
  | ((with_reducible apply y_kNot); (focus walk_at "tr"))
  | ((with_reducible apply n_kNot); (focus walk_at "tr"))
  | ((with_reducible apply y_kIf); (focus walk_at "tr"))
  | ((with_reducible apply n_kIf); (focus walk_at "tr"))
  | ((with_reducible apply y_kAndV); (focus walk_at "tr"))
  | ((with_reducible apply n_kAndV); (focus walk_at "tr"))
  | ((with_reducible apply y_kOrV); (focus walk_at "tr"))
  | ((with_reducible apply n_kOrV); (focus walk_at "tr"))
  | ((with_reducible apply y_kChain); (focus walk_at "tr"))
  | ((with_reducible apply n_kChain); (focus walk_at "tr"))
  | ((with_reducible apply y_kLcT); (focus walk_at "tr"))
  | ((with_reducible apply n_kLcT); (focus walk_at "tr"))
  | ((with_reducible apply y_kWh); (focus walk_at "tr"))
  | ((with_reducible apply n_kWh); (focus walk_at "tr")))
local macro_rules | `(tactic| walk_at "go") => `(tactic| repeat (first | walk_at "g1" | walk_at "yn"))
local macro_rules | `(tactic| walk_at "hp") => `(tactic| first
  | ((with_reducible apply RingIn.ex); (focus walk_at "as"); walk_at "hp")
  | ((with_reducible apply RingAt.ex); (focus walk_at "as"); walk_at "hp")
  | ((with_reducible apply RingIn.exb); (focus walk_at "as"); (focus walk_at "hp"); walk_at "hp")
  | ((with_reducible apply RingAt.exb); (focus walk_at "as"); (focus walk_at "hp"); walk_at "hp")
  | ((with_reducible apply TupK.ex); (focus walk_at "as"); walk_at "hp")
  | ((with_reducible apply TupK.exb); (focus walk_at "as"); (focus walk_at "hp"); walk_at "hp"))
local macro_rules | `(tactic| walk_at "lk") => `(tactic| first | with_reducible exact rf_spans | with_reducible exact rf_heaps | with_reducible exact rf_total | with_reducible exact rf_nr | with_reducible exact rf_wd)
local macro_rules | `(tactic| walk_at "sp") => `(tactic| first
  | ((with_reducible apply g_isiTup); (focus walk_at "hp"))
  | ((with_reducible apply g_isiLst); (focus walk_at "hp"))
  | ((with_reducible apply g_isint); (focus omega); (focus omega))
  | ((with_reducible apply g_checkn); (focus omega); (focus omega))
  | ((with_reducible apply g_rbooks); (focus walk_at "hp"))
  | ((with_reducible apply g_rpace); (focus walk_at "hp"); intro _ _ _ _)
  | ((with_reducible apply g_rlen); (focus walk_at "hp"))
  | ((with_reducible apply g_rneed); (focus walk_at "hp"); (focus omega))
  | ((with_reducible apply g_rneedM); (focus walk_at "hp"))
  | ((with_reducible apply g_rwithM); (focus walk_at "hp"))
  | ((with_reducible apply g_rspans); (focus walk_at "hp"); (focus with_reducible assumption))
  | ((with_reducible apply g_rheaps); (focus walk_at "hp"); (focus with_reducible assumption))
  | ((with_reducible apply g_rtotal); (focus walk_at "hp"); (focus with_reducible assumption)))

local macro_rules | `(tactic| walk_at "hp") => `(tactic| first
  | ((with_reducible apply CrsIn.ex); (focus walk_at "as"); walk_at "hp")
  | ((with_reducible apply RowsAt.ex); (focus walk_at "as"); walk_at "hp"))
local macro_rules | `(tactic| walk_at "sp") => `(tactic| first
  | ((with_reducible apply g_crows); (focus walk_at "hp"); (focus with_reducible assumption))
  | ((with_reducible apply g_csize); (focus walk_at "hp"); (focus with_reducible assumption))
  | ((with_reducible apply g_cevery); (focus walk_at "hp"); (focus with_reducible assumption))
  | ((with_reducible apply g_cshift); (focus walk_at "hp"); (focus with_reducible assumption))
  | ((with_reducible apply g_cring); (focus walk_at "hp"); (focus with_reducible assumption))
  | ((with_reducible apply g_cfirst); (focus walk_at "hp"); (focus with_reducible assumption))
  | ((with_reducible apply g_clen); (focus walk_at "hp"))
  | ((with_reducible apply g_cmShifted); (focus walk_at "hp"))
  | ((with_reducible apply g_cmSettled); (focus walk_at "hp"))
  | ((with_reducible apply g_cmNext); (focus walk_at "hp"))
  | ((with_reducible apply g_cmEnd); (focus walk_at "hp"))
  | ((with_reducible apply g_cmArrival); (focus walk_at "hp")))

local macro_rules | `(tactic| walk_at "sp") => `(tactic| first
  | ((with_reducible apply g_taken); (focus walk_at "hp"); (focus first | decide | omega); (focus first | decide | omega); intro _ _ _ _ _ _))
local macro_rules | `(tactic| walk_at "hp") => `(tactic| first
  | ((with_reducible apply DiceAt.ex); (focus walk_at "as"); walk_at "hp")
  | ((with_reducible apply exb_tD); (focus walk_at "as"); (focus walk_at "hp"); walk_at "hp")
  | ((with_reducible apply exb_insD); (focus walk_at "as"); (focus walk_at "hp"); walk_at "hp")
  | ((with_reducible apply RingIn.exD); (focus walk_at "as"); (focus walk_at "hp"); walk_at "hp")
  | ((with_reducible apply TupK.exD); (focus walk_at "as"); (focus walk_at "hp"); walk_at "hp"))

local macro_rules | `(tactic| walk_at "sp") => `(tactic| first
  | ((with_reducible apply g_next'); (focus walk_at "hp"); (focus first | decide | omega); (focus first | decide | omega); intro _ _ _ _ _ _))

local macro_rules | `(tactic| walk_at "hp") => `(tactic| first
  | ((with_reducible apply CrsAt.ex); (focus walk_at "as"); walk_at "hp")
  | ((with_reducible apply CrsAt.into); walk_at "hp"))
local macro_rules | `(tactic| walk_at "g1") => `(tactic| first
  | ((with_reducible apply g_callO); (focus walk_at "hp"))
  | with_reducible apply g_tCallO
  | with_reducible apply g_kCallO)
local macro_rules | `(tactic| walk_at "sp") => `(tactic| first
  | ((with_reducible apply g_rdays); (focus walk_at "hp"))
  | ((with_reducible apply g_rstarts); (focus walk_at "hp"))
  | ((with_reducible apply g_rget); (focus walk_at "hp"); (focus with_reducible assumption); intro _ _ _ _)
  | ((with_reducible apply g_rcall); (focus walk_at "hp"); (focus with_reducible assumption); (focus omega); intro _ _)
  | ((with_reducible apply g_mkCourse); (focus walk_at "hp"); intro _ _ _ _ _ _ _ _ _)
  | ((with_reducible apply g_ncheckn); (focus omega); (focus omega)))

section
variable {P : Program} {w : World} {K : PySem.W.Frag} {mg : Str → Option Value} {base : Heap} {C CC : Addr}
def sp_law (K : PySem.W.Frag) : Sp := fun vs H Q _ => ∃ (a : Addr) (ns : List Int), vs = [.ref a] ∧ Scr K H a (ns.map V.int) ∧ ns.length ≤ 63 ∧ H (lamT K) = some (.tbl #[]) ∧ H (He.cT K ("_law_bad_rings", none)).2 = some (.tbl #[]) ∧ ∀ H', Q (.bl true) H'
theorem sp_law_len {K : PySem.W.Frag} {vs : List V} {H : Hp} {Q : VK} {E : XK} (h : sp_law K vs H Q E) : vs.length = ["_law_script"].length := by
  obtain ⟨a, ns, rfl, _⟩ := h
  rfl
theorem g_shr {H : Hp} {Q : VK} {E : XK} {r a b : Addr} {ds hs : List Int} {s : Nat} {z : Int} (RI : RingIn K C H r a b ds hs) (hz : z = (s : Int)) (hs1 : s < ds.length) (q : ∀ r' a' b' H', H r' = none → Ex H H' → RingIn K C H' r' a' b' (rot s ds) (rot s hs) → Q (.ref r') H') :
    rShr C (sp_Ring_shr K C) E (.ref r) (.int z) H Q := by
  subst hz
  obtain ⟨dx, ho⟩ := RI.obj
  exact ⟨r, s, rfl, rfl, ⟨dx, _, ho⟩, r, a, b, ds, hs, s, rfl, RI, hs1, fun r' a' b' H' n e R' => ⟨r', rfl, q r' a' b' H' n e R'⟩⟩
theorem g_reqO {H : Hp} {Q : VK} {E : XK} {r a b r' a' b' : Addr} {ds hs ds' hs' : List Int} (RI : RingIn K C H r a b ds hs) (RI' : RingIn K C H r' a' b' ds' hs') (q : Q (.bl (decide (ds = ds' ∧ hs = hs'))) H) : rEqO C (sp_Ring_eq K C) E (.ref r) (.ref r') H Q := by
  obtain ⟨dx, ho⟩ := RI.obj
  obtain ⟨dy, ho'⟩ := RI'.obj
  exact g_eqO ho ho' ⟨r, a, b, r', a', b', ds, hs, ds', hs', rfl, RI, RI', g_kBl q⟩
theorem sum_rev (xs : List Int) : xs.reverse.sum = xs.sum := by
  induction xs with
  | nil => rfl
  | cons x xs ih => rw [List.reverse_cons, List.sum_append, ih, List.sum_cons, List.sum_cons]; simp; omega
theorem RingOk.revS {ds hs : List Int} (O : RingOk ds hs) : RingOk ds hs.reverse :=
  ⟨O.two, O.eight, by rw [List.length_reverse]; exact O.len, O.dd, fun h hh => O.hh h (List.mem_reverse.mp hh), by rw [sum_rev]; exact O.one, by rw [sum_rev]; exact O.twelve⟩
theorem RingOk.revD {ds hs : List Int} (O : RingOk ds hs) : RingOk ds.reverse hs :=
  ⟨by rw [List.length_reverse]; exact O.two, by rw [List.length_reverse]; exact O.eight, by rw [List.length_reverse]; exact O.len, fun h hh => O.dd h (List.mem_reverse.mp hh), O.hh, O.one, O.twelve⟩
theorem bad_ok (ds : List Int) {x : V} (h : x ∈ [V.int (-1), V.int (ds.length : Int), V.non, V.bl true, V.str "0"]) : (∀ H : Hp, Pl K H x) ∧ shrKd x ∧ inB 0 ((ds.length : Int) - 1) x = false := by
  simp only [List.mem_cons, List.not_mem_nil, or_false] at h
  rcases h with rfl | rfl | rfl | rfl | rfl
  · refine ⟨fun _ => .int _, .inr (.inr (.inl ⟨_, rfl⟩)), ?_⟩
    show (decide ((0 : Int) ≤ -1) && decide ((-1 : Int) ≤ (ds.length : Int) - 1)) = false
    rw [decide_eq_false (by omega), Bool.false_and]
  · refine ⟨fun _ => .int _, .inr (.inr (.inl ⟨_, rfl⟩)), ?_⟩
    show (decide ((0 : Int) ≤ (ds.length : Int)) && decide ((ds.length : Int) ≤ (ds.length : Int) - 1)) = false
    rw [show decide ((ds.length : Int) ≤ (ds.length : Int) - 1) = false from decide_eq_false (by omega), Bool.and_false]
  · exact ⟨fun _ => .non, .inl rfl, rfl⟩
  · exact ⟨fun _ => .bl _, .inr (.inl ⟨_, rfl⟩), rfl⟩
  · exact ⟨fun _ => .str _, .inr (.inr (.inr ⟨_, rfl⟩)), rfl⟩
theorem new_ok {x : V} (h : x ∈ [V.int 1, V.int 30, V.int 0, V.int 31, V.non]) : flatV x = true ∧ (∀ H : Hp, Pl K H x) ∧ ((∃ n, x = .int n ∧ (1 ≤ n ∧ n ≤ 30) ∧ inV x [.int 1, .int 30] = true) ∨ (inB 1 30 x = false ∧ inV x [.int 1, .int 30] = false)) := by
  simp only [List.mem_cons, List.not_mem_nil, or_false] at h
  rcases h with rfl | rfl | rfl | rfl | rfl
  · exact ⟨rfl, fun _ => .int _, .inl ⟨1, rfl, by decide, by decide⟩⟩
  · exact ⟨rfl, fun _ => .int _, .inl ⟨30, rfl, by decide, by decide⟩⟩
  · exact ⟨rfl, fun _ => .int _, .inr ⟨by decide, by decide⟩⟩
  · exact ⟨rfl, fun _ => .int _, .inr ⟨by decide, by decide⟩⟩
  · exact ⟨rfl, fun _ => .non, .inr ⟨by decide, by decide⟩⟩
set_option maxHeartbeats 16000000 in
theorem bd_law (Z : Blt mg) (R : RingC K C) (Exc_UnknownReader : ExcT K (He.ga K "UnknownReader") 2) (Exc_InvalidNumber : ExcT K (He.ga K "InvalidNumber") 4) (G__law_told : GFun K mg "_law_told" s__law_told) (T__law_told : GivesL P w K mg base N__law_told "_law_told" s__law_told "_law_work" 9 (TToldP K)) (D__law_dice : Df P w K mg base 1 "_law_dice" ["_law_script"] (sp_dice K)) (D__law_next : Df P w K mg base 1 "_law_next" ["_law_dice_here", "_law_many"] (sp_taken K)) (D__law_ring : Df P w K mg base 3 "_law_ring" ["_law_d", "_law_size", "_law_most"] (sp_lring K)) (I_Ring : If P w K mg base "Ring" C 3 ["self", "days", "starts"] (sp_Ring_init K C)) (D__law_like : Df P w K mg base 7 "_law_like" ["_law_found", "_law_due"] (sp_likeD K 3)) (D__law_pick : Df P w K mg base 2 "_law_pick" ["_law_d", "_law_some"] (sp_pickV K)) (MX_Ring_with_days : Mf P w K mg base C 6 "with_days" ["self", "reader", "days"] (sp_withX K C)) (FX_Ring___getitem__ : Cf P w K mg base C 2 "__getitem__" ["self", "reader"] (sp_needX K C)) (F_Ring___getitem__ : Cf P w K mg base C 2 "__getitem__" ["self", "reader"] (sp_Ring_get K C)) (F_Ring___rshift__ : Cf P w K mg base C 5 "__rshift__" ["self", "steps"] (sp_Ring_shr K C)) (Shr_Ring : ShrC K C) (FX_Ring___rshift__ : Cf P w K mg base C 5 "__rshift__" ["self", "steps"] (sp_shrX K C)) (Shv_Ring : ShrV K C) (M_Ring___eq__ : Mf P w K mg base C 1 "__eq__" ["self", "other"] (sp_Ring_eq K C)) (MX_Ring___eq__ : Mf P w K mg base C 1 "__eq__" ["self", "other"] (sp_Ring_eqT K C)) (Eqt_Ring : EqtC K C) (Q_Ring_days : Pf P w K mg base C 1 "days" ["self"] (sp_Ring_days K C)) (Q_Ring_starts : Pf P w K mg base C 1 "starts" ["self"] (sp_Ring_starts K C)) (Q_Ring_books : Pf P w K mg base C 1 "books" ["self"] (sp_Ring_books K C)) (Q_Ring_pace : Pf P w K mg base C 3 "pace" ["self"] (sp_Ring_pace K C)) (M_Ring___len__ : Mf P w K mg base C 1 "__len__" ["self"] (sp_Ring_len K C)) (D__law_pace : Df P w K mg base 2 "_law_pace" ["_law_days", "_law_books"] (sp_lpace K)) (ne2 : (He.cT K ("law", none)).2 ≠ (He.cT K ("_law_bad_rings", none)).2) (Err_InvalidRing : ErrC K (He.ga K "InvalidRing") 0 ["part", "index"]) (D__law_bad_rings : Df P w K mg base 13 "_law_bad_rings" ["_law_d", "_law_days", "_law_starts"] (sp_badRings K)) (S_Ring_single : Sf P w K mg base C 6 "single" (sp_single K C)) (g_Ring : mg "Ring" = some (.ref C)) : BodyT P w K mg base N_law s_law 14 (sp_law K) := by
  intro f A outer s H vs Q E TB hr h
  · obtain ⟨sc, ns, rfl, hsc, hns, ht0, ht1, q⟩ := h
    have cl_Ring := R.cl
    refine ⟨_, (pss_cons (ps_set (i := 1) sc_law.nd rfl (by first | exact Or.inl rfl | exact Or.inr rfl) (pg D__law_dice hr (pa_cons (pv 0) pa_nil)))
      (pss_cons (ps_for PassesOwn.never rfl (pi_range1 (by rfl) Z.zrange (pa_cons pe_int pa_nil)) (pg_name (i := 2) sc_law.nd rfl (by first | exact Or.inl rfl | exact Or.inr rfl)) (pss_cons (ps_asg (pg D__law_ring hr (pa_cons (pv 1) (pa_cons pe_int (pa_cons pe_int pa_nil)))) (pg_tup (by rfl) (pgs_cons (pg_name (i := 3) sc_law.nd rfl (by first | exact Or.inl rfl | exact Or.inr rfl)) (pgs_cons (pg_name (i := 4) sc_law.nd rfl (by first | exact Or.inl rfl | exact Or.inr rfl)) pgs_nil))))
          (pss_cons (ps_asg (pe_tup (pa_cons (pk I_Ring hr (pa_cons (pv 3) (pa_cons (pv 4) pa_nil))) (pa_cons (pe_callB c_len (by rfl) Z.zlen PySem.boot_len (pa_cons (pv 3) pa_nil)) pa_nil))) (pg_tup (by rfl) (pgs_cons (pg_name (i := 5) sc_law.nd rfl (by first | exact Or.inl rfl | exact Or.inr rfl)) (pgs_cons (pg_name (i := 6) sc_law.nd rfl (by first | exact Or.inl rfl | exact Or.inr rfl)) pgs_nil))))
          (pss_cons (ps_if (pt_not (pt_val (pg D__law_like hr (pa_cons (pe_lst (pa_cons (pp (pv 5) cl_Ring Q_Ring_days hr) (pa_cons (pp (pv 5) cl_Ring Q_Ring_starts hr) (pa_cons (pp (pv 5) cl_Ring Q_Ring_books hr) (pa_cons (pe_callB (call_lenO M_Ring___len__ hr) (by rfl) Z.zlen PySem.boot_len (pa_cons (pv 5) pa_nil)) pa_nil))))) (pa_cons (pe_lst (pa_cons (pv 3) (pa_cons (pv 4) (pa_cons (pe_callB (cr_sumT rfl) (by rfl) Z.zsum (by decide +kernel) (pa_cons (pv 4) pa_nil)) (pa_cons (pv 6) pa_nil))))) pa_nil))))) (pss_one (ps_ret pe_bl)) pss_nil)
          (pss_cons (ps_if (pt_not (pt_val (pg D__law_like hr (pa_cons (pp (pv 5) cl_Ring Q_Ring_pace hr) (pa_cons (pg D__law_pace hr (pa_cons (pv 3) (pa_cons (pe_callB (cr_sumT rfl) (by rfl) Z.zsum (by decide +kernel) (pa_cons (pv 4) pa_nil)) pa_nil))) pa_nil))))) (pss_one (ps_ret pe_bl)) pss_nil)
          (pss_cons (ps_set (i := 7) sc_law.nd rfl (by first | exact Or.inl rfl | exact Or.inr rfl) (pg D__law_next hr (pa_cons (pv 1) (pa_cons (pv 6) pa_nil))))
          (pss_cons (ps_set (i := 8) sc_law.nd rfl (by first | exact Or.inl rfl | exact Or.inr rfl) (pk I_Ring hr (pa_cons (pe_op op_catA (pe_slice sl_tupA (pv 3) (po_some (pv 7)) po_none) (pe_slice sl_tupA (pv 3) po_none (po_some (pv 7)))) (pa_cons (pe_op op_catA (pe_slice sl_tupA (pv 4) (po_some (pv 7)) po_none) (pe_slice sl_tupA (pv 4) po_none (po_some (pv 7)))) pa_nil))))
          (pss_cons (ps_if (PW.pt (pw_or (pt_cmpR (op_neD hr.units) (pe_itO (pv 5) F_Ring___getitem__ hr (pv 7)) (pe_tup (pa_cons (pe_ix ix_tup (pv 3) (pv 7) (fun _ _ => rfl)) (pa_cons (pe_ix ix_tup (pv 4) (pv 7) (fun _ _ => rfl)) pa_nil))) (nomark _)) (pw_or1 (pt_not (pt_cmpR (op_eqMf M_Ring___eq__ hr) (pe_op (op_shrO F_Ring___rshift__ Shr_Ring hr) (pv 5) (pv 7)) (pv 8) (nomark _)))))) (pss_one (ps_ret pe_bl)) pss_nil)
          (pss_cons (ps_set (i := 9) sc_law.nd rfl (by first | exact Or.inl rfl | exact Or.inr rfl) (pk I_Ring hr (pa_cons (pv 3) (pa_cons (pe_revT (pv 4)) pa_nil))))
          (pss_cons (ps_if (pt_cmpR op_ne (pe_cmpR (op_eqMf M_Ring___eq__ hr) (pv 5) (pv 9) (nomark _)) (pe_cmpR (op_eqD hr.units) (pv 4) (pe_revT (pv 4)) (nomark _)) (nomark _)) (pss_one (ps_ret pe_bl)) pss_nil)
          (pss_cons (ps_set (i := 9) sc_law.nd rfl (by first | exact Or.inl rfl | exact Or.inr rfl) (pk I_Ring hr (pa_cons (pe_revT (pv 3)) (pa_cons (pv 4) pa_nil))))
          (pss_cons (ps_if (PW.pt (pw_or (pt_not (pt_cmpR (op_eqMf M_Ring___eq__ hr) (pv 5) (pk I_Ring hr (pa_cons (pv 3) (pa_cons (pv 4) pa_nil))) (nomark _))) (pw_or (pt_cmpR op_ne (pe_cmpR (op_eqMf M_Ring___eq__ hr) (pv 5) (pv 9) (nomark _)) (pe_cmpR (op_eqD hr.units) (pv 3) (pe_revT (pv 3)) (nomark _)) (nomark _)) (pw_or1 (pt_cmpR (op_eqOT MX_Ring___eq__ Eqt_Ring hr) (pv 5) (pe_tup (pa_cons (pv 3) (pa_cons (pv 4) pa_nil))) (nomark _)))))) (pss_one (ps_ret pe_bl)) pss_nil)
          (pss_cons (ps_set (i := 10) sc_law.nd rfl (by first | exact Or.inl rfl | exact Or.inr rfl) (pg D__law_pick hr (pa_cons (pv 1) (pa_cons (pe_lst (pa_cons (pe_un un_neg pe_int) (pa_cons (pv 6) (pa_cons pe_non (pa_cons pe_bl (pa_cons pe_str pa_nil)))))) pa_nil))))
          (pss_cons (ps_if (pt_cmpR (op_neD hr.units) (pe_toldL0 (T := twoTs K "law" "_law_bad_rings") TB rfl two_m1 (two_u1 ne2) hr G__law_told sc__law_told b__law_told T__law_told rfl (.inl rfl) (lamS_of (N := N_law) (sc := defScope s_law) (by decide +kernel)) (lamB0 fun _ _ _ _ _ _ _ _ => rfl) (fun A outer s H E f c' hr => (pe_itO (pv 5) FX_Ring___getitem__ hr (pv 10) (passes_call (takes_of rfl rfl rfl rfl) (fun _ _ _ _ h => h))))) (pe_tup (pa_cons pe_str (pa_cons pe_str pa_nil))) (nomark _)) (pss_one (ps_ret pe_bl)) pss_nil)
          (pss_cons (ps_if (pt_cmpR (op_neD hr.units) (pe_toldL1 (T := twoTs K "law" "_law_bad_rings") TB rfl two_m1 (two_u1 ne2) hr G__law_told sc__law_told b__law_told T__law_told rfl (.inl rfl) (lamS_of (N := N_law) (sc := defScope s_law) (by decide +kernel)) (lamB1 fun _ _ _ _ _ _ _ _ _ => ⟨_, rfl, fun _ => rfl⟩) (fun A outer s H E f c' hr => (pe_op (op_shrV FX_Ring___rshift__ Shv_Ring hr (passes_call (takes_of rfl rfl rfl rfl) (fun _ _ _ _ h => h))) (pv 5) (pv 10)))) (pe_tup (pa_cons pe_str (pa_cons pe_str pa_nil))) (nomark _)) (pss_one (ps_ret pe_bl)) pss_nil)
          (pss_cons (ps_set (i := 11) sc_law.nd rfl (by first | exact Or.inl rfl | exact Or.inr rfl) (pg D__law_pick hr (pa_cons (pv 1) (pa_cons (pe_lst (pa_cons pe_int (pa_cons pe_int (pa_cons pe_int (pa_cons pe_int (pa_cons pe_non pa_nil)))))) pa_nil))))
          (pss_cons (ps_set (i := 12) sc_law.nd rfl (by first | exact Or.inl rfl | exact Or.inr rfl) (pe_tup (pa_cons pe_str (pa_cons pe_str (pa_cons (pe_lst (pa_cons pe_str (pa_cons (pv 7) pa_nil))) pa_nil)))))
          (pss_cons (ps_if (pt_cmpR op_in_seq (pv 11) (pe_tup (pa_cons pe_int (pa_cons pe_int pa_nil))) (by rfl)) (pss_one (ps_set (i := 12) sc_law.nd rfl (by first | exact Or.inl rfl | exact Or.inr rfl) (pe_op op_catA (pe_op op_catA (pe_slice sl_tupA (pv 3) po_none (po_some (pv 7))) (pe_tup (pa_cons (pv 11) pa_nil))) (pe_slice sl_tupA (pv 3) (po_some (pe_op op_add (pv 7) pe_int)) po_none)))) pss_nil)
          (pss_cons (ps_if (PW.pt (pw_or (pt_cmpR (op_neD hr.units) (pe_toldL1 (T := twoTs K "law" "_law_bad_rings") TB rfl two_m1 (two_u1 ne2) hr G__law_told sc__law_told b__law_told T__law_told rfl (.inl rfl) (lamS_of (N := N_law) (sc := defScope s_law) (by decide +kernel)) (lamB1 fun _ _ _ _ _ _ _ _ _ => ⟨_, rfl, fun _ => rfl⟩) (fun A outer s H E f c' hr => (pp (pm (pv 5) cl_Ring MX_Ring_with_days hr (pa_cons (pv 7) (pa_cons (pv 11) pa_nil)) (passes_call (takes_of rfl rfl rfl rfl) (fun _ _ _ _ h => h))) cl_Ring Q_Ring_days hr))) (pv 12) (nomark _)) (pw_or1 (pt_not (pt_val (pg D__law_bad_rings hr (pa_cons (pv 1) (pa_cons (pv 3) (pa_cons (pv 4) pa_nil))))))))) (pss_one (ps_ret pe_bl)) pss_nil)
          (pss_one (ps_if (pt_cmpR (op_neD hr.units) (pe_toldL1 (T := twoTs K "law" "_law_bad_rings") TB rfl two_m1 (two_u1 ne2) hr G__law_told sc__law_told b__law_told T__law_told rfl (.inl rfl) (lamS_of (N := N_law) (sc := defScope s_law) (by decide +kernel)) (lamB1 fun _ _ _ _ _ _ _ _ _ => ⟨_, rfl, fun _ => rfl⟩) (fun A outer s H E f c' hr => (pm (pv 5) cl_Ring MX_Ring_with_days hr (pa_cons (pv 10) (pa_cons pe_int pa_nil)) (passes_call (takes_of rfl rfl rfl rfl) (fun _ _ _ _ h => h))))) (pe_tup (pa_cons pe_str (pa_cons pe_str pa_nil))) (nomark _)) (pss_one (ps_ret pe_bl)) pss_nil)))))))))))))))))))))
      (pss_one (ps_ret (pe_and (pe_cmpR (op_eqMf M_Ring___eq__ hr) (pcm (pcls g_Ring) S_Ring_single hr (pa_cons pe_int (pa_cons pe_int pa_nil))) (pk I_Ring hr (pa_cons (pe_tup (pa_cons pe_int (pa_cons pe_int pa_nil))) (pa_cons (pe_tup (pa_cons pe_int (pa_cons pe_int pa_nil))) pa_nil))) (nomark _)) (pe_one (pe_cmpR (op_eqD hr.units) (pp (pcm (pcls g_Ring) S_Ring_single hr (pa_cons pe_int (pa_cons pe_int (pa_cons pe_int pa_nil)))) cl_Ring Q_Ring_starts hr) (pe_tup (pa_cons pe_int (pa_cons pe_int (pa_cons pe_int pa_nil)))) (nomark _)))))))), ?_⟩
    walk_at "g0"
    walk_at "go"
    refine ⟨sc, ns, rfl, hsc, hns, fun d H1 nd e1 D1 => ?_⟩
    have T1 := (twoTs_0 ht0 ht1).ext e1
    walk_at "go"
    refine g_kForR1 ⟨by omega, by omega⟩ (fun t σ H' => ∃ v2 v3 v4 v5 v6 v7 v8 v9 v10 v11 v12 : Option V, σ = [some (.ref sc), some (.ref d), v2, v3, v4, v5, v6, v7, v8, v9, v10, v11, v12] ∧ DiceAt K H' d ∧ Tabs (twoTs K "law" "_law_bad_rings") H')
      ⟨_, _, _, _, _, _, _, _, _, _, _, rfl, D1, T1⟩ ?_ ?_
    · rintro t σ H2 ht ⟨v2, v3, v4, v5, v6, v7, v8, v9, v10, v11, v12, rfl, D2, T2⟩
      walk_at "go"
      refine ⟨d, 8, 30, rfl, D2, by decide, ⟨by decide, by decide⟩, fun p a b ds hs H5 np e5 D5 hp ta tb O hlm hmx => ?_⟩
      have sa := ta.sq (K := K)
      have sb := tb.sq (K := K)
      have T5 := tabs_exD e5 D2 T2
      have o2 := O.two
      have o8 := O.eight
      have o1 := O.one
      have o12 := O.twelve
      clear T2 hsc ht0 D2
      walk_at "go"
      refine g_mkRing sa sb O fun r H6 nr e6 RI6 => ?_
      have D6 := D5.ex e6
      have T6 := T5.ext e6
      have sa6 := ex_t e6 sa
      have sb6 := ex_t e6 sb
      clear D5 T5 sa sb e5 e6 ta tb hp
      walk_at "go"
      rename_i p7 H7 n7 e7 h7 l8 H8 n8 e8 h8
      refine g_sumT (ex_t (e7.trans e8) sb6) ?_
      walk_at "go"
      rename_i l9 H9 n9 e9 h9
      have e69 := (e7.trans e8).trans e9
      refine ⟨_, _, rfl, .lst (d := 2) (SqL.of (e9 _ _ h8)) (SqL.of h9) rfl (show 4 ≤ 10000 by decide) (fun i x y hx hy => ?_), fun H10 e10 => ?_⟩
      · have hi : i = 0 ∨ i = 1 ∨ i = 2 ∨ i = 3 := by
          have := (List.getElem?_eq_some_iff.mp hx).1
          have : i < 4 := this
          omega
        have ol := O.len
        rcases hi with rfl | rfl | rfl | rfl
        · cases hx
          cases hy
          exact .ints (ns := ds) (ex_t e69 sa6) (ex_t e69 sa6) (by omega)
        · cases hx
          cases hy
          exact .ints (ns := hs) (ex_t e69 sb6) (ex_t e69 sb6) (by omega)
        · cases hx
          cases hy
          exact .int
        · cases hx
          cases hy
          exact .int
      have e610 := e69.trans e10
      have RI10 := RI6.ex e610
      have D10 := D6.ex e610
      have T10 := T6.ext e610
      have sa10 := ex_t e610 sa6
      have sb10 := ex_t e610 sb6
      clear RI6 D6 T6 sa6 sb6 e7 e8 e9 e10 e69 e610 h7 h8 h9 n7 n8 n9
      walk_at "go"
      rename_i p11 H11 e11 s11
      refine g_sumT (ex_t e11 sb10) ?_
      walk_at "go"
      refine ⟨a, ds, hs.sum, rfl, ex_t e11 sa10, O.days.z, ⟨o1, by omega⟩, fun p12 H12 e12 s12 => ?_⟩
      walk_at "go"
      refine ⟨_, _, rfl, .ints (ns := [(paceN ds hs.sum).1, (paceN ds hs.sum).2]) (ex_t e12 s11) s12 (show 2 ≤ 10000 by decide), fun H13 e13 => ?_⟩
      have e1013 := (e11.trans e12).trans e13
      have RI13 := RI10.ex e1013
      have D13 := D10.ex e1013
      have T13 := T10.ext e1013
      have sa13 := ex_t e1013 sa10
      have sb13 := ex_t e1013 sb10
      clear RI10 D10 T10 sa10 sb10 e11 e12 e13 e1013 s11 s12
      walk_at "go"
      rename_i kk H14 k0 k1 e14 D14 p15 H15 e15 s15 p16 H16 e16 s16
      obtain ⟨k, rfl⟩ : ∃ k : Nat, kk = (k : Int) := ⟨kk.toNat, by omega⟩
      have hk : k < ds.length := by omega
      have ol := O.len
      rw [cut_hi ds k (by omega)] at s15
      rw [cut_lo ds k (by omega)] at s16
      refine g_catA (ex_t e16 s15) s16 (by refine sz1000 ?_; simp only [List.length_map, List.length_drop, List.length_take]; omega) fun p17 H17 e17 s17 => ?_
      have s17' : SqT K H17 p17 ((rot k ds).map V.int) := by
        unfold rot
        rw [List.map_append]
        exact s17
      have e1417 := (e15.trans e16).trans e17
      have sb17 := ex_t e1417 (exb_tD e14 D13 sb13)
      walk_at "go"
      rename_i p18 H18 e18 s18 p19 H19 e19 s19
      rw [cut_hi hs k (by omega)] at s18
      rw [cut_lo hs k (by omega)] at s19
      refine g_catA (ex_t e19 s18) s19 (by refine sz1000 ?_; simp only [List.length_map, List.length_drop, List.length_take]; omega) fun p20 H20 e20 s20 => ?_
      have s20' : SqT K H20 p20 ((rot k hs).map V.int) := by
        unfold rot
        rw [List.map_append]
        exact s20
      have e1720 := (e18.trans e19).trans e20
      walk_at "go"
      refine g_mkRing (ex_t e1720 s17') s20' (O.rot hk) fun r2 H21 n21 e21 RT21 => ?_
      have e1421 := e1417.trans (e1720.trans e21)
      have RI21 := (RI13.exD e14 D13).ex e1421
      have T21 := (tabs_exD e14 D13 T13).ext e1421
      have sa21 := ex_t e1421 (exb_tD e14 D13 sa13)
      have sb21 := ex_t e1421 (exb_tD e14 D13 sb13)
      have D21 := D14.ex e1421
      clear RI13 T13 sa13 sb13 D13 D14 e14 e15 e16 e17 e18 e19 e20 e21 e1417 e1720 e1421 s15 s16 s17 s18 s19 s20 s17' s20' sb17 n21
      walk_at "go"
      rename_i p22 H22 e22 s22
      have hk2 : k < hs.length := by omega
      have hdk : dF ds k = ds[k] := by
        unfold dF
        rw [List.getD_eq_getElem?_getD, List.getElem?_eq_getElem hk]
        rfl
      have hhk : ((hF hs k : Nat) : Int) = hs[k] := by
        have := O.hh hs[k] (List.getElem_mem hk2)
        unfold hF
        rw [List.getD_eq_getElem?_getD, List.getElem?_eq_getElem hk2]
        show (((hs[k]).toNat : Nat) : Int) = hs[k]
        omega
      rw [hdk, hhk] at s22
      refine g_ixT (v := .int ds[k]) (ex_t e22 sa21) (atI_nat (by rw [List.getElem?_map, List.getElem?_eq_getElem hk]; rfl)) ?_
      walk_at "go"
      refine g_ixT (v := .int hs[k]) (ex_t e22 sb21) (atI_nat (by rw [List.getElem?_map, List.getElem?_eq_getElem hk2]; rfl)) ?_
      walk_at "go"
      rename_i p23 H23 n23 e23 h23
      refine g_neTI (xs := [ds[k], hs[k]]) (ys := [ds[k], hs[k]]) (ex_t e23 s22) (SqT.of h23) ?_
      rw [decide_eq_true rfl]
      have e2123 := e22.trans e23
      walk_at "go"
      refine g_shr (RI21.ex e2123) rfl hk fun r' a' b' H24 n24 e24 RX => ?_
      walk_at "go"
      refine g_reqO RX (RT21.ex (e2123.trans e24)) ?_
      rw [decide_eq_true (by exact ⟨rfl, rfl⟩)]
      have e2124 := e2123.trans e24
      have RI24 := RI21.ex e2124
      have T24 := T21.ext e2124
      have sa24 := ex_t e2124 sa21
      have sb24 := ex_t e2124 sb21
      have D24 := D21.ex e2124
      clear RI21 T21 sa21 sb21 D21 e22 e23 e24 e2123 e2124 s22 h23 n23 n24 RX RT21
      walk_at "go"
      refine g_revT ?_
      walk_at "go"
      refine g_kRevT sb24 fun p25 H25 e25 s25 => ?_
      rw [← List.map_reverse] at s25
      walk_at "go"
      refine g_mkRing (ex_t e25 sa24) s25 O.revS fun r3 H26 n26 e26 RO26 => ?_
      have e2426 := e25.trans e26
      have RI26 := RI24.ex e2426
      have sa26 := ex_t e2426 sa24
      have sb26 := ex_t e2426 sb24
      walk_at "go"
      refine g_reqO RI26 RO26 ?_
      walk_at "go"
      refine g_revT ?_
      walk_at "go"
      refine g_kRevT sb26 fun p27 H27 e27 s27 => ?_
      rw [← List.map_reverse] at s27
      walk_at "go"
      refine g_eqTI (ex_t e27 sb26) s27 ?_
      rw [show decide (ds = ds ∧ hs = hs.reverse) = decide (hs = hs.reverse) by simp]
      refine g_neS rfl ?_
      rw [decide_eq_true rfl]
      have e2427 := e2426.trans e27
      have RI27 := RI24.ex e2427
      have T27 := T24.ext e2427
      have sa27 := ex_t e2427 sa24
      have sb27 := ex_t e2427 sb24
      have D27 := D24.ex e2427
      clear RI24 T24 sa24 sb24 D24 e25 e26 e27 e2426 e2427 s25 s27 n26 RO26 RI26 sa26 sb26
      walk_at "go"
      refine g_revT ?_
      walk_at "go"
      refine g_kRevT sa27 fun p28 H28 e28 s28 => ?_
      rw [← List.map_reverse] at s28
      walk_at "go"
      refine g_mkRing s28 (ex_t e28 sb27) O.revD fun r4 H29 n29 e29 RO29 => ?_
      have e2729 := e28.trans e29
      walk_at "go"
      refine g_mkRing (ex_t e2729 sa27) (ex_t e2729 sb27) O fun r5 H30 n30 e30 RS30 => ?_
      have e2730 := e2729.trans e30
      walk_at "go"
      refine g_reqO (RI27.ex e2730) RS30 ?_
      rw [decide_eq_true (by exact ⟨rfl, rfl⟩)]
      walk_at "go"
      refine g_reqO (RI27.ex e2730) (RO29.ex e30) ?_
      walk_at "go"
      refine g_revT ?_
      walk_at "go"
      refine g_kRevT (ex_t e2730 sa27) fun p31 H31 e31 s31 => ?_
      rw [← List.map_reverse] at s31
      walk_at "go"
      refine g_eqTI (ex_t (e2730.trans e31) sa27) s31 ?_
      rw [show decide (ds = ds.reverse ∧ hs = hs) = decide (ds = ds.reverse) by simp]
      refine g_neS rfl ?_
      rw [decide_eq_true rfl]
      walk_at "go"
      rename_i p32 H32 n32 e32 h32
      have e2732 := (e2730.trans e31).trans e32
      have RI32 := RI27.ex e2732
      obtain ⟨dx, ho⟩ := id RI32.obj
      refine g_eqOT ho (SqT.of h32) ⟨r, a, b, p32, ds, hs, _, rfl, RI32, SqT.of h32, g_kBl ?_⟩
      have T32 := T27.ext e2732
      have sa32 := ex_t e2732 sa27
      have sb32 := ex_t e2732 sb27
      have D32 := D27.ex e2732
      clear RI27 T27 sa27 sb27 D27 e28 e29 e30 e31 e32 e2729 e2730 e2732 s28 s31 n29 n30 n32 h32 RO29 RS30 ho
      walk_at "go"
      rename_i l33 H33 n33 e33 h33
      have D33 := D32.ex e33
      have nl : d ≠ l33 := by
        obtain ⟨ys, hys⟩ := D32.lst
        exact ne_of_none hys n33
      refine g_pickV D33 nl h33 (List.cons_ne_nil _ _) (show 5 ≤ 100 by decide) fun bad H34 hbad e34 D34 => ?_
      have e3234 := (Exb.of (l := d) e33).trans e34
      have RI34 := RI32.exD e3234 D32
      have T34 := tabs_exD e3234 D32 T32
      have sa34 := exb_tD e3234 D32 sa32
      have sb34 := exb_tD e3234 D32 sb32
      obtain ⟨plb, kdb, bdb⟩ := bad_ok (K := K) ds hbad
      clear RI32 T32 sa32 sb32 D32 e33 e34 e3234 h33 n33 D33 nl hbad
      walk_at "go"
      refine g_toldL T34 fun H35 e35 T35 => ?_
      refine g_TT ?_
      have RI35 := RI34.exn e35
      obtain ⟨dx, ho⟩ := id RI35.obj
      walk_at "go"
      refine ⟨r, rfl, ⟨_, _, ho⟩, r, a, b, ds, hs, bad, rfl, RI35, plb _, bdb, .inl ⟨He.ga K "UnknownReader", 2, rfl, rfl, Exc_UnknownReader, by decide, by decide, fun pe H36 n36 e36 hp36 => ?_⟩⟩
      walk_at "go"
      rename_i p37 H37 n37 e37 h37
      refine g_neTS (x := "error") (y := "UnknownReader") (by decide +kernel) (by decide +kernel) (SqT.of (e37 _ _ hp36)) (SqT.of h37) ?_
      have e3537 := e36.trans e37
      have RI37 := RI35.ex e3537
      have T37 := T35.ext e3537
      have sa37 := ex_t e3537 (exn_t e35 sa34)
      have sb37 := ex_t e3537 (exn_t e35 sb34)
      have D37 := (D34.exn e35).ex e3537
      clear RI34 T34 sa34 sb34 D34 RI35 T35 e35 e36 e37 e3537 n36 n37 h37 hp36 ho
      walk_at "go"
      refine g_toldL T37 fun H38 e38 T38 => ?_
      refine g_TT ?_
      have RI38 := RI37.exn e38
      obtain ⟨dx, ho⟩ := id RI38.obj
      walk_at "go"
      refine ⟨r, rfl, kdb, ⟨_, _, ho⟩, r, a, b, ds, hs, bad, rfl, RI38, plb _, bdb, .inl ⟨He.ga K "InvalidNumber", 4, rfl, rfl, Exc_InvalidNumber, by decide, by decide, fun pe H39 n39 e39 hp39 => ?_⟩⟩
      walk_at "go"
      rename_i p40 H40 n40 e40 h40
      refine g_neTS (x := "error") (y := "InvalidNumber") (by decide +kernel) (by decide +kernel) (SqT.of (e40 _ _ hp39)) (SqT.of h40) ?_
      have e3840 := e39.trans e40
      have RI40 := RI38.ex e3840
      have T40 := T38.ext e3840
      have sa40 := ex_t e3840 (exn_t e38 sa37)
      have sb40 := ex_t e3840 (exn_t e38 sb37)
      have D40 := (D37.exn e38).ex e3840
      clear RI37 T37 sa37 sb37 D37 RI38 T38 e38 e39 e40 e3840 n39 n40 h40 hp39 ho
      walk_at "go"
      rename_i l41 H41 n41 e41 h41
      have D41 := D40.ex e41
      have nl : d ≠ l41 := by
        obtain ⟨ys, hys⟩ := D40.lst
        exact ne_of_none hys n41
      refine g_pickV D41 nl h41 (List.cons_ne_nil _ _) (show 5 ≤ 100 by decide) fun new H42 hnew e42 D42 => ?_
      have e4042 := (Exb.of (l := d) e41).trans e42
      have RI42 := RI40.exD e4042 D40
      have T42 := tabs_exD e4042 D40 T40
      have sa42 := exb_tD e4042 D40 sa40
      have sb42 := exb_tD e4042 D40 sb40
      obtain ⟨flx, plx, hx⟩ := new_ok (K := K) hnew
      clear RI40 T40 sa40 sb40 D40 e41 e42 e4042 h41 n41 D41 nl hnew
      walk_at "go"
      rename_i l43 H43 n43 e43 h43 p44 H44 n44 e44 h44 p45 H45 n45 e45 h45
      refine ⟨p45, [.int 1, .int 30], rfl, .inr (SqT.of h45), flx, rfl, ?_⟩
      rw [if_neg Bool.false_ne_true]
      have e4245 := (e43.trans e44).trans e45
      have RI45 := RI42.ex e4245
      have T45 := T42.ext e4245
      have sa45 := ex_t e4245 sa42
      have sb45 := ex_t e4245 sb42
      have D45 := D42.ex e4245
      have h43' := e45 _ _ (e44 _ _ h43)
      have h44' := e45 _ _ h44
      clear RI42 T42 sa42 sb42 D42 e43 e44 e45 e4245 n43 n44 n45 h43 h44 h45
      rcases hx with ⟨n, rfl, hn, hv⟩ | ⟨hb, hv⟩
      · rw [hv]
        walk_at "go"
        rename_i p46 H46 e46 s46 p47 H47 n47 e47 h47
        rw [cut_lo ds k (by omega)] at s46
        refine g_catA (ex_t e47 s46) (SqT.of h47) (by refine sz1000 ?_; rw [List.length_map, List.length_take]; show _ + 1 ≤ 1000; omega) fun p48 H48 e48 s48 => ?_
        have sa48 := ex_t ((e46.trans e47).trans e48) sa45
        walk_at "go"
        rename_i p49 H49 e49 s49
        rw [show (k : Int) + 1 = ((k + 1 : Nat) : Int) by omega, cut_hi ds (k + 1) (by omega)] at s49
        refine g_catA (ex_t e49 s48) s49 (by refine sz1000 ?_; rw [List.length_append, List.length_map, List.length_take, List.length_map, List.length_drop]; show _ + 1 + _ ≤ 1000; omega) fun p50 H50 e50 s50 => ?_
        have s50' : SqT K H50 p50 ((ds.set k n).map V.int) := by
          rw [← set_split ds k n hk, List.map_append, List.map_append]
          exact s50
        have e4550 := (((e46.trans e47).trans e48).trans e49).trans e50
        have T50 := T45.ext e4550
        walk_at "go"
        refine g_toldL T50 fun H51 e51 T51 => ?_
        refine g_TT ?_
        have RI51 := (RI45.ex e4550).exn e51
        obtain ⟨dx, ho⟩ := id RI51.obj
        walk_at "go"
        refine ⟨r, a, b, ds, hs, .int (k : Int), .int n, rfl, RI51, .int _, .int _, .inr (.inr ⟨k, n, rfl, rfl, hk, hn, fun r6 a6 H52 n52 e52 R6 => ?_⟩)⟩
        walk_at "go"
        refine g_neTI (xs := ds.set k n) (ys := ds.set k n) R6.sp (ex_t e52 (exn_t e51 s50')) ?_
        rw [decide_eq_true rfl]
        have RI60 := RI51.ex e52
        have T60 := T51.ext e52
        have sa60 := ex_t e52 (exn_t e51 (ex_t e4550 sa45))
        have sb60 := ex_t e52 (exn_t e51 (ex_t e4550 sb45))
        have D60 := ((D45.ex e4550).exn e51).ex e52
        clear RI45 T45 sa45 sb45 D45 RI51 T50 T51 e46 e47 e48 e49 e50 e4550 e51 e52 s46 s48 s49 s50 s50' h47 n47 ho h43' h44' R6 n52 sa48
        walk_at "go"
        refine ⟨d, a, b, ds, hs, rfl, D60, sa60, sb60, O, T60, fun H61 k61 D61 T61 => ?_⟩
        have RI61 := RI60.kept k61 D60
        walk_at "go"
        refine g_toldL T61 fun H62 e62 T62 => ?_
        refine g_TT ?_
        have RI62 := RI61.exn e62
        obtain ⟨dx, ho⟩ := id RI62.obj
        walk_at "go"
        refine ⟨r, a, b, ds, hs, bad, .int 0, rfl, RI62, plb _, .int _, .inl ⟨bdb, .inl ⟨He.ga K "UnknownReader", 2, rfl, rfl, Exc_UnknownReader, by decide, by decide, fun pe H63 n63 e63 hp63 => ?_⟩⟩⟩
        walk_at "go"
        rename_i p64 H64 n64 e64 h64
        refine g_neTS (x := "error") (y := "UnknownReader") (by decide +kernel) (by decide +kernel) (SqT.of (e64 _ _ hp63)) (SqT.of h64) ?_
        walk_at "go"
        have e6264 := e63.trans e64
        exact ⟨_, _, _, _, _, _, _, _, _, _, _, rfl, (D61.exn e62).ex e6264, T62.ext e6264⟩
      · rw [hv]
        walk_at "go"
        refine g_toldL T45 fun H51 e51 T51 => ?_
        refine g_TT ?_
        have RI51 := RI45.exn e51
        obtain ⟨dx, ho⟩ := id RI51.obj
        walk_at "go"
        refine ⟨r, a, b, ds, hs, .int (k : Int), new, rfl, RI51, .int _, plx _, .inr (.inl ⟨k, rfl, hk, hb, fun H52 e52 dd nd => .inr (.inr ⟨_, dd, .int (k : Int), .str "days", rfl, rfl, Err_InvalidRing, upd_same, fun p53 q53 H53 np53 e53 hq53 hp53 => ?_⟩)⟩)⟩
        walk_at "go"
        have e5153 := e52.trans ((Ex.new nd).trans e53)
        refine g_neFS (nm := "InvalidRing") (x := "days") (i := (k : Int)) (by decide +kernel) (by decide +kernel) (ErrF.mk hp53 hq53) ((ErrF.mk (e51 _ _ h44' (fun _ z => by cases z)) (exn_lst e51 h43')).ex e5153) ?_
        have RI60 := RI51.ex e5153
        have T60 := T51.ext e5153
        have sa60 := ex_t e5153 (exn_t e51 sa45)
        have sb60 := ex_t e5153 (exn_t e51 sb45)
        have D60 := (D45.exn e51).ex e5153
        clear RI45 T45 sa45 sb45 D45 RI51 T51 e51 e52 e53 e5153 np53 nd hq53 hp53 ho h43' h44'
        walk_at "go"
        refine ⟨d, a, b, ds, hs, rfl, D60, sa60, sb60, O, T60, fun H61 k61 D61 T61 => ?_⟩
        have RI61 := RI60.kept k61 D60
        walk_at "go"
        refine g_toldL T61 fun H62 e62 T62 => ?_
        refine g_TT ?_
        have RI62 := RI61.exn e62
        obtain ⟨dx, ho⟩ := id RI62.obj
        walk_at "go"
        refine ⟨r, a, b, ds, hs, bad, .int 0, rfl, RI62, plb _, .int _, .inl ⟨bdb, .inl ⟨He.ga K "UnknownReader", 2, rfl, rfl, Exc_UnknownReader, by decide, by decide, fun pe H63 n63 e63 hp63 => ?_⟩⟩⟩
        walk_at "go"
        rename_i p64 H64 n64 e64 h64
        refine g_neTS (x := "error") (y := "UnknownReader") (by decide +kernel) (by decide +kernel) (SqT.of (e64 _ _ hp63)) (SqT.of h64) ?_
        walk_at "go"
        have e6264 := e63.trans e64
        exact ⟨_, _, _, _, _, _, _, _, _, _, _, rfl, (D61.exn e62).ex e6264, T62.ext e6264⟩
    · rintro σ H2 ⟨v2, v3, v4, v5, v6, v7, v8, v9, v10, v11, v12, rfl, D2, T2⟩
      walk_at "go"
      refine g_cm ?_
      walk_at "go"
      refine g_kCM ?_
      walk_at "go"
      refine ⟨[3, 4], rfl, ⟨by decide, by decide, by decide, by decide, by decide, by decide, by decide⟩, fun r1 p1 b1 H3 e3 R3 => ?_⟩
      walk_at "go"
      rename_i p4 H4 n4 e4 h4 p5 H5 n5 e5 h5
      refine g_mkRing (ds := [3, 4]) (hs := [1, 1]) (ex_t e5 (SqT.of h4)) (SqT.of h5) ⟨by decide, by decide, by decide, by decide, by decide, by decide, by decide⟩ fun r6 H6 n6 e6 R6 => ?_
      walk_at "go"
      refine g_reqO (R3.ex ((e4.trans e5).trans e6)) R6 ?_
      rw [show decide (([3, 4] : List Int) = [3, 4] ∧ List.replicate ([3, 4] : List Int).length (1 : Int) = [1, 1]) = true by decide]
      walk_at "go"
      refine g_cm ?_
      walk_at "go"
      refine g_kCM ?_
      walk_at "go"
      refine ⟨[1, 2, 3], rfl, ⟨by decide, by decide, by decide, by decide, by decide, by decide, by decide⟩, fun r7 p7 b7 H7 e7 R7 => ?_⟩
      walk_at "go"
      rename_i p8 H8 n8 e8 h8
      refine g_eqTI (xs := [1, 1, 1]) (ys := [1, 1, 1]) (ex_t e8 R7.hp) (SqT.of h8) ?_
      rw [decide_eq_true rfl]
      exact q _
end
end G48

namespace G48
open PySem PySem.Spec PyProof.Rows L2 Evl
theorem facts {P : Program} {w : World} {K : PySem.W.Frag} {h : Heap} {mg : Str → Option Value} {f : Addr} (X : K.In h) (G : h.Ns mainGlobals mg) (hfa : mg ("law" : Str) = some (.ref f)) (c0 : SaysLs fasL fnL [("law", none), ("_law_bad_rings", none)] h K) :
    ∃ fd : FuncData, (∀ (s : Shared) (v : Value), BindsTo s fd ⟨[v], []⟩ [("_law_script", v)]) ∧ ∀ base : Heap, (∀ p ∈ tsL K, LamX.TabB base mg p.1 p.2) → FnOk P w K mg base CX0 15 f fd ["_law_script"] (sp_law K) := by
  have c := c0.1
  obtain ⟨fd, FL⟩ := c.def_ 35 (d := gd "law" s_law)
  have e := hfa.symm.trans (He.glo_ok X G (c.fact 59))
  cases e
  refine ⟨fd, fun s v => FunD.bindsA FL b_law s [v] rfl, fun base TBs => ?_⟩
  have TB : LamX.TabB base mg (lamC K) (lamT K) := TBs _ List.mem_cons_self
  have Z : Blt mg := ⟨He.free_ok X G (c.fact 0), He.free_ok X G (c.fact 1), He.free_ok X G (c.fact 2), He.free_ok X G (c.fact 3), He.free_ok X G (c.fact 4), He.free_ok X G (c.fact 5), He.free_ok X G (c.fact 6), He.free_ok X G (c.fact 7), He.free_ok X G (c.fact 8), He.free_ok X G (c.fact 9), He.free_ok X G (c.fact 10), He.free_ok X G (c.fact 11), He.free_ok X G (c.fact 12), He.free_ok X G (c.fact 13), He.free_ok X G (c.fact 14), He.free_ok X G (c.fact 15), He.free_ok X G (c.fact 16), He.free_ok X G (c.fact 17), He.free_ok X G (c.fact 18), He.free_ok X G (c.fact 19), He.free_ok X G (c.fact 20), He.free_ok X G (c.fact 21)⟩
  have G_is_integer : GFun K mg "is_integer" s_is_integer := let ⟨fd, F⟩ := c.def_ 0 (d := gd "is_integer" s_is_integer); ⟨_, fd, He.glo_ok X G (c.fact 22), Fun_ofD F⟩
  have G_check_number : GFun K mg "check_number" s_check_number := let ⟨fd, F⟩ := c.def_ 1 (d := gd "check_number" s_check_number); ⟨_, fd, He.glo_ok X G (c.fact 23), Fun_ofD F⟩
  have G_check_days : GFun K mg "check_days" s_check_days := let ⟨fd, F⟩ := c.def_ 2 (d := gd "check_days" s_check_days); ⟨_, fd, He.glo_ok X G (c.fact 24), Fun_ofD F⟩
  have G_check_starts : GFun K mg "check_starts" s_check_starts := let ⟨fd, F⟩ := c.def_ 3 (d := gd "check_starts" s_check_starts); ⟨_, fd, He.glo_ok X G (c.fact 25), Fun_ofD F⟩
  have G_lowest_terms : GFun K mg "lowest_terms" s_lowest_terms := let ⟨fd, F⟩ := c.def_ 4 (d := gd "lowest_terms" s_lowest_terms); ⟨_, fd, He.glo_ok X G (c.fact 26), Fun_ofD F⟩
  have G_pace_of : GFun K mg "pace_of" s_pace_of := let ⟨fd, F⟩ := c.def_ 5 (d := gd "pace_of" s_pace_of); ⟨_, fd, He.glo_ok X G (c.fact 27), Fun_ofD F⟩
  have G_Ring___init__ : IFun K mg "Ring" (He.ga K "Ring") "Ring.__init__" s_Ring___init__ := let ⟨fd, F⟩ := c.def_ 6 (d := md "Ring" "__init__" "Ring.__init__" s_Ring___init__); ⟨_, fd, He.mkr_ok (c.fact 28), He.glo_ok X G (c.fact 29), Fun_ofD F⟩
  have G_Ring_books : PFun K (He.ga K "Ring") "books" "Ring.books" s_Ring_books := let ⟨fd, F⟩ := c.def_ 7 (d := prd "Ring" "books" "Ring.books" s_Ring_books); let ⟨pA, hp⟩ := Gp.pp_ok (c.fact 30); ⟨pA, _, fd, hp, Fun_ofD F⟩
  have G_Ring_pace : PFun K (He.ga K "Ring") "pace" "Ring.pace" s_Ring_pace := let ⟨fd, F⟩ := c.def_ 8 (d := prd "Ring" "pace" "Ring.pace" s_Ring_pace); let ⟨pA, hp⟩ := Gp.pp_ok (c.fact 31); ⟨pA, _, fd, hp, Fun_ofD F⟩
  have G_Ring___len__ : CFun K (He.ga K "Ring") "__len__" "Ring.__len__" s_Ring___len__ := let ⟨fd, F⟩ := c.def_ 9 (d := md "Ring" "__len__" "Ring.__len__" s_Ring___len__); ⟨_, fd, He.meth_ok (c.fact 32), Fun_ofD F⟩
  have G_Ring_need_reader : CFun K (He.ga K "Ring") "need_reader" "Ring.need_reader" s_Ring_need_reader := let ⟨fd, F⟩ := c.def_ 10 (d := md "Ring" "need_reader" "Ring.need_reader" s_Ring_need_reader); ⟨_, fd, He.meth_ok (c.fact 33), Fun_ofD F⟩
  have G_Ring_with_days : CFun K (He.ga K "Ring") "with_days" "Ring.with_days" s_Ring_with_days := let ⟨fd, F⟩ := c.def_ 11 (d := md "Ring" "with_days" "Ring.with_days" s_Ring_with_days); ⟨_, fd, He.meth_ok (c.fact 34), Fun_ofD F⟩
  have G__law_dice : GFun K mg "_law_dice" s__law_dice := let ⟨fd, F⟩ := c.def_ 12 (d := gd "_law_dice" s__law_dice); ⟨_, fd, He.glo_ok X G (c.fact 35), Fun_ofD F⟩
  have G__law_next : GFun K mg "_law_next" s__law_next := let ⟨fd, F⟩ := c.def_ 13 (d := gd "_law_next" s__law_next); ⟨_, fd, He.glo_ok X G (c.fact 36), Fun_ofD F⟩
  have G__law_ring : GFun K mg "_law_ring" s__law_ring := let ⟨fd, F⟩ := c.def_ 14 (d := gd "_law_ring" s__law_ring); ⟨_, fd, He.glo_ok X G (c.fact 37), Fun_ofD F⟩
  have G_Course_next_row : CFun K (He.ga K "Course") "next_row" "Course.next_row" s_Course_next_row := let ⟨fd, F⟩ := c.def_ 15 (d := md "Course" "next_row" "Course.next_row" s_Course_next_row); ⟨_, fd, He.meth_ok (c.fact 38), Fun_ofD F⟩
  have G_Course_is_shifted : CFun K (He.ga K "Course") "is_shifted" "Course.is_shifted" s_Course_is_shifted := let ⟨fd, F⟩ := c.def_ 16 (d := md "Course" "is_shifted" "Course.is_shifted" s_Course_is_shifted); ⟨_, fd, He.meth_ok (c.fact 39), Fun_ofD F⟩
  have G_Course_is_settled : CFun K (He.ga K "Course") "is_settled" "Course.is_settled" s_Course_is_settled := let ⟨fd, F⟩ := c.def_ 17 (d := md "Course" "is_settled" "Course.is_settled" s_Course_is_settled); ⟨_, fd, He.meth_ok (c.fact 40), Fun_ofD F⟩
  have G_Course___init__ : IFun K mg "Course" (He.ga K "Course") "Course.__init__" s_Course___init__ := let ⟨fd, F⟩ := c.def_ 18 (d := md "Course" "__init__" "Course.__init__" s_Course___init__); ⟨_, fd, He.mkr_ok (c.fact 41), He.glo_ok X G (c.fact 42), Fun_ofD F⟩
  have G_Course_end : CFun K (He.ga K "Course") "end" "Course.end" s_Course_end := let ⟨fd, F⟩ := c.def_ 19 (d := md "Course" "end" "Course.end" s_Course_end); ⟨_, fd, He.meth_ok (c.fact 43), Fun_ofD F⟩
  have G_Ring_days : PFun K (He.ga K "Ring") "days" "Ring.days" s_Ring_days := let ⟨fd, F⟩ := c.def_ 20 (d := prd "Ring" "days" "Ring.days" s_Ring_days); let ⟨pA, hp⟩ := Gp.pp_ok (c.fact 44); ⟨pA, _, fd, hp, Fun_ofD F⟩
  have G_Ring_starts : PFun K (He.ga K "Ring") "starts" "Ring.starts" s_Ring_starts := let ⟨fd, F⟩ := c.def_ 21 (d := prd "Ring" "starts" "Ring.starts" s_Ring_starts); let ⟨pA, hp⟩ := Gp.pp_ok (c.fact 45); ⟨pA, _, fd, hp, Fun_ofD F⟩
  have G_Ring___getitem__ : CFun K (He.ga K "Ring") "__getitem__" "Ring.__getitem__" s_Ring___getitem__ := let ⟨fd, F⟩ := c.def_ 22 (d := md "Ring" "__getitem__" "Ring.__getitem__" s_Ring___getitem__); ⟨_, fd, He.meth_ok (c.fact 46), Fun_ofD F⟩
  have G_Ring___call__ : CFun K (He.ga K "Ring") "__call__" "Ring.__call__" s_Ring___call__ := let ⟨fd, F⟩ := c.def_ 23 (d := md "Ring" "__call__" "Ring.__call__" s_Ring___call__); ⟨_, fd, He.meth_ok (c.fact 47), Fun_ofD F⟩
  have G_Ring___rshift__ : CFun K (He.ga K "Ring") "__rshift__" "Ring.__rshift__" s_Ring___rshift__ := let ⟨fd, F⟩ := c.def_ 24 (d := md "Ring" "__rshift__" "Ring.__rshift__" s_Ring___rshift__); ⟨_, fd, He.meth_ok (c.fact 48), Fun_ofD F⟩
  have G_Ring___eq__ : CFun K (He.ga K "Ring") "__eq__" "Ring.__eq__" s_Ring___eq__ := let ⟨fd, F⟩ := c.def_ 25 (d := md "Ring" "__eq__" "Ring.__eq__" s_Ring___eq__); ⟨_, fd, He.meth_ok (c.fact 49), Fun_ofD F⟩
  have G__law_like : GFun K mg "_law_like" s__law_like := let ⟨fd, F⟩ := c.def_ 26 (d := gd "_law_like" s__law_like); ⟨_, fd, He.glo_ok X G (c.fact 50), Fun_ofD F⟩
  have G__law_terms : GFun K mg "_law_terms" s__law_terms := let ⟨fd, F⟩ := c.def_ 27 (d := gd "_law_terms" s__law_terms); ⟨_, fd, He.glo_ok X G (c.fact 51), Fun_ofD F⟩
  have G__law_pace : GFun K mg "_law_pace" s__law_pace := let ⟨fd, F⟩ := c.def_ 28 (d := gd "_law_pace" s__law_pace); ⟨_, fd, He.glo_ok X G (c.fact 52), Fun_ofD F⟩
  have G_InvalidChain___init__ : CFun K (He.ga K "InvalidChain") "__init__" "InvalidChain.__init__" s_InvalidChain___init__ := let ⟨fd, F⟩ := c.def_ 29 (d := md "InvalidChain" "__init__" "InvalidChain.__init__" s_InvalidChain___init__); ⟨_, fd, He.meth_ok (c.fact 53), Fun_ofD F⟩
  have G__law_told : GFun K mg "_law_told" s__law_told := let ⟨fd, F⟩ := c.def_ 30 (d := gd "_law_told" s__law_told); ⟨_, fd, He.glo_ok X G (c.fact 54), Fun_ofD F⟩
  have G_InvalidRing___init__ : CFun K (He.ga K "InvalidRing") "__init__" "InvalidRing.__init__" s_InvalidRing___init__ := let ⟨fd, F⟩ := c.def_ 31 (d := md "InvalidRing" "__init__" "InvalidRing.__init__" s_InvalidRing___init__); ⟨_, fd, He.meth_ok (c.fact 55), Fun_ofD F⟩
  have G__law_pick : GFun K mg "_law_pick" s__law_pick := let ⟨fd, F⟩ := c.def_ 32 (d := gd "_law_pick" s__law_pick); ⟨_, fd, He.glo_ok X G (c.fact 56), Fun_ofD F⟩
  have G__law_bad_rings : GFun K mg "_law_bad_rings" s__law_bad_rings := let ⟨fd, F⟩ := c.def_ 33 (d := gd "_law_bad_rings" s__law_bad_rings); ⟨_, fd, He.glo_ok X G (c.fact 57), Fun_ofD F⟩
  have G_Ring_single : SFun K (He.ga K "Ring") "single" "Ring.single" s_Ring_single := let ⟨fd, F⟩ := c.def_ 34 (d := cmd "Ring" "single" "Ring.single" s_Ring_single); ⟨cm_ok (c.fact 58), fd, Fun_ofD F⟩
  have R : RingC K (He.ga K "Ring") := ⟨He.cls_ok (c.fact 60), He.noat_ok (c.fact 61), He.noat_ok (c.fact 62), He.noat_ok (c.fact 63)⟩
  have RC : CourseC K (He.ga K "Course") := ⟨He.cls_ok (c.fact 64), He.noat_ok (c.fact 65), He.noat_ok (c.fact 66), He.noat_ok (c.fact 67), He.noat_ok (c.fact 68), He.noat_ok (c.fact 69), He.noat_ok (c.fact 70)⟩
  have c_MAX_READERS : ∃ t, mg "MAX_READERS" = some (.int 8 t) := He.int_ok X G (c.fact 71)
  have c_MAX_DAYS : ∃ t, mg "MAX_DAYS" = some (.int 30 t) := He.int_ok X G (c.fact 72)
  have c_MAX_BOOKS : ∃ t, mg "MAX_BOOKS" = some (.int 12 t) := He.int_ok X G (c.fact 73)
  have c_MAX_NUMBER : ∃ t, mg "MAX_NUMBER" = some (.int 1000000000000000000 t) := He.int_ok X G (c.fact 74)
  have Exc_InvalidNumber : ExcT K (He.ga K "InvalidNumber") 4 := excT_ok (c.fact 75)
  have g_InvalidNumber : mg "InvalidNumber" = some (.ref (He.ga K "InvalidNumber")) := He.glo_ok X G (c.fact 76)
  have Isi_Ring : IsiC K (He.ga K "Ring") := isi_ok (c.fact 77)
  have g_Ring : mg "Ring" = some (.ref (He.ga K "Ring")) := He.glo_ok X G (c.fact 29)
  have Err_InvalidChain : ErrC K (He.ga K "InvalidChain") 1 ["index"] := err_ok (c.fact 78)
  have Rin_ReadingError : RinC K (He.ga K "ReadingError") := rin_ok (c.fact 79)
  have g_ReadingError : mg "ReadingError" = some (.ref (He.ga K "ReadingError")) := He.glo_ok X G (c.fact 80)
  have g_InvalidChain : mg "InvalidChain" = some (.ref (He.ga K "InvalidChain")) := He.glo_ok X G (c.fact 81)
  have g_InvalidRing : mg "InvalidRing" = some (.ref (He.ga K "InvalidRing")) := He.glo_ok X G (c.fact 82)
  have g_UnknownReader : mg "UnknownReader" = some (.ref (He.ga K "UnknownReader")) := He.glo_ok X G (c.fact 83)
  have g_UnknownBook : mg "UnknownBook" = some (.ref (He.ga K "UnknownBook")) := He.glo_ok X G (c.fact 84)
  have g_SameBook : mg "SameBook" = some (.ref (He.ga K "SameBook")) := He.glo_ok X G (c.fact 85)
  have g_OtherRing : mg "OtherRing" = some (.ref (He.ga K "OtherRing")) := He.glo_ok X G (c.fact 86)
  have Exc_UnknownReader : ExcT K (He.ga K "UnknownReader") 2 := excT_ok (c.fact 87)
  have Err_InvalidRing : ErrC K (He.ga K "InvalidRing") 0 ["part", "index"] := err_ok (c.fact 88)
  have ne2 : (He.cT K ("law", none)).2 ≠ (He.cT K ("_law_bad_rings", none)).2 := of_decide_eq_true (c.fact 89)
  have Eqt_Ring : EqtC K (He.ga K "Ring") := eqt_ok (c.fact 90)
  have Shr_Ring : ShrC K (He.ga K "Ring") := shr_ok (c.fact 91)
  have Shv_Ring : ShrV K (He.ga K "Ring") := shrv_ok (c.fact 92)
  have D_is_integer := ok_is_integer (P := P) (w := w) (base := base) Z G_is_integer
  have D_check_number := ok_check_number (P := P) (w := w) (base := base) Z D_is_integer G_check_number
  have D_check_days := ok_check_days (P := P) (w := w) (base := base) Z c_MAX_READERS c_MAX_DAYS D_is_integer G_check_days
  have D_check_starts := ok_check_starts (P := P) (w := w) (base := base) Z c_MAX_BOOKS D_is_integer G_check_starts
  have D_lowest_terms := ok_lowest_terms (P := P) (w := w) (base := base) Z G_lowest_terms
  have D_pace_of := ok_pace_of (P := P) (w := w) (base := base) Z D_lowest_terms G_pace_of
  have I_Ring := ok_Ring_init (P := P) (w := w) (base := base) (C := He.ga K "Ring") Z R D_check_days D_check_starts G_Ring___init__
  have Q_Ring_books := ok_Ring_books (P := P) (w := w) (base := base) (C := He.ga K "Ring") Z R G_Ring_books
  have Q_Ring_pace := ok_Ring_pace (P := P) (w := w) (base := base) (C := He.ga K "Ring") Z R D_pace_of G_Ring_pace
  have M_Ring___len__ := ok_Ring_len (P := P) (w := w) (base := base) (C := He.ga K "Ring") Z R G_Ring___len__
  have M_Ring_need_reader := ok_Ring_need (P := P) (w := w) (base := base) (C := He.ga K "Ring") Z R D_is_integer G_Ring_need_reader
  have M_Ring_with_days := ok_Ring_with (P := P) (w := w) (base := base) (C := He.ga K "Ring") Z R M_Ring_need_reader I_Ring G_Ring_with_days
  have D__law_dice := ok_dice (P := P) (w := w) (base := base) Z G__law_dice
  have D__law_next := ok_next (P := P) (w := w) (base := base) Z G__law_next
  have D__law_ring := ok_lring (P := P) (w := w) (base := base) Z D__law_next G__law_ring
  have M_Course_next_row := ok_next_row (P := P) (w := w) (base := base) (C := He.ga K "Ring") (CC := He.ga K "Course") Z R RC G_Course_next_row
  have M_Course_is_shifted := ok_is_shifted (P := P) (w := w) (base := base) (C := He.ga K "Ring") (CC := He.ga K "Course") Z RC G_Course_is_shifted
  have M_Course_is_settled := ok_is_settled (P := P) (w := w) (base := base) (C := He.ga K "Ring") (CC := He.ga K "Course") Z R RC M_Course_is_shifted G_Course_is_settled
  have I_Course := ok_Course_init (P := P) (w := w) (base := base) (C := He.ga K "Ring") (CC := He.ga K "Course") Z R RC M_Course_is_settled M_Course_is_shifted M_Course_next_row G_Course___init__
  have M_Course_end := ok_Course_end (P := P) (w := w) (base := base) (C := He.ga K "Ring") (CC := He.ga K "Course") Z RC G_Course_end
  have Q_Ring_days := ok_Ring_days (P := P) (w := w) (base := base) (C := He.ga K "Ring") Z R G_Ring_days
  have Q_Ring_starts := ok_Ring_starts (P := P) (w := w) (base := base) (C := He.ga K "Ring") Z R G_Ring_starts
  have F_Ring___getitem__ := ok_Ring_get (P := P) (w := w) (base := base) (C := He.ga K "Ring") Z R D_is_integer G_Ring___getitem__
  have F_Ring___call__ := ok_Ring_call (P := P) (w := w) (base := base) (C := He.ga K "Ring") (CC := He.ga K "Course") Z R RC c_MAX_NUMBER M_Ring_need_reader D_check_number I_Course M_Course_end G_Ring___call__
  have DX_check_number := okx_check_number (P := P) (w := w) (base := base) Z Exc_InvalidNumber g_InvalidNumber D_is_integer G_check_number
  have F_Ring___rshift__ := ok_Ring_shr (P := P) (w := w) (base := base) (C := He.ga K "Ring") Z R D_is_integer I_Ring G_Ring___rshift__
  have M_Ring___eq__ := ok_Ring_eq (P := P) (w := w) (base := base) (C := He.ga K "Ring") Z R Isi_Ring g_Ring G_Ring___eq__
  have D__law_like := ok_like (P := P) (w := w) (base := base) Z G__law_like
  have D__law_terms := ok_terms (P := P) (w := w) (base := base) Z G__law_terms
  have D__law_pace := ok_lpace (P := P) (w := w) (base := base) Z D__law_terms G__law_pace
  have E_InvalidChain := ok_InvalidChain (P := P) (w := w) (base := base) Z Err_InvalidChain Rin_ReadingError g_ReadingError g_InvalidChain G_InvalidChain___init__
  have T__law_told := ok_told (P := P) (w := w) (base := base) Z g_ReadingError g_InvalidRing g_InvalidChain g_UnknownReader g_UnknownBook g_InvalidNumber g_SameBook g_OtherRing
  have MX_Ring_need_reader := okx_need_reader (P := P) (w := w) (base := base) (C := He.ga K "Ring") Z R Exc_UnknownReader g_UnknownReader D_is_integer G_Ring_need_reader
  have FX_Ring___call__ := okx_Ring_call (P := P) (w := w) (base := base) (C := He.ga K "Ring") Z R c_MAX_NUMBER M_Ring_need_reader MX_Ring_need_reader DX_check_number G_Ring___call__
  have E_InvalidRing := ok_InvalidRing (P := P) (w := w) (base := base) Z Err_InvalidRing Rin_ReadingError g_ReadingError g_InvalidRing G_InvalidRing___init__
  have D__law_pick := ok_pick (P := P) (w := w) (base := base) Z D__law_next G__law_pick
  have DX_check_days := okx_check_days (P := P) (w := w) (base := base) Z c_MAX_READERS c_MAX_DAYS Err_InvalidRing E_InvalidRing D_is_integer G_check_days
  have DX_check_starts := okx_check_starts (P := P) (w := w) (base := base) Z c_MAX_BOOKS Err_InvalidRing E_InvalidRing D_is_integer G_check_starts
  have IX_Ring := okx_Ring_init (P := P) (w := w) (base := base) (C := He.ga K "Ring") Z R DX_check_days D_check_days DX_check_starts G_Ring___init__
  have FX_Ring___getitem__ := okx_getitem (P := P) (w := w) (base := base) (C := He.ga K "Ring") Z R Exc_UnknownReader g_UnknownReader D_is_integer G_Ring___getitem__
  have FX_Ring___rshift__ := okx_rshift (P := P) (w := w) (base := base) (C := He.ga K "Ring") Z R Exc_InvalidNumber g_InvalidNumber D_is_integer G_Ring___rshift__
  have MX_Ring_with_days := okx_with (P := P) (w := w) (base := base) (C := He.ga K "Ring") Z R M_Ring_need_reader MX_Ring_need_reader IX_Ring I_Ring G_Ring_with_days
  obtain ⟨_, FB__law_bad_rings⟩ := c.def_ 33 (d := gd "_law_bad_rings" s__law_bad_rings)
  have D__law_bad_rings := Df.lam (He.glo_ok X G (c.fact 57)) (Fun_ofD FB__law_bad_rings) sc__law_bad_rings b__law_bad_rings (fun vs H Q E h => sp_badRings_len h) (ok_badRings (P := P) (w := w) (base := base) (C := He.ga K "Ring") Z R ne2 Err_InvalidRing G__law_told T__law_told D__law_next D__law_pick IX_Ring) (TBs (He.cT K ("_law_bad_rings", none)) (List.mem_cons_of_mem _ List.mem_cons_self))
  have MX_Ring___eq__ := okx_Ring_eqT (P := P) (w := w) (base := base) (C := He.ga K "Ring") Z R Eqt_Ring g_Ring G_Ring___eq__
  have S_Ring_single := ok_single (P := P) (w := w) (base := base) (C := He.ga K "Ring") Z R I_Ring G_Ring_single
  exact fn_lam (st := s_law) (Fun_ofD FL) sc_law (fun vs H Q E h => sp_law_len h) (bd_law (P := P) (w := w) (base := base) Z R Exc_UnknownReader Exc_InvalidNumber G__law_told T__law_told D__law_dice D__law_next D__law_ring I_Ring D__law_like D__law_pick MX_Ring_with_days FX_Ring___getitem__ F_Ring___getitem__ F_Ring___rshift__ Shr_Ring FX_Ring___rshift__ Shv_Ring M_Ring___eq__ MX_Ring___eq__ Eqt_Ring Q_Ring_days Q_Ring_starts Q_Ring_books Q_Ring_pace M_Ring___len__ D__law_pace ne2 Err_InvalidRing D__law_bad_rings S_Ring_single g_Ring) TB
end G48
open PySem PySem.W PySem.Calls PyProof.Rows
theorem PySem.Challenge.cw_readingring_k01_rings_and_their_signs_holds : PySem.Challenge.rw_readingring_k01_rings_and_their_signs.Holds := by
  w_on; o_law
  refine HandSHeadRun.head_any (r := OpenLaw.row PySem.Challenge.rw_readingring_k01_rings_and_their_signs) (q := view (OpenLaw.row PySem.Challenge.rw_readingring_k01_rings_and_their_signs).prog [33]) (H := G48.hk) (ob := G48.ob) (M := 4000) (loose := G48.loose) (d := HandSHeadRun.topDef (OpenLaw.row PySem.Challenge.rw_readingring_k01_rings_and_their_signs).prog 33) (kwd := []) G48.ob_eq
    (by kernel_rfl) (fun s => by kernel_rfl) G48.run (by kernel_rfl) (by kernel_rfl) (by kernel_rfl) (by rfl) (by first | assumption | decide +kernel) (by decide +kernel) ⟨rfl, rfl, rfl, rfl, rfl, by decide +kernel⟩ ?hw ?hc
  case hw => w_witness2
  case hc =>
    refine G48.walk_lams (l := PySem.Challenge.rw_readingring_k01_rings_and_their_signs) (n := 63) (k := 15) (x := "_law_script") rfl (by decide) (by kernel_rfl) ⟨rfl, by decide, by decide⟩ ?F
    intro w mg fa h Y G hmg0
    obtain ⟨K, KX, c⟩ := Y
    have hmg : mg ("law" : PySem.Str) = some (.ref fa) := by
      have e : (HandSHeadRun.topDef (OpenLaw.row PySem.Challenge.rw_readingring_k01_rings_and_their_signs).prog 33).name = ("law" : PySem.Str) := by kernel_rfl
      rw [← e]
      exact hmg0
    obtain ⟨fd, hb, hF⟩ := G48.facts (P := (PySem.Challenge.rw_readingring_k01_rings_and_their_signs).prog) (w := w) KX G hmg c
    refine ⟨K, KX, fd, G48.tsL K, G48.sp_law K, fun p hp => ?_, hb, fun H a ns hl hT hS => ⟨a, ns, rfl, hS, hl, hT _ (by simp [G48.tsL]), hT _ (by simp [G48.tsL]), fun _ => rfl⟩, fun base _ _ TB => hF base TB⟩
    simp only [G48.tsL, List.mem_cons, List.not_mem_nil, or_false] at hp
    rcases hp with rfl | rfl
    · have z := c.2 ("law", none) (by simp)
      exact ⟨z.2.2, z.2.1, PySem.W.codeHd_of_K KX z.1⟩
    · have z := c.2 ("_law_bad_rings", none) (by simp)
      exact ⟨z.2.2, z.2.1, PySem.W.codeHd_of_K KX z.1⟩
