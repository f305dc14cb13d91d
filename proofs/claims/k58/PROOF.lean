import PyProof.Rows.All
import Wide.All
import OpenK.AllK
import Wide.FinOn
import HandS.ForMost
import HandS.ForExc
import HandS.Evl
import HandS.Property
import HandS.IsInst
import HandS.TupAny
import HandS.Flow
import HandS.Zip
import HandS.Conv
import HandS.Defaults
import HandS.Head0
import HandS.Head1
import HandS.Head2
import HandS.HeadEnd
import HandS.HeadHook1
import HandS.HeadHook2
import HandS.HeadNt
import HandS.TupMul
import HandS.TupLe
import HandS.Strs
import HandS.Walk
import KE.GoesEnum
import KE.GoesMore
import KE.DatumOrd
import HandS.Deep
import HandS.OwnEq
import KE.KTupSum
import PyProof.RulesMatchSeq
import PyProof.Rows.MatchSeqLen
import KE.KDflt
import HandS.Lambda
import HandS.ExcIs
import HandS.ExcOwn
import HandS.WordsExc
import HandS.EndTab
import HandS.HeadHook4
import HandS.ExcInit
import HandS.ExcField
import HandS.FStr
import KE.KExcIs
import KE.KOpsOwn
import HandS.ClsMeth
import HandS.SetBool
import HandS.SetFor
import HandS.DictComp
import HandS.WordsDict
import HandS.Iter
import HandS.Star
import HandS.Style
import KE.KRevSl
import PySem.Challenge.RW_readingring_k58_whole_observers_by_all_d
set_option Elab.async false
set_option linter.all false
set_option maxRecDepth 100000
set_option maxHeartbeats 2000000
/-! a Hook whose facts are any Bools of the part of the heap -/
namespace Gp
open PySem PySem.W PySem.Spec PyProof.Rows He5
abbrev FB : Type := Frag → Bool
def obsP (fas : List FB) (fn : List DefA) (K : Frag) : He.AlD := ((fas.all fun f => f K) && fn.all fun d => d.ok K, fn.map fun d => fnA K (d.at_ K))
def SaysP (fas : List FB) (fn : List DefA) (K : Frag) : Prop := obsP fas fn K = valA fn
def obsPG (n : Nat) (fas : List FB) (fn : List DefA) (g : Addr → Option Obj) : He.AlD := obsP fas fn (He.frG g (asA g n))
def hookP (n : Nat) (fas : List FB) (fn : List DefA) : Hook where
  α := He.AlD
  obs := fun s => obsPG n fas fn s.heap.get?
  val := fun _ => valA fn
  says := fun _ h => ∃ K : Frag, K.In h ∧ SaysP fas fn K
  of := fun _ _ e => ⟨_, He.frG_in, e⟩
  keeps := fun _ _ _ ⟨K, hK, c⟩ k => ⟨K, Frag.In.keeps hK k, c⟩
theorem obsPG_eq {n : Nat} {fas : List FB} {fn : List DefA} {g : Addr → Option Obj} {s : Shared} (h : ∀ a, g a = s.heap.get? a) : obsPG n fas fn g = (hookP n fas fn).obs s := by
  have e : g = s.heap.get? := funext h
  rw [e] <;> rfl
section
variable {fas : List FB} {fn : List DefA} {K : Frag}
theorem SaysP.fact (c : SaysP fas fn K) (i : Nat) {f : FB} (h : fas[i]? = some f := by rfl) : f K = true := by
  have c1 := (He.ba (show ((fas.all fun f => f K) && fn.all fun d => d.ok K) = true from congrArg (fun z : He.AlD => z.1) c)).1
  exact List.all_eq_true.mp c1 f (List.mem_of_getElem? h)
theorem SaysP.def_ (c : SaysP fas fn K) (i : Nat) {d : DefA} (h : fn[i]? = some d := by rfl) : ∃ fd, L2.FunD K d.name d.qual d.params d.body d.scope (d.dvs K) (d.kws K) (d.at_ K) fd := by
  have c2 := (He.ba (show ((fas.all fun f => f K) && fn.all fun d => d.ok K) = true from congrArg (fun z : He.AlD => z.1) c)).2
  have e : fn.map (fun d => fnA K (d.at_ K)) = fn.map DefA.val := congrArg (fun z : He.AlD => z.2) c
  have e2 : (fn.map fun d => fnA K (d.at_ K))[i]? = (fn.map DefA.val)[i]? := by rw [e]
  rw [List.getElem?_map, List.getElem?_map, h] at e2
  exact DefA.funD (Option.some.inj e2) (List.all_eq_true.mp c2 d (List.mem_of_getElem? h))
end
/-- a property's getter -/
def pga (K : Frag) (C : Addr) (m : PySem.Str) : Addr := match findIn K (.ref C) m with
  | some (some (.ref p)) => (match recIn K p "property" with
    | some (.ref g :: _) => g
    | _ => 0)
  | _ => 0
def ppB (K : Frag) (C : Addr) (m : PySem.Str) : Bool := match findIn K (.ref C) m with
  | some (some (.ref p)) => decide (specialIn K (.ref p) "__get__" = some (some (.builtin "property.__get__"))) && (decide (takesIn K (.ref p) = some true) && (match recIn K p "property" with
    | some (.ref _ :: _) => true
    | _ => false))
  | _ => false
theorem pp_ok {K : Frag} {C : Addr} {m : PySem.Str} (h : ppB K C m = true) : ∃ p, L2.PropOf K C m p (pga K C m) := by
  unfold ppB at h
  unfold pga
  split at h
  · rename_i p hp
    obtain ⟨h1, h2⟩ := He.ba h
    obtain ⟨h2, h3⟩ := He.ba h2
    split at h3
    · rename_i g rest hr
      refine ⟨p, hp, of_decide_eq_true h1, of_decide_eq_true h2, rest, ?_⟩
      exact hr
    · cases h3
  · cases h
end Gp
theorem Fun_ofD {K : PySem.W.Frag} {x q : PySem.Str} {st : PySem.Stmt} {f : PySem.Addr} {fd : PySem.FuncData} (F : L2.FunD K x q (L2.defArgs st) (L2.defBody st) (L2.defScope st) [] [] f fd) : L2.Fun K x q st f fd := by
  obtain ⟨oc, od, dV, kV, doc, pm, an, cdv, ct, osl, rfl, lk, hcd, hD, hK⟩ := F.ex
  rcases hD with ⟨_, rfl⟩ | ⟨e, _⟩
  · exact ⟨⟨oc, od, kV, doc, pm, an, cdv, ct, osl, rfl, lk, hcd⟩, F.kp⟩
  · exact absurd rfl e
namespace G48
open PySem PySem.Spec PyProof.Rows L2 Evl
/-! ### the built-ins that stand -/
structure Blt (mg : Str → Option Value) : Prop where
  zlen : mg "len" = none
  zisinstance : mg "isinstance" = none
  zint : mg "int" = none
  zbool : mg "bool" = none
  ztuple : mg "tuple" = none
  zlist : mg "list" = none
  zmax : mg "max" = none
  zmin : mg "min" = none
  zsum : mg "sum" = none
  zrange : mg "range" = none
  zenumerate : mg "enumerate" = none
  zzip : mg "zip" = none
  zall : mg "all" = none
  zany : mg "any" = none
  zsorted : mg "sorted" = none
  zstr : mg "str" = none
  zset : mg "set" = none
  zabs : mg "abs" = none
  zdivmod : mg "divmod" = none
  zbytes : mg "bytes" = none
  zdict : mg "dict" = none
  zValueError : mg "ValueError" = none

/-! ### defs that stand, and defs that keep a promise -/
structure GFun (K : PySem.W.Frag) (mg : Str → Option Value) (x : Str) (st : Stmt) : Prop where
  ex : ∃ f fd, mg x = some (.ref f) ∧ Fun K x x st f fd
structure CFun (K : PySem.W.Frag) (C : Addr) (m q : Str) (st : Stmt) : Prop where
  ex : ∃ f fd, Meth K C m f ∧ Fun K m q st f fd
structure PFun (K : PySem.W.Frag) (C : Addr) (m q : Str) (st : Stmt) : Prop where
  ex : ∃ p f fd, PropOf K C m p f ∧ Fun K m q st f fd
structure IFun (K : PySem.W.Frag) (mg : Str → Option Value) (x : Str) (C : Addr) (q : Str) (st : Stmt) : Prop where
  ex : ∃ f fd, Mk K C f ∧ mg x = some (.ref C) ∧ Fun K "__init__" q st f fd

section
variable (P : Program) (w : World) (K : PySem.W.Frag) (mg : Str → Option Value) (base : Heap)
structure Df (k : Nat) (x : Str) (ps : List Str) (sp : Sp) : Prop where
  ex : ∃ f fd, mg x = some (.ref f) ∧ PySem.W.keepIn K (.ref f) = true ∧ Binds K fd ps [] ∧ FnOk P w K mg base (L2.CX P w) k f fd ps sp
structure Mf (C : Addr) (k : Nat) (m : Str) (ps : List Str) (sp : Sp) : Prop where
  ex : ∃ f fd, Meth K C m f ∧ Binds K fd ps [] ∧ FnOk P w K mg base (L2.CX P w) k f fd ps sp
structure Pf (C : Addr) (k : Nat) (m : Str) (ps : List Str) (sp : Sp) : Prop where
  ex : ∃ p f fd, PropOf K C m p f ∧ Binds K fd ps [] ∧ FnOk P w K mg base (L2.CX P w) k f fd ps sp
structure If (x : Str) (C : Addr) (k : Nat) (ps : List Str) (sp : Sp) : Prop where
  ex : ∃ f fd, Mk K C f ∧ mg x = some (.ref C) ∧ Binds K fd ps [] ∧ FnOk P w K mg base (L2.CX P w) k f fd ps sp
end

section
variable {P : Program} {w : World} {K : PySem.W.Frag} {mg : Str → Option Value} {base : Heap}
/-- the body's question -/
abbrev Body (P : Program) (w : World) (K : PySem.W.Frag) (mg : Str → Option Value) (base : Heap) (qual : Str) (N : List Str) (st : Stmt) (f : Addr) (k : Nat) (sp : Sp) : Prop :=
  ∀ (cdv : Value) (A : Around) (outer : List Env) (s : Shared) (H : Hp) (vs : List V) (Q : VK) (E : XK), Room k (A.deeper (envOfC qual (defScope st) s.heap.objs.size f cdv)) → sp vs H Q E →
      ∃ t, PSs (cxOf (L2.CX P w) P w K mg base N qual (defScope st) f cdv A outer s H E) (defBody st) t ∧ t { nx := fun _ H' => Q .non H', rt := Q } (start N vs) H
abbrev BindL (q x : Str) (st : Stmt) (ps : List Str) : Prop := ∀ (kV doc pm : Value) (an : Option Addr) (cdv ct : Value) (us : List Value), us.length = ps.length → bindArgs (PySem.W.fnOf x q (defArgs st) (defBody st) (defScope st) .none kV doc pm an cdv ct) ⟨us, []⟩ = pure (ps.zip us)
theorem Df.of {x : Str} {st : Stmt} {N ps : List Str} {k : Nat} {sp : Sp} (G : GFun K mg x st) (S : FnScope N ps (defScope st)) (hb : BindL x x st ps)
    (len : ∀ vs H Q E, sp vs H Q E → vs.length = ps.length) (body : ∀ f, Body P w K mg base x N st f k sp) : Df P w K mg base (k + 1) x ps sp := by
  obtain ⟨f, fd, hg, F⟩ := G.ex
  exact ⟨f, fd, hg, F.kp, F.binds hb, F.okX S len (body f)⟩
theorem Mf.of {C : Addr} {m q : Str} {st : Stmt} {N ps : List Str} {k : Nat} {sp : Sp} (G : CFun K C m q st) (S : FnScope N ps (defScope st)) (hb : BindL q m st ps)
    (len : ∀ vs H Q E, sp vs H Q E → vs.length = ps.length) (body : ∀ f, Body P w K mg base q N st f k sp) : Mf P w K mg base C (k + 1) m ps sp := by
  obtain ⟨f, fd, hg, F⟩ := G.ex
  exact ⟨f, fd, hg, F.binds hb, F.okX S len (body f)⟩
theorem Pf.of {C : Addr} {m q : Str} {st : Stmt} {N ps : List Str} {k : Nat} {sp : Sp} (G : PFun K C m q st) (S : FnScope N ps (defScope st)) (hb : BindL q m st ps)
    (len : ∀ vs H Q E, sp vs H Q E → vs.length = ps.length) (body : ∀ f, Body P w K mg base q N st f k sp) : Pf P w K mg base C (k + 1) m ps sp := by
  obtain ⟨p, f, fd, hg, F⟩ := G.ex
  exact ⟨p, f, fd, hg, F.binds hb, F.okX S len (body f)⟩
theorem If.of {C : Addr} {x q : Str} {st : Stmt} {N ps : List Str} {k : Nat} {sp : Sp} (G : IFun K mg x C q st) (S : FnScope N ps (defScope st)) (hb : BindL q "__init__" st ps)
    (len : ∀ vs H Q E, sp vs H Q E → vs.length = ps.length) (body : ∀ f, Body P w K mg base q N st f k sp) : If P w K mg base x C (k + 1) ps sp := by
  obtain ⟨f, fd, hg, hm, F⟩ := G.ex
  exact ⟨f, fd, hg, hm, F.binds hb, F.okX S len (body f)⟩
end
section
variable {X : Cx} {k j : Nat} {x : Str} {ps : List Str} {sp : Sp} {E : XK} {p pos apos : Pos} {e o : Expr} {es : List Expr} {t : TA} {ta : TE} {C : Addr} {m : Str}
/-- f(e, ..), f a def of the text, raising as E says -/
theorem pg (D : Df X.prog X.w X.K X.mg X.base k x ps sp) (hr : Room j X.A) (ha : PA X (e :: es) t) (hx : Passes (L2.CX X.prog X.w) X E := by exact passL) (hk : k ≤ j := by decide) (hg : Gl X x := by rfl)
    (hd : (x == ("__debug__" : Str)) = false := by decide) (he : starEach (e :: es) X.env = (false, eval e X.env) :: starEach es X.env := by rfl) (hpl : (backTo pos (starEach es X.env)).any (·.1) = false := by rfl) :
    PE X (.Call (.Name x p) (e :: es) [] pos) (tCall sp [] E t) := by
  obtain ⟨f, fd, hm, kp, b, F⟩ := D.ex
  exact pe_call F (hr.mono hk) hg hm kp b .nil hx ha hd he hpl
theorem pg0 (D : Df X.prog X.w X.K X.mg X.base k x ps sp) (hr : Room j X.A) (hx : Passes (L2.CX X.prog X.w) X E := by exact passL) (hk : k ≤ j := by decide) (hg : Gl X x := by rfl)
    (hd : (x == ("__debug__" : Str)) = false := by decide) : PE X (.Call (.Name x p) [] [] pos) (tCall sp [] E tNil) := by
  obtain ⟨f, fd, hm, kp, b, F⟩ := D.ex
  exact pe_call0 F (hr.mono hk) hg hm kp b .nil hx hd
/-- o.m(e, ..), o.m() -/
theorem pm {pl : Sem Bool} (ho : PE X o ta) (c : Cls X.K C) (D : Mf X.prog X.w X.K X.mg X.base C k m ps sp) (hr : Room j X.A) (ha : PA X (e :: es) t) (hx : Passes (L2.CX X.prog X.w) X E := by exact passL) (hk : k ≤ j := by decide)
    (hst : starEach (e :: es) X.env = (false, eval e X.env) :: starEach es X.env := by rfl) (hpl : (backTo pos (starEach es X.env)).any (·.1) = false := by rfl)
    (ht : eval (.Call (.Attribute o m apos) (e :: es) [] pos) X.env = (do
      let ov ← eval o X.env
      standAt apos.atName
      let (f, first) ← holding [ov] (getMethod ov m pl)
      callWith pos f first (backTo pos (starEach (e :: es) X.env)) (backToKw pos (keywordEach [] X.env))) := by rfl) :
    PE X (.Call (.Attribute o m apos) (e :: es) [] pos) (tMeth C m sp [] E ta t) := by
  obtain ⟨f, fd, hm, b, F⟩ := D.ex
  exact pe_meth ho c hm F (hr.mono hk) b .nil hx ha hst hpl ht
theorem pm0 {pl : Sem Bool} (ho : PE X o ta) (c : Cls X.K C) (D : Mf X.prog X.w X.K X.mg X.base C k m ps sp) (hr : Room j X.A) (hx : Passes (L2.CX X.prog X.w) X E := by exact passL) (hk : k ≤ j := by decide)
    (ht : eval (.Call (.Attribute o m apos) [] [] pos) X.env = (do
      let ov ← eval o X.env
      standAt apos.atName
      let (f, first) ← holding [ov] (getMethod ov m pl)
      callWith pos f first (backTo pos (starEach [] X.env)) (backToKw pos (keywordEach [] X.env))) := by rfl) :
    PE X (.Call (.Attribute o m apos) [] [] pos) (tMeth C m sp [] E ta tNil) := by
  obtain ⟨f, fd, hm, b, F⟩ := D.ex
  exact pe_meth0 ho c hm F (hr.mono hk) b .nil hx ht
/-- o.m, a property -/
theorem pp (ho : PE X o ta) (c : Cls X.K C) (D : Pf X.prog X.w X.K X.mg X.base C k m ps sp) (hr : Room j X.A) (hk : k + 1 ≤ j := by decide) (hab : attributeBase o m X.env (eval o X.env) = eval o X.env := by rfl) :
    PE X (.Attribute o m pos) (tProp C sp [] E0 ta) := by
  obtain ⟨p, f, fd, hm, b, F⟩ := D.ex
  exact pe_prop ho c hm F (hr.mono hk) b .nil passL hab
/-- C(e, ..) -/
theorem pk (D : If X.prog X.w X.K X.mg X.base x C k ps sp) (hr : Room j X.A) (ha : PA X (e :: es) t) (hx : Passes (L2.CX X.prog X.w) X E := by exact passL) (hk : k + 1 ≤ j := by decide) (hg : Gl X x := by rfl)
    (hd : (x == ("__debug__" : Str)) = false := by decide) (he : starEach (e :: es) X.env = (false, eval e X.env) :: starEach es X.env := by rfl) (hpl : (backTo pos (starEach es X.env)).any (·.1) = false := by rfl) :
    PE X (.Call (.Name x p) (e :: es) [] pos) (tMake C sp [] E t) := by
  obtain ⟨f, fd, M, hm, b, F⟩ := D.ex
  exact pe_make M F (hr.mono hk) hg hm b .nil hx ha hd he hpl
/-- a call of a def one level in (by a built-in) -/
theorem run_in1 {f : Addr} {fd : FuncData} {ds : List Value} {dvs : List V} {pins : List (Addr × Obj)} {σ : L2.St} {H : Hp} {s : Shared} {Q : VK} {us : List Value} {vs : List V} (F : FnOk X.prog X.w X.K X.mg X.base (L2.CX X.prog X.w) k f fd ps sp) (hr : Room (k + 1) X.A) (hb : Binds X.K fd ps ds) (hd : Vals dvs ds) (hx : Passes (L2.CX X.prog X.w) X E)
    (I : Inv X pins σ H s) (r : Vals vs us) (h : sp (vs ++ dvs) H Q E) : wpAny (model X.prog X.w) X.A.in1 (call (.ref f) us) (EP X pins σ Q) X.xe s := by
  have r2 : Vals (vs ++ dvs) (us ++ ds) := r.append hd
  have hl : (us ++ ds).length = ps.length := by rw [← r2.length]; exact F.len _ _ _ _ h
  refine wpAny_call (codeAny_mono (F.run X.A.in1 X.stack s H ⟨us, []⟩ (us ++ ds) (vs ++ dvs) Q E hr.in1 I.env0.in1 (hb s us I.kIn hl) r2 h) fun r s' hq => ?_)
  cases r with
  | error e => exact hx pins σ H s e s' I hq
  | ok fl =>
    cases fl with
    | ret u => exact I.after hq
    | next => exact False.elim hq
    | brk => exact False.elim hq
    | cont => exact False.elim hq
/-- len(o), by the own __len__ -/
def rLenO (C : Addr) (sp : Sp) (E : XK) : List V → Hp → VK → Prop := fun xs H Q => ∃ a dx fs, xs = [.ref a] ∧ H a = some (.ins C dx fs) ∧ sp [.ref a] H (fun v H2 => ∃ n : Int, v = .int n ∧ (0 ≤ n ∧ n < 2 ^ 63) ∧ Q (.int n) H2) E
theorem call_lenO (D : Mf X.prog X.w X.K X.mg X.base C k "__len__" ps sp) (hr : Room j X.A) (hk : k + 1 ≤ j := by decide) (hx : Passes (L2.CX X.prog X.w) X E := by exact passL) : CallR X (.builtin "len") (rLenO C sp E) := by
  intro pins s σ H xs us Q I r h
  obtain ⟨a, dx, fs, rfl, ea, q⟩ := h
  obtain ⟨u, rfl, rx⟩ := vals1 r
  obtain rfl : u = Value.ref a := rx
  obtain ⟨f, fd, hm, b, F⟩ := D.ex
  obtain ⟨mA, O, _, _, _, _⟩ := ins_get I.hok ea
  obtain ⟨od, J, _⟩ := O.look
  obtain ⟨m0, fr⟩ := I.fr
  refine PySem.W.len_K fr I.ok.mod.kin J hm.at_ hm.fn ?_
  refine thn (run_in1 F (hr.mono hk) b .nil hx I (us := [.ref a]) (vs := [.ref a]) (.cons rfl .nil) q) fun u s1 ⟨v, H1, I1, rv, n, ev, hn, q1⟩ => ?_
  subst ev
  obtain ⟨tk, rfl⟩ := rv
  exact ⟨hn, .int n, H1, I1.tok _, ⟨_, rfl⟩, q1⟩
end
end G48
namespace G48
open PySem PySem.Spec PyProof.Rows L2 Evl
/-! ### heaps: what stands is carried over -/
/-- all but l stands -/
def Exb (l : Addr) (H H' : Hp) : Prop := ∀ b o, b ≠ l → H b = some o → H' b = some o
theorem Exb.upd {H : Hp} {l : Addr} {o : HO} : Exb l H (upd H l o) := fun b u nb e => by rw [upd_ne nb]; exact e
theorem Exb.of {l : Addr} {H H' : Hp} (e : Ex H H') : Exb l H H' := fun b u _ h => e b u h
theorem Exb.trans {l : Addr} {H H1 H2 : Hp} (a : Exb l H H1) (b : Exb l H1 H2) : Exb l H H2 := fun c o n h => b c o n (a c o n h)
theorem Exb.ex {l : Addr} {H0 H H' : Hp} (h : H0 l = none) (a : Ex H0 H) (b : Exb l H H') : Ex H0 H' := fun c o e => b c o (ne_of_none e h) (a c o e)
theorem ex_at {H H' : Hp} {a : Addr} {o : HO} (e : Ex H H') (h : H a = some o) : H' a = some o := e a o h
theorem exb_at {H H' : Hp} {l a : Addr} {o : HO} (e : Exb l H H') (n : a ≠ l) (h : H a = some o) : H' a = some o := e a o n h
theorem exb_t {K : PySem.W.Frag} {H H' : Hp} {l a : Addr} {xs ys : List V} (e : Exb l H H') (hl : H l = some (.lst ys)) (h : SqT K H a xs) : SqT K H' a xs := by
  rcases h with (h | ⟨o, h⟩) | h
  · exact .inl (.inl (e _ _ (ne_of h hl (by intro z; cases z)) h))
  · exact .inl (.inr ⟨o, e _ _ (ne_of h hl (by intro z; cases z)) h⟩)
  · exact .inr h
theorem exb_l {K : PySem.W.Frag} {H H' : Hp} {l a : Addr} {xs : List V} (e : Exb l H H') (n : a ≠ l) (h : SqL K H a xs) : SqL K H' a xs := by
  rcases h with (h | ⟨o, h⟩) | h
  · exact .inl (.inl (e _ _ n h))
  · exact .inl (.inr ⟨o, e _ _ n h⟩)
  · exact .inr h
theorem exb_ins {H H' : Hp} {l a C dx : Addr} {fs : List (Str × V)} {ys : List V} (e : Exb l H H') (hl : H l = some (.lst ys)) (h : H a = some (.ins C dx fs)) : H' a = some (.ins C dx fs) :=
  e _ _ (ne_of h hl (by intro z; cases z)) h


theorem sz1000 {n : Nat} (h : n ≤ 1000) : n ≤ sizeLine := Nat.le_trans h (by rw [sizeLine_eq]; decide)
theorem lt1000 {n : Nat} (h : n < 1000) : n < sizeLine := Nat.lt_trans h (by rw [sizeLine_eq]; decide)
/-! ### a reading's first step, by what stands at its head -/
section
variable {K : PySem.W.Frag} {σ : L2.St} {H H' : Hp} {ta tb tc te : TE} {t u : TT} {x y z v : V} {Q : VK} {QB : Bool → Hp → Prop} {i : Nat} {D : Ends} {t1 t2 t3 : TS} {tr : TA} {QA : List V → Hp → Prop} {r r' : R2} {a C dx : Addr} {fs : List (Str × V)} {f m : Str} {b c : Bool} {xs ys : List V} {sp : Sp} {E : XK} {ra : List V → Hp → VK → Prop}
theorem g_var (h : σ[i]? = some (some v)) (q : Q v H) : tVar i σ H Q := ⟨v, h, q⟩
theorem g_c (q : Q v H) : tC v σ H Q := q
theorem g_op (q : ta σ H fun x H1 => tb σ H1 fun y H2 => r x y H2 Q) : tOp r ta tb σ H Q := q
theorem g_un {r : V → Hp → VK → Prop} (q : ta σ H fun x H1 => r x H1 Q) : tUn r ta σ H Q := q
theorem g_nil (q : QA [] H) : tNil σ H QA := q
theorem g_cons (q : ta σ H fun x H1 => tr σ H1 fun xs H2 => QA (x :: xs) H2) : tCons ta tr σ H QA := q
theorem g_cb (q : tr σ H fun vs H1 => ra vs H1 Q) : tCB ra tr σ H Q := q
theorem app_nil_sp (sp : Sp) (Q : VK) (E : XK) : (fun (vs : List V) (H1 : Hp) => sp (vs ++ []) H1 Q E) = fun vs H1 => sp vs H1 Q E := by
  funext vs H1
  rw [List.append_nil]
theorem g_call (q : tr σ H fun vs H1 => sp vs H1 Q E) : tCall sp [] E tr σ H Q := by
  show tr σ H (fun vs H1 => sp (vs ++ []) H1 Q E)
  rw [app_nil_sp]
  exact q
def kT (Q : VK) (xs : List V) (H1 : Hp) : Prop := xs.length ≤ sizeLine ∧ ∀ p, H1 p = none → Q (.ref p) (upd H1 p (.tup xs))
def kL (Q : VK) (xs : List V) (H1 : Hp) : Prop := xs.length ≤ sizeLine ∧ ∀ p, H1 p = none → Q (.ref p) (upd H1 p (.lst xs))
theorem g_tup (q : tr σ H (kT Q)) : tTup tr σ H Q := q
theorem g_lst (q : tr σ H (kL Q)) : tLst tr σ H Q := q
theorem g_kT (h : xs.length ≤ sizeLine) (q : ∀ p H2, H p = none → Ex H H2 → H2 p = some (.tup xs) → Q (.ref p) H2) : kT Q xs H := ⟨h, fun p hp => q p _ hp (Ex.new hp) upd_same⟩
theorem g_kL (h : xs.length ≤ sizeLine) (q : ∀ p H2, H p = none → Ex H H2 → H2 p = some (.lst xs) → Q (.ref p) H2) : kL Q xs H := ⟨h, fun p hp => q p _ hp (Ex.new hp) upd_same⟩
def kTest (Q : Bool → Hp → Prop) : VK := fun x H' => ∃ k, x = .bl k ∧ Q k H'
theorem g_test (q : ta σ H (kTest QB)) : tTest ta σ H QB := q
theorem g_B (q : ta σ H (kTest QB)) : tB ta σ H QB := q
theorem g_kTest (q : QB b H) : kTest QB (.bl b) H := ⟨b, rfl, q⟩
def kNot (Q : Bool → Hp → Prop) (c : Bool) (H1 : Hp) : Prop := Q (!c) H1
theorem g_not (q : t σ H (kNot QB)) : tNot t σ H QB := q
theorem g_kNotT (q : QB false H) : kNot QB true H := q
theorem g_kNotF (q : QB true H) : kNot QB false H := q
theorem g_kNotS (q : QB (!c) H) : kNot QB c H := q
def kAnd (u : TT) (σ : L2.St) (Q : Bool → Hp → Prop) (c : Bool) (H1 : Hp) : Prop := if c = true then u σ H1 Q else Q false H1
def kOr (u : TT) (σ : L2.St) (Q : Bool → Hp → Prop) (c : Bool) (H1 : Hp) : Prop := if c = true then Q true H1 else u σ H1 Q
theorem g_and (q : t σ H (kAnd u σ QB)) : tAnd t u σ H QB := q
theorem g_or (q : t σ H (kOr u σ QB)) : tOr t u σ H QB := q
theorem g_kAndT (q : u σ H QB) : kAnd u σ QB true H := q
theorem g_kAndF (q : QB false H) : kAnd u σ QB false H := q
theorem g_kOrT (q : QB true H) : kOr u σ QB true H := q
theorem g_kOrF (q : u σ H QB) : kOr u σ QB false H := q
theorem g_kAnd (h1 : c = true → u σ H QB) (h2 : c = false → QB false H) : kAnd u σ QB c H := by
  cases c with
  | true => exact h1 rfl
  | false => exact h2 rfl
theorem g_kOr (h1 : c = true → QB true H) (h2 : c = false → u σ H QB) : kOr u σ QB c H := by
  cases c with
  | true => exact h1 rfl
  | false => exact h2 rfl
def kAndV (tb : TE) (σ : L2.St) (Q : VK) : VK := fun x H1 => ∃ c, x = .bl c ∧ if c = true then tb σ H1 Q else Q (.bl false) H1
def kOrV (tb : TE) (σ : L2.St) (Q : VK) : VK := fun x H1 => ∃ c, x = .bl c ∧ if c = true then Q (.bl true) H1 else tb σ H1 Q
theorem g_andV (q : ta σ H (kAndV tb σ Q)) : tAndV ta tb σ H Q := q
theorem g_orV (q : ta σ H (kOrV tb σ Q)) : tOrV ta tb σ H Q := q
theorem g_kAndVT (q : tb σ H Q) : kAndV tb σ Q (.bl true) H := ⟨true, rfl, q⟩
theorem g_kAndVF (q : Q (.bl false) H) : kAndV tb σ Q (.bl false) H := ⟨false, rfl, q⟩
theorem g_kOrVT (q : Q (.bl true) H) : kOrV tb σ Q (.bl true) H := ⟨true, rfl, q⟩
theorem g_kOrVF (q : tb σ H Q) : kOrV tb σ Q (.bl false) H := ⟨false, rfl, q⟩
theorem g_kAndV (h1 : c = true → tb σ H Q) (h2 : c = false → Q (.bl false) H) : kAndV tb σ Q (.bl c) H := by
  cases c with
  | true => exact g_kAndVT (h1 rfl)
  | false => exact g_kAndVF (h2 rfl)
theorem g_kOrV (h1 : c = true → Q (.bl true) H) (h2 : c = false → tb σ H Q) : kOrV tb σ Q (.bl c) H := by
  cases c with
  | true => exact g_kOrVT (h1 rfl)
  | false => exact g_kOrVF (h2 rfl)
def kNotV (Q : VK) : VK := fun x H1 => ∃ c, x = .bl c ∧ Q (.bl (!c)) H1
theorem g_notV (q : ta σ H (kNotV Q)) : tNotV ta σ H Q := q
theorem g_kNotV (q : Q (.bl (!c)) H) : kNotV Q (.bl c) H := ⟨c, rfl, q⟩
def kIf (ta tb : TE) (σ : L2.St) (Q : VK) (c : Bool) (H1 : Hp) : Prop := if c = true then ta σ H1 Q else tb σ H1 Q
theorem g_if (q : t σ H (kIf ta tb σ Q)) : tIf t ta tb σ H Q := q
theorem g_kIfT (q : ta σ H Q) : kIf ta tb σ Q true H := q
theorem g_kIfF (q : tb σ H Q) : kIf ta tb σ Q false H := q
theorem g_kIf (h1 : c = true → ta σ H Q) (h2 : c = false → tb σ H Q) : kIf ta tb σ Q c H := by
  cases c with
  | true => exact h1 rfl
  | false => exact h2 rfl
def kIfS (t u : TS) (D : Ends) (σ : L2.St) (c : Bool) (H1 : Hp) : Prop := if c = true then t D σ H1 else u D σ H1
theorem g_ifS (q : t σ H (kIfS t1 t2 D σ)) : tIfS t t1 t2 D σ H := q
theorem g_kIfST (q : t1 D σ H) : kIfS t1 t2 D σ true H := q
theorem g_kIfSF (q : t2 D σ H) : kIfS t1 t2 D σ false H := q
theorem g_kIfS (h1 : c = true → t1 D σ H) (h2 : c = false → t2 D σ H) : kIfS t1 t2 D σ c H := by
  cases c with
  | true => exact h1 rfl
  | false => exact h2 rfl
def kChain (r' : R2) (tc : TE) (σ : L2.St) (y : V) (Q : VK) : VK := fun z H3 => ∃ k, z = .bl k ∧ (if k = true then tc σ H3 fun w' H4 => r' y w' H4 Q else Q (.bl false) H3)
theorem g_chain (q : ta σ H fun x H1 => tb σ H1 fun y H2 => r x y H2 (kChain r' tc σ y Q)) : tChain r r' ta tb tc σ H Q := q
theorem g_kChainT (q : tc σ H fun w' H4 => r' y w' H4 Q) : kChain r' tc σ y Q (.bl true) H := ⟨true, rfl, q⟩
theorem g_kChainF (q : Q (.bl false) H) : kChain r' tc σ y Q (.bl false) H := ⟨false, rfl, q⟩
theorem g_kChain (h1 : c = true → tc σ H fun w' H4 => r' y w' H4 Q) (h2 : c = false → Q (.bl false) H) : kChain r' tc σ y Q (.bl c) H := by
  cases c with
  | true => exact g_kChainT (h1 rfl)
  | false => exact g_kChainF (h2 rfl)
theorem y_kAnd (hc : c = true) (q : u σ H QB) : kAnd u σ QB c H := by rw [hc]; exact q
theorem n_kAnd (hc : c = false) (q : QB false H) : kAnd u σ QB c H := by rw [hc]; exact q
theorem y_kOr (hc : c = true) (q : QB true H) : kOr u σ QB c H := by rw [hc]; exact q
theorem n_kOr (hc : c = false) (q : u σ H QB) : kOr u σ QB c H := by rw [hc]; exact q
theorem y_kNot (hc : c = true) (q : QB false H) : kNot QB c H := by rw [hc]; exact q
theorem n_kNot (hc : c = false) (q : QB true H) : kNot QB c H := by rw [hc]; exact q
theorem y_kAndV (hc : c = true) (q : tb σ H Q) : kAndV tb σ Q (.bl c) H := by rw [hc]; exact g_kAndVT q
theorem n_kAndV (hc : c = false) (q : Q (.bl false) H) : kAndV tb σ Q (.bl c) H := by rw [hc]; exact g_kAndVF q
theorem y_kOrV (hc : c = true) (q : Q (.bl true) H) : kOrV tb σ Q (.bl c) H := by rw [hc]; exact g_kOrVT q
theorem n_kOrV (hc : c = false) (q : tb σ H Q) : kOrV tb σ Q (.bl c) H := by rw [hc]; exact g_kOrVF q
theorem y_kIf (hc : c = true) (q : ta σ H Q) : kIf ta tb σ Q c H := by rw [hc]; exact q
theorem n_kIf (hc : c = false) (q : tb σ H Q) : kIf ta tb σ Q c H := by rw [hc]; exact q
theorem y_kIfS (hc : c = true) (q : t1 D σ H) : kIfS t1 t2 D σ c H := by rw [hc]; exact q
theorem n_kIfS (hc : c = false) (q : t2 D σ H) : kIfS t1 t2 D σ c H := by rw [hc]; exact q
theorem y_kChain (hc : c = true) (q : tc σ H fun w' H4 => r' y w' H4 Q) : kChain r' tc σ y Q (.bl c) H := by rw [hc]; exact g_kChainT q
theorem n_kChain (hc : c = false) (q : Q (.bl false) H) : kChain r' tc σ y Q (.bl c) H := by rw [hc]; exact g_kChainF q
/-! objects -/
def kFld (K : PySem.W.Frag) (f : Str) (Q : VK) : VK := fun x H1 => ∃ a C dx fs v, x = .ref a ∧ H1 a = some (.ins C dx fs) ∧ Cls K C ∧ NoAttr K C f ∧ fs.lookup f = some v ∧ Q v H1
theorem g_fld (q : ta σ H (kFld K f Q)) : tFld K ta f σ H Q := q
theorem g_kFld (h : H a = some (.ins C dx fs)) (c : Cls K C) (n : NoAttr K C f) (l : fs.lookup f = some v) (q : Q v H) : kFld K f Q (.ref a) H := ⟨a, C, dx, fs, v, rfl, h, c, n, l, q⟩
def kMeth (C : Addr) (m : Str) (sp : Sp) (E : XK) (tr : TA) (σ : L2.St) (Q : VK) : VK := fun x H1 => ∃ a dx fs, x = .ref a ∧ H1 a = some (.ins C dx fs) ∧ fs.lookup m = none ∧ tr σ H1 fun vs H2 => sp (x :: vs) H2 Q E
theorem g_meth (q : ta σ H (kMeth C m sp E tr σ Q)) : tMeth C m sp [] E ta tr σ H Q := by
  have e : (fun (x : V) (H1 : Hp) => ∃ a dx fs, x = .ref a ∧ H1 a = some (.ins C dx fs) ∧ fs.lookup m = none ∧ tr σ H1 fun vs H2 => sp (x :: (vs ++ [])) H2 Q E) = kMeth C m sp E tr σ Q := by
    funext x H1
    have e2 : (fun (vs : List V) (H2 : Hp) => sp (x :: (vs ++ [])) H2 Q E) = fun vs H2 => sp (x :: vs) H2 Q E := by
      funext vs H2
      rw [List.append_nil]
    unfold kMeth
    rw [e2]
  show ta σ H (fun (x : V) (H1 : Hp) => ∃ a dx fs, x = .ref a ∧ H1 a = some (.ins C dx fs) ∧ fs.lookup m = none ∧ tr σ H1 fun vs H2 => sp (x :: (vs ++ [])) H2 Q E)
  rw [e]
  exact q
theorem g_kMeth (h : H a = some (.ins C dx fs)) (l : fs.lookup m = none) (q : tr σ H fun vs H2 => sp (.ref a :: vs) H2 Q E) : kMeth C m sp E tr σ Q (.ref a) H := ⟨a, dx, fs, rfl, h, l, q⟩
def kProp (C : Addr) (sp : Sp) (E : XK) (Q : VK) : VK := fun x H1 => ∃ a dx fs, x = .ref a ∧ H1 a = some (.ins C dx fs) ∧ sp [.ref a] H1 Q E
theorem g_prop (q : ta σ H (kProp C sp E Q)) : tProp C sp [] E ta σ H Q := q
theorem g_kProp (h : H a = some (.ins C dx fs)) (q : sp [.ref a] H Q E) : kProp C sp E Q (.ref a) H := ⟨a, dx, fs, rfl, h, q⟩
/-- a new instance: its own dict at dx -/
def kMake (C : Addr) (sp : Sp) (E : XK) (Q : VK) (vs : List V) (H1 : Hp) : Prop := ∀ x dx, H1 x = none → H1 dx = none → dx ≠ x → sp (.ref x :: vs) (upd (upd H1 dx (.own x)) x (.ins C dx [])) (fun v H2 => v = .non ∧ Q (.ref x) H2) E
theorem g_make (q : tr σ H (kMake C sp E Q)) : tMake C sp [] E tr σ H Q := by
  have e : (fun (vs : List V) (H1 : Hp) => ∀ x dx, H1 x = none → H1 dx = none → dx ≠ x → sp (.ref x :: (vs ++ [])) (upd (upd H1 dx (.own x)) x (.ins C dx [])) (fun v H2 => v = .non ∧ Q (.ref x) H2) E) = kMake C sp E Q := by
    funext vs H1
    rw [List.append_nil] <;> rfl
  show tr σ H (fun (vs : List V) (H1 : Hp) => ∀ x dx, H1 x = none → H1 dx = none → dx ≠ x → sp (.ref x :: (vs ++ [])) (upd (upd H1 dx (.own x)) x (.ins C dx [])) (fun v H2 => v = .non ∧ Q (.ref x) H2) E)
  rw [e]
  exact q
def kSFld (K : PySem.W.Frag) (f : Str) (D : Ends) (σ : L2.St) (y : V) : VK := fun x H2 => ∃ a C dx fs, x = .ref a ∧ H2 a = some (.ins C dx fs) ∧ Cls K C ∧ NoAttr K C f ∧ fs.length < 1000 ∧ D.nx σ (upd H2 a (.ins C dx (putF f y fs)))
theorem g_sfld (q : tb σ H fun y H1 => ta σ H1 (kSFld K f D σ y)) : sFld K ta tb f D σ H := q
theorem g_kSFld (h : H a = some (.ins C dx fs)) (c : Cls K C) (n : NoAttr K C f) (l : fs.length < 1000) (q : ∀ H2, Exb a H H2 → H2 a = some (.ins C dx (putF f y fs)) → D.nx σ H2) : kSFld K f D σ y (.ref a) H := ⟨a, C, dx, fs, rfl, h, c, n, l, q _ Exb.upd upd_same⟩
/-! slices, ranges as lists, methods of the built-in types -/
theorem g_sl {rs : V → Option Int → Option Int → Hp → VK → Prop} {tl th : TO} (q : te σ H fun x H1 => tl σ H1 fun l H2 => th σ H2 fun h H3 => rs x l h H3 Q) : tSl rs te tl th σ H Q := q
theorem g_nopart {QO : Option Int → Hp → Prop} (q : QO none H) : tNoPart σ H QO := q
def kPart (QO : Option Int → Hp → Prop) : VK := fun x H1 => ∃ i, x = .int i ∧ QO (some i) H1
theorem g_part {QO : Option Int → Hp → Prop} (q : te σ H (kPart QO)) : tPart te σ H QO := q
theorem g_kPart {QO : Option Int → Hp → Prop} {i : Int} (q : QO (some i) H) : kPart QO (.int i) H := ⟨i, rfl, q⟩
def kLRg (Q : VK) (a b : Int) (H1 : Hp) : Prop := RgOk a b ∧ ∀ q, H1 q = none → Q (.ref q) (upd H1 q (.lst (rgV a b)))
theorem g_lstRg {tg : L2.St → Hp → (Int → Int → Hp → Prop) → Prop} (q : tg σ H (kLRg Q)) : tLstRg tg σ H Q := q
theorem g_kLRg {i j : Int} (h : RgOk i j) (q : ∀ p H2, H p = none → Ex H H2 → H2 p = some (.lst (rgV i j)) → Q (.ref p) H2) : kLRg Q i j H := ⟨h, fun p hp => q p _ hp (Ex.new hp) upd_same⟩
def kRg1 (R : Int → Int → Hp → Prop) : VK := fun x H1 => ∃ n, x = .int n ∧ R 0 n H1
theorem g_rg1 {R : Int → Int → Hp → Prop} (q : ta σ H (kRg1 R)) : tRg1 ta σ H R := q
theorem g_kRg1 {R : Int → Int → Hp → Prop} {n : Int} (q : R 0 n H) : kRg1 R (.int n) H := ⟨n, rfl, q⟩
theorem g_rg2 {R : Int → Int → Hp → Prop} (q : ta σ H fun x H1 => tb σ H1 fun y H2 => ∃ i j, x = .int i ∧ y = .int j ∧ R i j H2) : tRg2 ta tb σ H R := q
def kBM (K : PySem.W.Frag) (T : String) (r : V → List V → Hp → VK → Prop) (tr : TA) (σ : L2.St) (Q : VK) : VK := fun x H1 => tyV K T x H1 ∧ tr σ H1 fun xs H2 => r x xs H2 Q
theorem g_bm {r : V → List V → Hp → VK → Prop} {T : String} (q : ta σ H (kBM K T r tr σ Q)) : tBM K T r ta tr σ H Q := q
theorem g_kBM_list {r : V → List V → Hp → VK → Prop} (h : SqL K H a xs) (q : tr σ H fun vs H2 => r (.ref a) vs H2 Q) : kBM K "list" r tr σ Q (.ref a) H := ⟨.inl ⟨rfl, xs, h⟩, q⟩
/-! statements -/
theorem g_seq (q : t1 { D with nx := t2 D } σ H) : tSeq t1 t2 D σ H := q
theorem g_next (q : D.nx σ H) : tNext D σ H := q
theorem g_break (q : D.bk σ H) : tBreak D σ H := q
theorem g_cont (q : D.ct σ H) : tCont D σ H := q
theorem g_asg {g : TG} (q : te σ H fun x H1 => g x σ H1 D.nx) : tAsg te g D σ H := q
theorem g_ret (q : te σ H D.rt) : tRet te D σ H := q
theorem g_retN (q : D.rt .non H) : tRetN D σ H := q
theorem g_drop (q : te σ H fun _ H1 => D.nx σ H1) : tDrop te D σ H := q
theorem gg_name {QS : L2.St → Hp → Prop} (q : QS (σ.set i (some v)) H) : gName i v σ H QS := q
theorem gg_tup {QS : L2.St → Hp → Prop} {n : Nat} {gs : TGs} (h : SqT K H a xs) (l : xs.length = n) (q : gs xs σ H QS) : gTup K n gs (.ref a) σ H QS := ⟨a, xs, rfl, h, l, q⟩
theorem gg_cons {QS : L2.St → Hp → Prop} {g : TG} {gs : TGs} (q : g v σ H fun σ' H' => gs xs σ' H' QS) : gCons g gs (v :: xs) σ H QS := ⟨v, xs, rfl, q⟩
theorem gg_nil {QS : L2.St → Hp → Prop} (q : QS σ H) : gNil [] σ H QS := ⟨rfl, q⟩
theorem gg_sub {QS : L2.St → Hp → Prop} {st : TSet} (q : ta σ H fun o H1 => tb σ H1 fun k H2 => st o k v H2 fun H3 => QS σ H3) : gSub ta tb st v σ H QS := q
theorem g_setL {QH : Hp → Prop} {l : Addr} {k : Int} {j : Nat} (h : H l = some (.lst xs)) (e : ixN xs.length k = some j) (q : ∀ H2, Exb l H H2 → H2 l = some (.lst (xs.set j v)) → QH H2) : rSetL (.ref l) (.int k) v H QH := ⟨l, xs, k, j, rfl, rfl, h, e, q _ Exb.upd upd_same⟩
def kPar (i j : Nat) (D : Ends) (σ : L2.St) (vs : List V) (H1 : Hp) : Prop := ∃ v w, vs = [v, w] ∧ D.nx ((σ.set i (some v)).set j (some w)) H1
theorem g_par {j : Nat} (q : tr σ H (kPar i j D σ)) : tPar i j tr D σ H := q
theorem g_kPar {j : Nat} (q : D.nx ((σ.set i (some x)).set j (some y)) H) : kPar i j D σ [x, y] H := ⟨x, y, rfl, q⟩
theorem g_aug {ti : TIp} (h : σ[i]? = some (some x)) (q : te σ H fun y H1 => ti x y H1 fun z H2 => D.nx (σ.set i (some z)) H2) : tAug i te ti D σ H := ⟨x, h, q⟩
theorem g_ipI {g : Int → Int → Int} {p k : Int} (q : Q (.int (g p k)) H) : ipI g (.int p) (.int k) H Q := ⟨p, k, rfl, rfl, q⟩
/-- while: W with its measure -/
def kWh (W : Nat → L2.St → Hp → Prop) (tb : TS) (D : Ends) (m : Nat) (σ : L2.St) (b : Bool) (H1 : Hp) : Prop :=
  if b = true then ∃ N : L2.St → Hp → Prop, (∀ σ' H', N σ' H' → ∃ m', m' < m ∧ W m' σ' H') ∧ tb { D with nx := N, ct := N, bk := D.nx } σ H1 else D.nx σ H1
theorem g_while (W : Nat → L2.St → Hp → Prop) (m0 : Nat) (h0 : W m0 σ H) (hs : ∀ m σ' H', W m σ' H' → t σ' H' (kWh W t1 D m σ')) : tWhile t t1 D σ H := ⟨W, ⟨m0, h0⟩, hs⟩
theorem g_kWhT {W : Nat → L2.St → Hp → Prop} {m : Nat} (q : t1 { D with nx := fun σ' H' => ∃ m', m' < m ∧ W m' σ' H', ct := fun σ' H' => ∃ m', m' < m ∧ W m' σ' H', bk := D.nx } σ H) : kWh W t1 D m σ true H := ⟨_, fun _ _ h => h, q⟩
theorem g_kWhF {W : Nat → L2.St → Hp → Prop} {m : Nat} (q : D.nx σ H) : kWh W t1 D m σ false H := q
theorem g_kWh {W : Nat → L2.St → Hp → Prop} {m : Nat} (h1 : b = true → t1 { D with nx := fun σ' H' => ∃ m', m' < m ∧ W m' σ' H', ct := fun σ' H' => ∃ m', m' < m ∧ W m' σ' H', bk := D.nx } σ H) (h2 : b = false → D.nx σ H) : kWh W t1 D m σ b H := by
  cases b with
  | true => exact g_kWhT (h1 rfl)
  | false => exact g_kWhF (h2 rfl)
theorem y_kWh {W : Nat → L2.St → Hp → Prop} {m : Nat} (hc : b = true) (q : t1 { D with nx := fun σ' H' => ∃ m', m' < m ∧ W m' σ' H', ct := fun σ' H' => ∃ m', m' < m ∧ W m' σ' H', bk := D.nx } σ H) : kWh W t1 D m σ b H := by rw [hc]; exact g_kWhT q
theorem n_kWh {W : Nat → L2.St → Hp → Prop} {m : Nat} (hc : b = false) (q : D.nx σ H) : kWh W t1 D m σ b H := by rw [hc]; exact g_kWhF q
/-- for over a list, a tuple, a range -/
def kForL (K : PySem.W.Frag) (g : TG) (tb : TS) (D : Ends) (σ : L2.St) : VK := fun x H1 => tFor (iList K (tC x)) g tb D σ H1
theorem g_forL {g : TG} (q : te σ H (kForL K g t1 D σ)) : tFor (iList K te) g t1 D σ H := q
theorem g_kForL {g : TG} (h : SqL K H a xs) (Pv : Nat → L2.St → Hp → Prop) (h0 : Pv 0 σ H) (hl : ∀ i σ H, i ≤ xs.length → Pv i σ H → SqL K H a xs)
    (hs : ∀ i x σ H, xs[i]? = some x → Pv i σ H → g x σ H fun σ2 H2 => t1 { D with nx := Pv (i + 1), ct := Pv (i + 1), bk := D.nx } σ2 H2) (hd : ∀ σ H, Pv xs.length σ H → D.nx σ H) : kForL K g t1 D σ (.ref a) H :=
  ⟨a, rfl, ⟨xs, h⟩, for_list Pv h0 hl hs hd⟩
def kForT (K : PySem.W.Frag) (g : TG) (tb : TS) (D : Ends) (σ : L2.St) : VK := fun x H1 => tFor (iTup K (tC x)) g tb D σ H1
theorem g_forT {g : TG} (q : te σ H (kForT K g t1 D σ)) : tFor (iTup K te) g t1 D σ H := q
theorem g_kForT {g : TG} (h : SqT K H a xs) (Pv : Nat → L2.St → Hp → Prop) (h0 : Pv 0 σ H) (hl : ∀ i σ H, i ≤ xs.length → Pv i σ H → SqT K H a xs)
    (hs : ∀ i x σ H, xs[i]? = some x → Pv i σ H → g x σ H fun σ2 H2 => t1 { D with nx := Pv (i + 1), ct := Pv (i + 1), bk := D.nx } σ2 H2) (hd : ∀ σ H, Pv xs.length σ H → D.nx σ H) : kForT K g t1 D σ (.ref a) H :=
  ⟨a, rfl, ⟨xs, h⟩, for_tup Pv h0 hl hs hd⟩
def kForR1 (g : TG) (tb : TS) (D : Ends) (σ : L2.St) (vs : List V) (H1 : Hp) : Prop := tFor (iRng1 (fun _ H Q => Q vs H)) g tb D σ H1
theorem g_forR1 {g : TG} (q : tr σ H (kForR1 g t1 D σ)) : tFor (iRng1 tr) g t1 D σ H := q
theorem g_kForR1 {g : TG} {n : Int} (hn : 0 ≤ n ∧ n < 2 ^ 62) (Pv : Nat → L2.St → Hp → Prop) (h0 : Pv 0 σ H)
    (hs : ∀ (i : Nat) σ H, (i : Int) < n → Pv i σ H → g (.int i) σ H fun σ2 H2 => t1 { D with nx := Pv (i + 1), ct := Pv (i + 1), bk := D.nx } σ2 H2) (hd : ∀ σ H, Pv n.toNat σ H → D.nx σ H) : kForR1 g t1 D σ [.int n] H :=
  ⟨n, rfl, by omega, by omega, for_range (lo := 0) (n := n.toNat) Pv h0 (fun i σ H hi p => by
    have e0 : (0 : Int) + (i : Int) = (i : Int) := Int.zero_add _
    rw [e0]
    exact hs i σ H (by omega) p) hd⟩
def kForR2 (g : TG) (tb : TS) (D : Ends) (σ : L2.St) (vs : List V) (H1 : Hp) : Prop := tFor (iRng2 (fun _ H Q => Q vs H)) g tb D σ H1
theorem g_forR2 {g : TG} (q : tr σ H (kForR2 g t1 D σ)) : tFor (iRng2 tr) g t1 D σ H := q
theorem g_kForR2 {g : TG} {lo n : Int} (hn : -(2 ^ 62) ≤ lo ∧ lo < 2 ^ 62 ∧ -(2 ^ 62) ≤ n ∧ n < 2 ^ 62) (Pv : Nat → L2.St → Hp → Prop) (h0 : Pv 0 σ H)
    (hs : ∀ (i : Nat) σ H, lo + (i : Int) < n → Pv i σ H → g (.int (lo + i)) σ H fun σ2 H2 => t1 { D with nx := Pv (i + 1), ct := Pv (i + 1), bk := D.nx } σ2 H2) (hd : ∀ σ H, Pv (n - lo).toNat σ H → D.nx σ H) : kForR2 g t1 D σ [.int lo, .int n] H :=
  ⟨lo, n, rfl, hn, for_range (lo := lo) (n := (n - lo).toNat) Pv h0 (fun i σ H hi p => hs i σ H (by omega) p) hd⟩
/-! relations on values -/
theorem g_add {p k : Int} (q : Q (.int (p + k)) H) : rI0 (fun i j => .int (i + j)) (.int p) (.int k) H Q := ⟨p, k, rfl, rfl, q⟩
theorem g_sub {p k : Int} (q : Q (.int (p - k)) H) : rI0 (fun i j => .int (i - j)) (.int p) (.int k) H Q := ⟨p, k, rfl, rfl, q⟩
theorem g_mul {p k : Int} (h : CMul p k) (q : Q (.int (p * k)) H) : rI CMul (fun i j => .int (i * j)) (.int p) (.int k) H Q := ⟨p, k, rfl, rfl, h, q⟩
theorem g_fdiv {p k : Int} (h : CDiv p k) (q : Q (.int (p / k)) H) : rI CDiv (fun i j => .int (i / j)) (.int p) (.int k) H Q := ⟨p, k, rfl, rfl, h, q⟩
theorem g_mod {p k : Int} (h : 0 < k) (q : Q (.int (p % k)) H) : rI (fun _ j => 0 < j) (fun i j => .int (i % j)) (.int p) (.int k) H Q := ⟨p, k, rfl, rfl, h, q⟩
theorem g_pow {p k : Int} (h : CPow p k) (q : Q (.int (p ^ k.toNat)) H) : rI CPow (fun i j => .int (i ^ j.toNat)) (.int p) (.int k) H Q := ⟨p, k, rfl, rfl, h, q⟩
theorem g_lt {p k : Int} (q : Q (.bl (decide (p < k))) H) : rI0 (fun i j => .bl (decide (i < j))) (.int p) (.int k) H Q := ⟨p, k, rfl, rfl, q⟩
theorem g_le {p k : Int} (q : Q (.bl (decide (p ≤ k))) H) : rI0 (fun i j => .bl (decide (i ≤ j))) (.int p) (.int k) H Q := ⟨p, k, rfl, rfl, q⟩
theorem g_gt {p k : Int} (q : Q (.bl (decide (k < p))) H) : rI0 (fun i j => .bl (decide (j < i))) (.int p) (.int k) H Q := ⟨p, k, rfl, rfl, q⟩
theorem g_ge {p k : Int} (q : Q (.bl (decide (k ≤ p))) H) : rI0 (fun i j => .bl (decide (j ≤ i))) (.int p) (.int k) H Q := ⟨p, k, rfl, rfl, q⟩
theorem g_neg {p : Int} (q : Q (.int (-p)) H) : rU (fun i => .int (-i)) (.int p) H Q := ⟨p, rfl, q⟩
theorem dec_ii {p k : Int} : decide (V.int p = V.int k) = decide (p = k) := by rw [dec_int, Bool.beq_eq_decide_eq]
theorem g_eqI {p k : Int} (q : Q (.bl (decide (p = k))) H) : rEq (.int p) (.int k) H Q := ⟨rfl, by rw [dec_ii]; exact q⟩
theorem g_neI {p k : Int} (q : Q (.bl (!decide (p = k))) H) : rNe (.int p) (.int k) H Q := ⟨rfl, by rw [dec_ii]; exact q⟩
theorem g_eqS (h : scal x y = true) (q : Q (.bl (decide (x = y))) H) : rEq x y H Q := ⟨h, q⟩
theorem g_neS (h : scal x y = true) (q : Q (.bl (!decide (x = y))) H) : rNe x y H Q := ⟨h, q⟩
theorem g_ixL {k : Int} (h : SqL K H a xs) (e : atI xs k = some v) (q : Q v H) : rIxL K (.ref a) (.int k) H Q := ⟨a, xs, k, v, rfl, rfl, h, e, q⟩
theorem g_ixT {k : Int} (h : SqT K H a xs) (e : atI xs k = some v) (q : Q v H) : rIxT K (.ref a) (.int k) H Q := ⟨a, xs, k, v, rfl, rfl, h, e, q⟩
theorem g_eqD {d e : PyData} (h1 : Dp K H x d) (h2 : Dp K H y e) (s1 : SeqAt.shaped d = true) (s2 : SeqAt.shaped e = true) (q : Q (.bl (PyData.eqv d e)) H) : rEqD K x y H Q := ⟨d, e, h1, h2, s1, s2, q⟩
theorem g_neD {d e : PyData} (h1 : Dp K H x d) (h2 : Dp K H y e) (s1 : SeqAt.shaped d = true) (s2 : SeqAt.shaped e = true) (q : Q (.bl (!PyData.eqv d e)) H) : rNeD K x y H Q := ⟨d, e, h1, h2, s1, s2, q⟩
/-- t + u, t[lo:hi] of tuples: some tuple of these items -/
theorem g_catA {a b : Addr} {xs ys : List V} (h1 : SqT K H a xs) (h2 : SqT K H b ys) (l : xs.length + ys.length ≤ sizeLine) (q : ∀ p H2, Ex H H2 → SqT K H2 p (xs ++ ys) → Q (.ref p) H2) : rCatA K (.ref a) (.ref b) H Q :=
  ⟨a, b, xs, ys, rfl, rfl, h1, h2, l, fun e => q b H (Ex.refl H) (by rw [e]; exact h2), fun _ e => q a H (Ex.refl H) (by rw [e, List.append_nil]; exact h1), fun _ _ p hp => q p _ (Ex.new hp) (SqT.of upd_same)⟩
theorem cutV_whole {xs : List V} {lo hi : Option Int} (h : HT.sIx xs.length 0 lo = 0 ∧ HT.sIx xs.length xs.length hi = xs.length) : cutV xs lo hi = xs := by
  unfold cutV
  rw [h.1, h.2]
  simp
theorem g_slA {lo hi : Option Int} (h : SqT K H a xs) (q : ∀ p H2, Ex H H2 → SqT K H2 p (cutV xs lo hi) → Q (.ref p) H2) : rSlA K (.ref a) lo hi H Q :=
  ⟨a, xs, rfl, h, fun w => q a H (Ex.refl H) (by rw [cutV_whole w]; exact h), fun _ p hp => q p _ (Ex.new hp) (SqT.of upd_same)⟩
theorem g_slL {lo hi : Option Int} (h : SqL K H a xs) (q : ∀ p H2, H p = none → Ex H H2 → H2 p = some (.lst (cutV xs lo hi)) → Q (.ref p) H2) : rSlL K (.ref a) lo hi H Q :=
  ⟨a, xs, rfl, h, fun p hp => q p _ hp (Ex.new hp) upd_same⟩
theorem g_cat {a b : Addr} (h1 : H a = some (.lst xs)) (h2 : H b = some (.lst ys)) (l : xs.length + ys.length ≤ sizeLine) (q : ∀ p H2, H p = none → Ex H H2 → H2 p = some (.lst (xs ++ ys)) → Q (.ref p) H2) : rCat (.ref a) (.ref b) H Q :=
  ⟨a, b, xs, ys, rfl, rfl, h1, h2, l, fun p hp => q p _ hp (Ex.new hp) upd_same⟩
theorem g_append {l : Addr} (h : H l = some (.lst xs)) (z : xs.length < sizeLine) (q : ∀ H2, Exb l H H2 → H2 l = some (.lst (xs ++ [y])) → Q .non H2) : rAppend (.ref l) [y] H Q := ⟨l, xs, y, rfl, rfl, h, z, q _ Exb.upd upd_same⟩
theorem g_sum {ns : List Int} (h : SqL K H a (ns.map V.int)) (q : Q (.int ns.sum) H) : rSum K [.ref a] H Q := ⟨a, ns, rfl, h, q⟩
theorem g_isi {u w : Value} (k : ClsV v u) (ty : TyX K H x w) (e : PySem.W.kitOne K w u = some b) (q : Q (.bl b) H) : rIsi K [x, v] H Q := ⟨x, v, w, u, b, rfl, k, ty, e, q⟩
end
/-! named relations of built-in calls -/
def rLen (K : PySem.W.Frag) : List V → Hp → VK → Prop := fun xs H Q => ∃ x n, xs = [x] ∧ LenV K x H n ∧ Q (.int n) H
def rListOf (K : PySem.W.Frag) : List V → Hp → VK → Prop := fun xs H Q => ∃ p ys, xs = [.ref p] ∧ (SqL K H p ys ∨ SqT K H p ys) ∧ ∀ l, H l = none → Q (.ref l) (upd H l (.lst ys))
def rTupOf (K : PySem.W.Frag) : List V → Hp → VK → Prop := fun xs H Q => ∃ p ys, xs = [.ref p] ∧ ((SqL K H p ys ∧ ∀ l, H l = none → Q (.ref l) (upd H l (.tup ys))) ∨ (SqT K H p ys ∧ Q (.ref p) H))
def rInt1 : List V → Hp → VK → Prop := fun xs H Q => (∃ i, xs = [.int i] ∧ Q (.int i) H) ∨ ∃ k, xs = [.bl k] ∧ Q (.int (if k then 1 else 0)) H
def rMax2 : List V → Hp → VK → Prop := fun xs H Q => ∃ i j, xs = [.int i, .int j] ∧ Q (.int (if j > i then j else i)) H
def rMin2 : List V → Hp → VK → Prop := fun xs H Q => ∃ i j, xs = [.int i, .int j] ∧ Q (.int (if j < i then j else i)) H
def rDivmod : List V → Hp → VK → Prop := fun xs H Q => ∃ i j, xs = [.int i, .int j] ∧ CDiv i j ∧ ∀ p, H p = none → Q (.ref p) (upd H p (.tup [.int (i / j), .int (i % j)]))
section
variable {X : Cx}
theorem c_len : CallR X (.builtin "len") (rLen X.K) := call_len
theorem c_list_of : CallR X (.type "list") (rListOf X.K) := call_list_of
theorem c_int1 : CallR X (.type "int") rInt1 := call_int1
theorem c_max2 (hc : X.calm = true) : CallR X (.builtin "max") rMax2 := call_max2 hc
theorem c_min2 (hc : X.calm = true) : CallR X (.builtin "min") rMin2 := call_min2 hc
theorem c_divmod : CallR X (.builtin "divmod") rDivmod := call_divmod
/-- a module's constant -/
theorem pint {x : Str} {i : Int} {pos : Pos} (h : ∃ t, X.mg x = some (.int i t)) (hg : Gl X x := by rfl) (hd : (x == ("__debug__" : Str)) = false := by decide) : PE X (.Name x pos) (tC (.int i)) := by
  obtain ⟨t, h⟩ := h
  exact pe_glob hg h ⟨_, rfl⟩ hd
theorem pstr {x z : Str} {pos : Pos} (h : ∃ t, X.mg x = some (.str z t)) (hg : Gl X x := by rfl) (hd : (x == ("__debug__" : Str)) = false := by decide) : PE X (.Name x pos) (tC (.str z)) := by
  obtain ⟨t, h⟩ := h
  exact pe_glob hg h ⟨_, rfl⟩ hd
end
section
variable {K : PySem.W.Frag} {H : Hp} {Q : VK} {a : Addr} {xs ys : List V} {z : Str}
theorem g_lenL (h : SqL K H a xs) (q : Q (.int (xs.length : Int)) H) : rLen K [.ref a] H Q := ⟨.ref a, xs.length, rfl, .inl ⟨xs, h, rfl⟩, q⟩
theorem g_lenT (h : SqT K H a xs) (q : Q (.int (xs.length : Int)) H) : rLen K [.ref a] H Q := ⟨.ref a, xs.length, rfl, .inr ⟨xs, h, rfl⟩, q⟩
theorem g_lenLM {α : Type} {g : α → V} {ns : List α} (h : SqL K H a (ns.map g)) (q : Q (.int (ns.length : Int)) H) : rLen K [.ref a] H Q := ⟨.ref a, ns.length, rfl, .inl ⟨_, h, (List.length_map g).symm⟩, q⟩
theorem g_lenTM {α : Type} {g : α → V} {ns : List α} (h : SqT K H a (ns.map g)) (q : Q (.int (ns.length : Int)) H) : rLen K [.ref a] H Q := ⟨.ref a, ns.length, rfl, .inr ⟨_, h, (List.length_map g).symm⟩, q⟩
theorem g_lenS (h : z.length ≤ sizeLine) (q : Q (.int (z.length : Int)) H) : rLen K [.str z] H Q := ⟨.str z, z.length, rfl, ⟨h, rfl⟩, q⟩
theorem g_listL (h : SqL K H a xs) (q : ∀ p H2, H p = none → Ex H H2 → H2 p = some (.lst xs) → Q (.ref p) H2) : rListOf K [.ref a] H Q := ⟨a, xs, rfl, .inl h, fun p hp => q p _ hp (Ex.new hp) upd_same⟩
theorem g_listT (h : SqT K H a xs) (q : ∀ p H2, H p = none → Ex H H2 → H2 p = some (.lst xs) → Q (.ref p) H2) : rListOf K [.ref a] H Q := ⟨a, xs, rfl, .inr h, fun p hp => q p _ hp (Ex.new hp) upd_same⟩
theorem g_tupL (h : SqL K H a xs) (q : ∀ p H2, H p = none → Ex H H2 → H2 p = some (.tup xs) → Q (.ref p) H2) : rTupOf K [.ref a] H Q := ⟨a, xs, rfl, .inl ⟨h, fun p hp => q p _ hp (Ex.new hp) upd_same⟩⟩
theorem g_int1 {i : Int} (q : Q (.int i) H) : rInt1 [.int i] H Q := .inl ⟨i, rfl, q⟩
theorem g_int1b {b : Bool} (q : Q (.int (if b then 1 else 0)) H) : rInt1 [.bl b] H Q := .inr ⟨b, rfl, q⟩
theorem max2_eq (i j : Int) : (if j > i then j else i) = max i j := by
  by_cases h : j > i
  · rw [if_pos h]
    omega
  · rw [if_neg h]
    omega
theorem min2_eq (i j : Int) : (if j < i then j else i) = min i j := by
  by_cases h : j < i
  · rw [if_pos h]
    omega
  · rw [if_neg h]
    omega
theorem g_max2 {i j : Int} (q : Q (.int (max i j)) H) : rMax2 [.int i, .int j] H Q := ⟨i, j, rfl, by rw [max2_eq]; exact q⟩
theorem g_min2 {i j : Int} (q : Q (.int (min i j)) H) : rMin2 [.int i, .int j] H Q := ⟨i, j, rfl, by rw [min2_eq]; exact q⟩
theorem g_divmod {i j : Int} (h : CDiv i j) (q : ∀ p H2, H p = none → Ex H H2 → H2 p = some (.tup [.int (i / j), .int (i % j)]) → Q (.ref p) H2) : rDivmod [.int i, .int j] H Q := ⟨i, j, rfl, h, fun p hp => q p _ hp (Ex.new hp) upd_same⟩
end
end G48
namespace PySem
open AutoSeq1 (wpAny_loadPart')
set_option maxHeartbeats 4000000 in
theorem g48_enum_newB {v : Value} {o : Obj} {H : Heap → Prop} (B : Begins v o H) :
    Meets (Builtin.«enumerate.__new__» ⟨[.type "enumerate", v], []⟩) (fun _ R s => H s.heap ∧
      R (.ok (.ret (.ref (s.heap.push o).objs.size))) { s with heap := (s.heap.push o).push { cls := .type "enumerate", data := .fields #[.none, .bool false, .ref s.heap.objs.size, rawInt 0, .none, .none] } }) :=
  .of_wp fun prog w A R s h => by
    obtain ⟨hp, g, d, tk, os⟩ := s; obtain ⟨h1, h⟩ := h
    have hsub := sub_enumerate
    have q1 : ∀ {A' : Around} {E : Value → Shared → Prop} {Q : Value → Shared → Prop}, Q (.ref hp.objs.size) ⟨hp.push o, g, d, tk, os⟩ → wpAny (model prog w) A' (pyIter v) Q E ⟨hp, g, d, tk, os⟩ :=
      fun q => B.iter prog w _ _ ⟨hp, g, d, tk, os⟩ _ h1 q
    wp_walk using q1
    refine wpAny_stack_any fun st => wpAny_pure ?_
    split
    · rename_i c _ _ _ _ _
      cases (c == Value.type "enumerate")
      · wp_walk using q1
        exact ⟨_, rfl, h⟩
      · wp_walk using q1
        exact ⟨_, rfl, h⟩
    · wp_walk using q1
      exact ⟨_, rfl, h⟩
section
variable {prog : Program} {w : World} {A : Around} {E : Value → Shared → Prop} {s : Shared}
theorem g48_call_enum {v : Value} {o : Obj} {H : Heap → Prop} {Q : Value → Shared → Prop} (B : Begins v o H) (h1 : H s.heap)
    (h : ∀ h', IsEnum h' (s.heap.objs.size + 1) s.heap.objs.size 0 .none → h'.get? s.heap.objs.size = some o → h'.objs.size = s.heap.objs.size + 2 →
      (∀ b o, s.heap.get? b = some o → h'.get? b = some o) → Q (.ref (s.heap.objs.size + 1)) { s with heap := h' }) :
    wpAny (model prog w) A (call (.type "enumerate") [v]) Q E s := by
  refine callType_new F.called_enumerate (by decide) (F.typeCall_enumerate_1 _) (F.newCall_enumerate_1 _) (fun obj => F.args_object_init_2 obj _) F.entry_enumerate_new
    (g48_enum_newB B) ⟨h1, ?_⟩
  have hz : (s.heap.push o).objs.size = s.heap.objs.size + 1 := Heap.size_push ..
  show _ ∧ _
  rw [hz]
  have he : IsEnum ((s.heap.push o).push
      { cls := .type "enumerate", data := .fields #[.none, .bool false, .ref s.heap.objs.size, rawInt 0, .none, .none] }) (s.heap.objs.size + 1) s.heap.objs.size 0 .none := by
    have := Heap.get?_push_size (s.heap.push o)
      (o := { cls := .type "enumerate", data := .fields #[.none, .bool false, .ref s.heap.objs.size, rawInt 0, .none, .none] }) rfl
    rw [hz] at this; exact this
  refine ⟨⟨_, he, rfl⟩, h _ he (Heap.get?_push_of_some _ (Heap.get?_push_size _ B.free)) (by rw [Heap.size_push, hz]) fun b o x => Heap.get?_push_of_some _ (Heap.get?_push_of_some _ x)⟩
end
end PySem
namespace G48
open PySem PySem.Spec PyProof.Rows L2 Evl
/-! ### enumerate(tuple) -/
def ItetG (K : PySem.W.Frag) (a : Addr) : It :=
  ⟨fun i H => ∃ (xs : List V) (x : V), SqT K H a xs ∧ xs[i]? = some x, fun i H v H' => ∃ T x, v = .ref T ∧ H T = none ∧ H' = upd H T (.tup [.int (i : Nat), x]) ∧ ∀ xs, SqT K H a xs → xs[i]? = some x, fun i H => ∃ xs : List V, SqT K H a xs ∧ xs.length ≤ i⟩
theorem turn_enumT {P : Program} {w : World} {K : PySem.W.Frag} {elts : List Expr} {kk : Nat} {tpos : Pos} (a e it : Addr) (ne1 : e ≠ it) (ne2 : e ≠ a) (ne3 : a ≠ it) :
    Turn P w K (.Tuple elts kk tpos) (ItetG K a) [e, it] e (fun i h => (∃ old, IsEnum h e it ((i : Nat) : Int) old) ∧ h.IsTupleIter it a i) where
  mem := by simp
  obj := fun i h st b hb => by
    obtain ⟨⟨old, he⟩, ⟨o, ho, hc, hd⟩⟩ := st
    have e' : b = e ∨ b = it := by simpa using hb
    rcases e' with z | z
    · rw [z]; exact ⟨_, he, fun v q => nomatch q⟩
    · rw [z]; exact ⟨o, ho, fun v q => by rw [hd] at q; cases q⟩
  keep := fun i h h' st k => let ⟨⟨old, he⟩, hi⟩ := st; ⟨⟨old, k e (by simp) _ he⟩, hi.at fun o q => k it (by simp) o q⟩
  item := by
    intro X hP hw hK hc i pins s σ H E I hf st hg
    subst hP hw hK
    obtain ⟨⟨old, he⟩, hit⟩ := st
    obtain ⟨xs, x, hq, hx⟩ := hg
    obtain ⟨its, rv, p, hz⟩ := I.tuple hq
    obtain ⟨u, hu, ru⟩ := rv.get hx
    have hel : e < s.heap.objs.size := Heap.lt_size he
    have hil : it < s.heap.objs.size := by obtain ⟨_, q, _⟩ := hit; exact Heap.lt_size q
    have hlt : i < its.toArray.size := by
      have := (List.getElem?_eq_some_iff.mp hu).1
      simpa using this
    have D : Draws X.prog X.w X.A.in1 it [it, a] its.toArray.size (fun i v => its.toArray[i]? = some v) (fun i h => h.IsTupleIter it a i ∧ h.IsTuple a its.toArray) := Draws.tuple (show X.A.in1.handled = none from I.ok.hd hc) it a ne3 its.toArray
    refine wpAny_pyNext_enum_itemC D he ⟨hit, show s.heap.IsTuple a its.toArray from p⟩ hlt ne1 (by simp [ne1, ne2]) fun y h' tk hy ho hst hT hsz hk => ?_
    have ey : y = u := by
      have h1 : its.toArray[i]? = some y := hy
      have h2 : its.toArray[i]? = some u := by simpa using hu
      rw [h1] at h2
      exact Option.some.inj h2
    subst ey
    refine ⟨_, rfl, wpAny_letOwnedTupleGo_enum (s := { s with heap := h', toks := tk + 1 }) ho fun h'' he' sb => ?_⟩
    have hT2 : h''.get? s.heap.objs.size = some { cls := .type "tuple", data := .seq #[.int i tk, y] } := (sb.2 _ (Nat.ne_of_gt hel)).trans hT
    have new : ObjOk X.prog X.w (upd H s.heap.objs.size (.tup [.int (i : Nat), x])) h'' s.heap.objs.size (.tup [.int (i : Nat), x]) :=
      ⟨by show 2 ≤ sizeLine; decide, [.int i tk, y], .cons ⟨_, rfl⟩ (.cons ru .nil), ⟨_, hT2, rfl, _, rfl⟩⟩
    have I1 : Inv X pins σ (upd H s.heap.objs.size (.tup [.int (i : Nat), x])) { s with heap := h'', toks := tk + 1 } :=
      I.turnedNew (ch := [e, it]) (fun b ob hb q => (sb.2 b (fun z => hb (by simp [z]))).trans (hk b ob (fun z => hb (by simp [z])) (fun z => hb (by simp [z])) q)) hf (Nat.le_refl _) new
    refine ⟨.ref s.heap.objs.size, _, I1, rfl, ⟨_, x, rfl, I.hok.fresh (Nat.le_refl _), rfl, fun ys hy => by rw [I.tuple_inj hy hq]; exact hx⟩, ⟨⟨y, ?_⟩, hst.1.at fun o q => (sb.2 it (Ne.symm ne1)).trans q⟩, fun b hb => ?_⟩
    · have e1 : ((i + 1 : Nat) : Int) = (i : Int) + 1 := by omega
      rw [e1]; exact he'
    · have hb' : b < s.heap.objs.size := by
        have e' : b = e ∨ b = it := by simpa using hb
        rcases e' with z | z
        · rw [z]; exact hel
        · rw [z]; exact hil
      rw [upd_ne (Nat.ne_of_lt hb')]
      exact (hf b hb).1
  done := by
    intro X hP hw hK hc i pins s σ H E I hf st hg
    subst hP hw hK
    obtain ⟨⟨old, he⟩, hit⟩ := st
    obtain ⟨xs, hq, hx⟩ := hg
    obtain ⟨its, rv, p, hz⟩ := I.tuple hq
    obtain ⟨f0, f1, f2, f3, f4, f5⟩ := hf it (by simp)
    have hl := rv.length
    have D : Draws X.prog X.w X.A.in1 it [it, a] i (fun _ _ => True) (fun j h => j = i ∧ h.IsTupleIter it a i ∧ h.IsTuple a its.toArray) :=
      { live := fun _ _ st => let ⟨_, ⟨o, ho, _⟩, _⟩ := st; ⟨o, ho⟩
        frame := fun _ _ _ st hk => ⟨st.1, st.2.1.at fun o e => hk it (by simp) o e, st.2.2.at fun o e => hk a (by simp) o e⟩
        item := fun j s Q E hi st hQ => absurd st.1 (Nat.ne_of_lt hi)
        done := fun s Q E st hE => wpAny_nextOf_tuple_end (show X.A.in1.handled = none from I.ok.hd hc) st.2.1 st.2.2 (by simp; omega) hE }
    exact wpAny_pyNext_enum_endD D he ⟨rfl, hit, show s.heap.IsTuple a its.toArray from p⟩ fun h' eb => ⟨rfl, I.turned (t' := s.toks) (fun b o hb q => eb b o hb q) f0 f1 f3 f4 f5⟩
  self := fun A i s Q E st h => let ⟨⟨_, he⟩, _⟩ := st; wpAny_pyIter_enum he h
def iEnumT (K : PySem.W.Frag) (ta : TA) : TI := fun σ H R => ta σ H fun vs H1 => ∃ a xs, vs = [.ref a] ∧ SqT K H1 a xs ∧ R (ItetG K a) H1
theorem pi_enumT {X : Cx} {e : Expr} {ta : TA} {p pos tpos : Pos} {elts : List Expr} {kk : Nat} (hg : Gl X "enumerate") (hm : X.mg "enumerate" = none) (ha : PA X [e] ta) (hs : starEach [e] X.env = [(false, eval e X.env)] := by rfl) :
    PI X (.Tuple elts kk tpos) (.Call (.Name "enumerate" p) [e] [] pos) (iEnumT X.K ta) := by
  refine ⟨fun pins s σ H R I h => ?_⟩
  refine Call_ (ld_blt I hg hm PyProof.Rows.boot_enumerate (PyProof.Rows.callWith_type1 (thn (ha.run pos pins s σ H _ I h) fun us s1 ⟨vs, H1, I1, r1, q1⟩ => ?_) hs rfl))
  obtain ⟨a, xs, ex, hq, q⟩ := q1
  subst ex
  cases r1 with
  | cons r rr =>
    cases rr
    cases r
    obtain ⟨its, rv, p', hz⟩ := I1.tuple hq
    have hal : a < s1.heap.objs.size := by
      obtain ⟨o, ho, _⟩ := id p'
      exact Heap.lt_size ho
    refine g48_call_enum (begins_tuple a its.toArray) (show s1.heap.IsTuple a its.toArray from p') fun h' he hit hsz hk => wpAny_pyIter_enum he ?_
    have I2 : Inv X pins σ H1 { s1 with heap := h' } := I1.kept (t' := s1.toks) hk
    refine ⟨s1.heap.objs.size + 1, [s1.heap.objs.size + 1, s1.heap.objs.size], _, _, H1, rfl, I2, turn_enumT a (s1.heap.objs.size + 1) s1.heap.objs.size (Nat.succ_ne_self _) (Nat.ne_of_gt (Nat.lt_succ_of_lt hal)) (Nat.ne_of_lt hal), ⟨⟨.none, he⟩, ⟨_, hit, rfl, rfl⟩⟩, fun b hb => ?_, q⟩
    have e' : b = s1.heap.objs.size + 1 ∨ b = s1.heap.objs.size := by simpa using hb
    have hle : s1.heap.objs.size ≤ b := by
      rcases e' with z | z
      · rw [z]; exact Nat.le_add_right _ _
      · rw [z]; exact Nat.le_refl _
    exact I1.fpOk hle (I1.hok.fresh hle)
section
variable {K : PySem.W.Frag} {a : Addr} {xs : List V}
theorem walk_enumT : Walk (ItetG K a) xs.length (fun H => SqT K H a xs) (YPair (fun i => some (.int (i : Nat))) (fun i => xs[i]?)) := by
  refine ⟨fun i _ hi q => ⟨xs, xs[i], q, by simp [hi]⟩, fun _ q => ⟨xs, q, Nat.le_refl _⟩, fun i H v H' _ q y => ?_⟩
  obtain ⟨T, x, h1, h2, h3, h4⟩ := y
  exact ⟨T, .int (i : Nat), x, h1, h2, h3, rfl, h4 xs q⟩
end
/-- the loop: each turn a pair (i, x) at a new place -/
def kForE (K : PySem.W.Frag) (g : TG) (tb : TS) (D : Ends) (σ : L2.St) (vs : List V) (H1 : Hp) : Prop := tFor (iEnumT K (fun _ H Q => Q vs H)) g tb D σ H1
section
variable {K : PySem.W.Frag} {σ : L2.St} {H : Hp} {tr : TA} {D : Ends} {t1 : TS} {g : TG} {a : Addr} {xs : List V}
theorem g_forE (q : tr σ H (kForE K g t1 D σ)) : tFor (iEnumT K tr) g t1 D σ H := q
theorem g_kForE (h : SqT K H a xs) (Pv : Nat → L2.St → Hp → Prop) (h0 : Pv 0 σ H) (hl : ∀ i σ H, i ≤ xs.length → Pv i σ H → SqT K H a xs)
    (hs : ∀ i x σ H T H', xs[i]? = some x → Pv i σ H → Ex H H' → H T = none → H' T = some (.tup [.int (i : Nat), x]) → g (.ref T) σ H' fun σ2 H2 => t1 { D with nx := Pv (i + 1), ct := Pv (i + 1), bk := D.nx } σ2 H2) (hd : ∀ σ H, Pv xs.length σ H → D.nx σ H) : kForE K g t1 D σ [.ref a] H :=
  ⟨a, xs, rfl, h, for_it walk_enumT Pv h0 hl (fun i x σ H H' hi p y => by
    obtain ⟨T, u, v, rfl, hT, rfl, e1, e2⟩ := y
    cases e1
    exact hs i v σ H T _ e2 p (Ex.new hT) hT upd_same) hd⟩
def kForEL (K : PySem.W.Frag) (g : TG) (tb : TS) (D : Ends) (σ : L2.St) (vs : List V) (H1 : Hp) : Prop := tFor (iEnum K (fun _ H Q => Q vs H)) g tb D σ H1
theorem g_forEL (q : tr σ H (kForEL K g t1 D σ)) : tFor (iEnum K tr) g t1 D σ H := q
theorem g_kForEL (h : SqL K H a xs) (Pv : Nat → L2.St → Hp → Prop) (h0 : Pv 0 σ H) (hl : ∀ i σ H, i ≤ xs.length → Pv i σ H → SqL K H a xs)
    (hs : ∀ i x σ H T H', xs[i]? = some x → Pv i σ H → Ex H H' → H T = none → H' T = some (.tup [.int (i : Nat), x]) → g (.ref T) σ H' fun σ2 H2 => t1 { D with nx := Pv (i + 1), ct := Pv (i + 1), bk := D.nx } σ2 H2) (hd : ∀ σ H, Pv xs.length σ H → D.nx σ H) : kForEL K g t1 D σ [.ref a] H :=
  ⟨a, xs, rfl, h, for_it walk_enum Pv h0 hl (fun i x σ H H' hi p y => by
    obtain ⟨T, u, v, rfl, hT, rfl, e1, e2⟩ := y
    cases e1
    exact hs i v σ H T _ e2 p (Ex.new hT) hT upd_same) hd⟩
end
/-! ### max and min of a tuple of ints -/
theorem maxOf_fold : ∀ (ns : List Int) (x : Int), (PySem.W.maxOf x ns = x ∨ PySem.W.maxOf x ns ∈ ns) ∧ x ≤ PySem.W.maxOf x ns ∧ ∀ y ∈ ns, y ≤ PySem.W.maxOf x ns
  | [], x => ⟨.inl rfl, Int.le_refl _, fun y h => by cases h⟩
  | y :: r, x => by
    have e : PySem.W.maxOf x (y :: r) = PySem.W.maxOf (if decide (x < y) = true then y else x) r := rfl
    rw [e]
    by_cases h : x < y
    · rw [if_pos (decide_eq_true h)]
      obtain ⟨h1, h2, h3⟩ := maxOf_fold r y
      refine ⟨?_, by omega, fun z hz => ?_⟩
      · rcases h1 with h1 | h1
        · exact .inr (by rw [h1]; exact List.mem_cons_self)
        · exact .inr (List.mem_cons_of_mem _ h1)
      · rcases List.mem_cons.mp hz with rfl | hz
        · exact h2
        · exact h3 z hz
    · rw [if_neg (by simpa using h)]
      obtain ⟨h1, h2, h3⟩ := maxOf_fold r x
      refine ⟨?_, h2, fun z hz => ?_⟩
      · rcases h1 with h1 | h1
        · exact .inl h1
        · exact .inr (List.mem_cons_of_mem _ h1)
      · rcases List.mem_cons.mp hz with rfl | hz
        · omega
        · exact h3 z hz
/-- the greatest of ints -/
def mx : List Int → Int
  | [] => 0
  | [x] => x
  | x :: y :: r => max x (mx (y :: r))
theorem mx_mem : ∀ {ns : List Int}, ns ≠ [] → mx ns ∈ ns
  | [], h => absurd rfl h
  | [x], _ => List.mem_cons_self
  | x :: y :: r, _ => by
    have ih := mx_mem (ns := y :: r) (List.cons_ne_nil _ _)
    show max x (mx (y :: r)) ∈ x :: y :: r
    by_cases h : mx (y :: r) ≤ x
    · rw [Int.max_eq_left h]
      exact List.mem_cons_self
    · rw [Int.max_eq_right (by omega)]
      exact List.mem_cons_of_mem _ ih
theorem le_mx : ∀ {ns : List Int} {y : Int}, y ∈ ns → y ≤ mx ns
  | [], _, h => by cases h
  | [x], y, h => by
    rcases List.mem_cons.mp h with rfl | h
    · exact Int.le_refl _
    · cases h
  | x :: z :: r, y, h => by
    show y ≤ max x (mx (z :: r))
    rcases List.mem_cons.mp h with rfl | h
    · omega
    · have := le_mx h
      omega
theorem mx_eq {ns : List Int} {m : Int} (h : m ∈ ns) (hl : ∀ y ∈ ns, y ≤ m) : m = mx ns := by
  have h1 := le_mx h
  have h2 := hl _ (mx_mem (List.ne_nil_of_mem h))
  omega
def rMaxT (K : PySem.W.Frag) : List V → Hp → VK → Prop := fun vs H Q => ∃ (a : Addr) (ns : List Int), vs = [V.ref a] ∧ SqT K H a (ns.map V.int) ∧ ns ≠ [] ∧ Q (.int (mx ns)) H
theorem cr_maxT {X : Cx} (hc : X.calm = true) (hu : X.A.units + 64 < cLine) : CallR X (.builtin "max") (rMaxT X.K) := by
  intro pins s σ H vs us Q I r h
  obtain ⟨a, ns, rfl, hs, hne, q⟩ := h
  obtain ⟨its, rv, hl, _⟩ := I.tuple hs
  rw [Vals.ref1 r]
  cases ns with
  | nil => exact absurd rfl hne
  | cons x ns =>
    refine PySem.W.max_tuple_datum (I.ok.hd hc) (show s.heap.IsTuple a its.toArray from hl) (x := x) (xs := ns) (PySem.W.HoldAll.of_ints (by simpa using rv.ints)) (by show X.A.units + 1 + 0 < cLine; omega) fun i v h' tk hi hv hk => ?_
    obtain ⟨as, hr⟩ := hv
    obtain ⟨h1, h2, h3⟩ := maxOf_fold ns x
    have e : PySem.W.maxOf x ns = mx (x :: ns) := by
      refine mx_eq ?_ ?_
      · rcases h1 with h1 | h1
        · rw [h1]; exact List.mem_cons_self
        · exact List.mem_cons_of_mem _ h1
      · intro y hy
        rcases List.mem_cons.mp hy with rfl | hy
        · exact h2
        · exact h3 y hy
    rw [e] at hr
    have hv : ∃ t, v = .int (mx (x :: ns)) t := by
      have hr2 : Reads h' v (.int (mx (x :: ns))) as := hr
      cases hr2
      exact ⟨_, rfl⟩
    obtain ⟨t, rfl⟩ := hv
    exact ⟨.int (mx (x :: ns)), H, I.kept hk, ⟨_, rfl⟩, q⟩
theorem g_maxT {K : PySem.W.Frag} {H : Hp} {a : Addr} {ns : List Int} {Q : VK} (h : SqT K H a (ns.map V.int)) (hn : ns ≠ []) (q : Q (.int (mx ns)) H) : rMaxT K [.ref a] H Q := ⟨a, ns, rfl, h, hn, q⟩
theorem g_maxL {K : PySem.W.Frag} {H : Hp} {a : Addr} {ns : List Int} {Q : VK} (h : SqL K H a (ns.map V.int)) (hn : ns ≠ []) (q : Q (.int (mx ns)) H) : rMax K [.ref a] H Q :=
  ⟨a, ns, rfl, h, List.length_pos_iff.mpr hn, fun m h1 h2 => by rw [mx_eq h1 h2]; exact q⟩
/-! ### tuple(list): the tuple's own object is told (a tuple's methods ask that it has no dict) -/
def TupK (H : Hp) (a : Addr) (xs : List V) : Prop := ∃ o, H a = some (.frz o (.tup xs)) ∧ o.cls = .type "tuple" ∧ o.dict = none
theorem TupK.sq {K : PySem.W.Frag} {H : Hp} {a : Addr} {xs : List V} (h : TupK H a xs) : SqT K H a xs := by
  obtain ⟨o, e, _⟩ := h
  exact .inl (.inr ⟨o, e⟩)
theorem TupK.ex {H H' : Hp} {a : Addr} {xs : List V} (e : Ex H H') (h : TupK H a xs) : TupK H' a xs := by
  obtain ⟨o, h, c⟩ := h
  exact ⟨o, e _ _ h, c⟩
theorem TupK.exb {H H' : Hp} {l a : Addr} {xs ys : List V} (e : Exb l H H') (hl : H l = some (.lst ys)) (h : TupK H a xs) : TupK H' a xs := by
  obtain ⟨o, h, c⟩ := h
  exact ⟨o, e _ _ (ne_of h hl (by intro z; cases z)) h, c⟩
def rTupD (K : PySem.W.Frag) : List V → Hp → VK → Prop := fun xs H Q => ∃ p ys, xs = [.ref p] ∧ ((SqL K H p ys ∧ ∀ l o, H l = none → o.cls = .type "tuple" → o.dict = none → Q (.ref l) (upd H l (.frz o (.tup ys)))) ∨ (SqT K H p ys ∧ Q (.ref p) H))
theorem c_tuple_of {X : Cx} : CallR X (.type "tuple") (rTupD X.K) := by
  intro pins s σ H xs us Q I r h
  obtain ⟨p, ys, rfl, h⟩ := h
  obtain ⟨u, rfl, rx⟩ := vals1 r
  cases rx
  rcases h with ⟨hq, q⟩ | ⟨hq, q⟩
  · obtain ⟨its, r', pl, hz⟩ := I.list hq
    have hlen := r'.length
    refine call_tuple_list pl.isList (fun h' kp => ?_) (by simp only [List.size_toArray] <;> omega)
    have I1 : Inv X pins σ H { s with heap := h' } := I.kept (t' := s.toks) kp
    have I2 : Inv X pins σ (upd H h'.objs.size (.frz { cls := .type "tuple", data := .seq its.toArray } (.tup ys))) { s with heap := h'.push { cls := .type "tuple", data := .seq its.toArray } } :=
      I1.laid (t' := s.toks) (fun b o e => Heap.get?_push_of_some _ e) (Nat.le_refl _) (show ObjOk X.prog X.w _ _ _ (.frz { cls := .type "tuple", data := .seq its.toArray } (.tup ys)) from ⟨Heap.get?_push_size _ rfl, hz, its, r', IsTup.new _ _⟩)
    exact ⟨.ref h'.objs.size, _, I2, rfl, q _ _ (I1.hok.fresh (Nat.le_refl _)) rfl rfl⟩
  · obtain ⟨its, r', pl, hz⟩ := I.tuple hq
    exact call_tuple_same pl ⟨.ref p, H, I, rfl, q⟩
theorem g_tupD {K : PySem.W.Frag} {H : Hp} {a : Addr} {xs : List V} {Q : VK} (h : SqL K H a xs) (q : ∀ p H2, H p = none → Ex H H2 → TupK H2 p xs → Q (.ref p) H2) : rTupD K [.ref a] H Q :=
  ⟨a, xs, rfl, .inl ⟨h, fun p o hp h1 h2 => q p _ hp (Ex.new hp) ⟨o, upd_same, h1, h2⟩⟩⟩
/-- t.index(n) -/
def tBMT (r : V → List V → Hp → VK → Prop) (to : TE) (t : TA) : TE := fun σ H Q => to σ H fun x H1 => (∃ p xs, x = .ref p ∧ TupK H1 p xs) ∧ t σ H1 fun ys H2 => r x ys H2 Q
section
variable {X : Cx} {o e : Expr} {es : List Expr} {to : TE} {t : TA} {name : Str} {apos cpos : Pos} {id : String} {r : V → List V → Hp → VK → Prop}
theorem pe_bmT (slot : Slot "tuple" name id) (hty : typeOf (.builtin id) = pure (.type "method_descriptor")) (hm : MtR X id r) (ho : PE X o to) (ha : PA X (e :: es) t)
    (hbase : attributeBase o name X.env (eval o X.env) = eval o X.env := by rfl)
    (hfew : ((backTo cpos (starEach (e :: es) X.env)).all (fun x => !x.1) && (backToKw cpos (keywordEach [] X.env)).all (fun x => x.1.isSome)
      && decide ((e :: es).length + ([] : List Keyword).length + (if ([] : List Keyword).isEmpty then 0 else 1) < 30)) = true := by rfl)
    (hline : (apos.endLine == cpos.line) = true := by rfl) (hs : starEach (e :: es) X.env = (false, eval e X.env) :: starEach es X.env := by rfl) (hplain : (backTo cpos (starEach es X.env)).any (·.1) = false := by rfl) :
    PE X (.Call (.Attribute o name apos) (e :: es) [] cpos) (tBMT r to t) := by
  refine ⟨fun pins s σ H Q I h => ?_⟩
  refine wpAny_Call_method_late hbase hfew hline rfl (thn (ho.run pins s σ H _ I h) fun v s1 ⟨x, H1, I1, r1, ⟨p, xs, ex, ob, eo, oc, od⟩, q1⟩ => ?_)
  subst ex
  obtain rfl : v = Value.ref p := r1
  obtain ⟨hob, _⟩ := I1.hok p _ eo
  refine ⟨"tuple", id, PySem.F.plainAttrs_tuple, slot, hty, ⟨ob, hob, oc⟩, fun a e => ?_, ?_⟩
  · cases e
    exact ⟨ob, hob, od⟩
  have hA := ha.run cpos pins s1 σ H1 _ I1 q1
  rw [hs] at hA ⊢
  refine Calls.callWith_builtin (by show (false || (backTo cpos (starEach es X.env)).any (·.1)) = false; rw [hplain] <;> rfl) (Calls.evalArgs_plain ?_)
  exact thn hA fun us s2 ⟨vs, H2, I2, r2, q2⟩ => hm pins s2 σ H2 (.ref p) vs (.ref p) us Q I2 rfl r2 q2
def rIndexTI (K : PySem.W.Frag) : V → List V → Hp → VK → Prop := fun x xs H Q => ∃ (p : Addr) (ys : List Int) (z : Int) (j : Nat), x = .ref p ∧ xs = [.int z] ∧ SqT K H p (ys.map V.int) ∧ ys[j]? = some z ∧ (∀ m, m < j → ys[m]? ≠ some z) ∧ Q (.int (j : Nat)) H
theorem flat_ints (ys : List Int) : (ys.map V.int).all flatV = true := by
  rw [List.all_map]
  exact List.all_eq_true.mpr fun _ _ => rfl
theorem mt_indexTI : MtR X "tuple.index" (rIndexTI X.K) := by
  intro pins s σ H x xs v us Q I rx rs h
  obtain ⟨p, ys, z, j, rfl, rfl, hq, hy, hno, q⟩ := h
  cases rx
  obtain ⟨u, rfl, t, rfl⟩ := vals1 rs
  obtain ⟨its, r, pl, hz⟩ := I.tuple hq
  obtain ⟨⟨cls, dd, dt, sl⟩, ho, hc, n, hd⟩ := pl
  simp only at hc hd
  subst hc
  subst hd
  have hl : its.toArray.size = ys.length := by rw [List.size_toArray, ← r.length, List.length_map]
  have hj : j < its.toArray.size := by rw [hl]; exact (List.getElem?_eq_some_iff.mp hy).1
  have at' : ∀ (m : Nat) (hm : m < its.toArray.size), ∃ y t', ys[m]? = some y ∧ its.toArray[m] = Value.int y t' := fun m hm => by
    have hm' : m < ys.length := by rw [← hl]; exact hm
    obtain ⟨w, hw, t', hw'⟩ := r.get (i := m) (x := .int ys[m]) (by simp [hm'])
    refine ⟨ys[m], t', List.getElem?_eq_getElem hm', ?_⟩
    have e := (List.getElem?_eq_some_iff.mp hw).2
    rw [← hw', ← e]
    simp
  refine call_meets PySem.F.slot_tuple_index ⟨_, ho, rfl⟩ PySem.F.entry_tuple_index (PySem.F.args_tuple_index_2 _ _) (TI.tuple_indexAt p its.toArray n dd sl (.int z t) (eqU (.int z)) j hj ?_ ?_)
    ⟨ho, fun w hw => mem_eqAt (x := .int z) ⟨t, rfl⟩ rfl r (flat_ints ys) w (by simpa using hw), ⟨.int (j : Nat), H, I.tok _, ⟨_, rfl⟩, q⟩⟩
  · obtain ⟨y, t', h1, h2⟩ := at' j hj
    rw [hy] at h1
    cases h1
    rw [h2]
    show (z == z) = true
    exact beq_self_eq_true z
  · intro m hm hmj
    obtain ⟨y, t', h1, h2⟩ := at' m hm
    rw [h2]
    show (y == z) = false
    refine beq_eq_false_iff_ne.mpr fun e => ?_
    subst e
    exact hno m hmj h1
theorem g_bmT {σ : L2.St} {H : Hp} {Q : VK} (q : to σ H fun x H1 => (∃ p xs, x = .ref p ∧ TupK H1 p xs) ∧ t σ H1 fun ys H2 => r x ys H2 Q) : tBMT r to t σ H Q := q
end
end G48
namespace G48
open PySem PySem.Spec PyProof.Rows L2 Evl
/-! ### comprehensions -/
def kLcE (D : Addr) (N : Hp → Prop) : VK := fun y H4 => ∃ acc, H4 D = some (.lst acc) ∧ acc.length < sizeLine ∧ N (upd H4 D (.lst (acc ++ [y])))
def kLcT (te : TE) (σ2 : L2.St) (D : Addr) (N : Hp → Prop) (b : Bool) (H3 : Hp) : Prop := if b = true then te σ2 H3 (kLcE D N) else N H3
def kLcG (tt : TT) (te : TE) (vs : List Nat) (σ : L2.St) (D : Addr) (N : Hp → Prop) (σ2 : L2.St) (H2 : Hp) : Prop := wipe σ2 vs = wipe σ vs ∧ tt σ2 H2 (kLcT te σ2 D N)
/-! within a comprehension the part of the heap is named -/
section
variable {X : Cx} {e : Expr} {ta : TE} {f : Str} {pos : Pos} {es : List Expr} {k n : Nat} {t : TGs}
theorem ix_tupK (K : PySem.W.Frag) (h : X.K = K := by rfl) : IxR X (rIxT K) := by subst h; exact ix_tup
theorem ix_listK (K : PySem.W.Frag) (h : X.K = K := by rfl) : IxR X (rIxL K) := by subst h; exact ix_list
theorem c_lenK (K : PySem.W.Frag) (h : X.K = K := by rfl) : CallR X (.builtin "len") (rLen K) := by subst h; exact c_len
theorem pe_fldK (K : PySem.W.Frag) (he : PE X e ta) (hb : attributeBase e f X.env (eval e X.env) = eval e X.env) (h : X.K = K := by rfl) : PE X (.Attribute e f pos) (tFld K ta f) := by subst h; exact pe_fld he hb
theorem pg_tupK (K : PySem.W.Frag) (hc : X.calm = true) (h : PGs X es t)
    (hn : (assignEach es X.env).length = n := by rfl) (hst : (assignEach es X.env).findIdx? (·.1) = none := by rfl) (hK : X.K = K := by rfl) : PG X (.Tuple es k pos) (gTup K n t) := by subst hK; exact pg_tup hc h hn hst
end
section
variable {K : PySem.W.Frag} {σ σ2 : L2.St} {H : Hp} {D : Addr} {N : Hp → Prop} {acc : List V} {y : V} {te : TE} {tt : TT} {vs : List Nat} {b : Bool} {Q : VK} {g : TG} {tr : TA} {tl : TE} {a : Addr} {xs : List V}
theorem g_kLcE (h : H D = some (.lst acc)) (z : acc.length < sizeLine) (q : ∀ H', Exb D H H' → H' D = some (.lst (acc ++ [y])) → N H') : kLcE D N y H := ⟨acc, h, z, q _ Exb.upd upd_same⟩
theorem g_kLcTT (q : te σ2 H (kLcE D N)) : kLcT te σ2 D N true H := q
theorem g_kLcTF (q : N H) : kLcT te σ2 D N false H := q
theorem g_kLcT (h1 : b = true → te σ2 H (kLcE D N)) (h2 : b = false → N H) : kLcT te σ2 D N b H := by
  cases b with
  | true => exact h1 rfl
  | false => exact h2 rfl
theorem y_kLcT (hc : b = true) (q : te σ2 H (kLcE D N)) : kLcT te σ2 D N b H := by rw [hc]; exact q
theorem n_kLcT (hc : b = false) (q : N H) : kLcT te σ2 D N b H := by rw [hc]; exact q
theorem g_kLcG (h : wipe σ2 vs = wipe σ vs) (q : tt σ2 H (kLcT te σ2 D N)) : kLcG tt te vs σ D N σ2 H := ⟨h, q⟩
theorem g_yes {QB : Bool → Hp → Prop} (q : QB true H) : tYes σ H QB := q
/-- over range(n) -/
def kLcR1 (g : TG) (tt : TT) (te : TE) (vs : List Nat) (σ : L2.St) (Q : VK) (ws : List V) (H1 : Hp) : Prop := tLc (iRng1 (fun _ H Q => Q ws H)) g tt te vs σ H1 Q
theorem g_lcR1 (q : tr σ H (kLcR1 g tt te vs σ Q)) : tLc (iRng1 tr) g tt te vs σ H Q := q
theorem g_kLcR1 {n : Int} (hn : 0 ≤ n ∧ n < 2 ^ 62) (Pv : Addr → Nat → Hp → Prop) (h0 : ∀ D H1, H D = none → Ex H H1 → H1 D = some (.lst []) → Pv D 0 H1)
    (hs : ∀ D (i : Nat) H2, H D = none → (i : Int) < n → Pv D i H2 → g (.int (i : Int)) (wipe σ vs) H2 (kLcG tt te vs σ D (Pv D (i + 1))))
    (hd : ∀ D H2, H D = none → Pv D n.toNat H2 → Q (.ref D) H2) : kLcR1 g tt te vs σ Q [.int n] H :=
  ⟨n, rfl, by omega, by omega, fun D hD => lc_range (lo := 0) (n := n.toNat) (Pv D) (h0 D _ hD (Ex.new hD) upd_same) (fun i H2 hi p => by
    have e0 : (0 : Int) + (i : Int) = (i : Int) := Int.zero_add _
    rw [e0]
    exact hs D i H2 hD (by omega) p) (fun H2 p => hd D H2 hD p)⟩
/-- over range(a, b) -/
def kLcR2 (g : TG) (tt : TT) (te : TE) (vs : List Nat) (σ : L2.St) (Q : VK) (ws : List V) (H1 : Hp) : Prop := tLc (iRng2 (fun _ H Q => Q ws H)) g tt te vs σ H1 Q
theorem g_lcR2 (q : tr σ H (kLcR2 g tt te vs σ Q)) : tLc (iRng2 tr) g tt te vs σ H Q := q
theorem g_kLcR2 {lo n : Int} (hn : -(2 ^ 62) ≤ lo ∧ lo < 2 ^ 62 ∧ -(2 ^ 62) ≤ n ∧ n < 2 ^ 62) (Pv : Addr → Nat → Hp → Prop) (h0 : ∀ D H1, H D = none → Ex H H1 → H1 D = some (.lst []) → Pv D 0 H1)
    (hs : ∀ D (i : Nat) H2, H D = none → lo + (i : Int) < n → Pv D i H2 → g (.int (lo + (i : Int))) (wipe σ vs) H2 (kLcG tt te vs σ D (Pv D (i + 1))))
    (hd : ∀ D H2, H D = none → Pv D (n - lo).toNat H2 → Q (.ref D) H2) : kLcR2 g tt te vs σ Q [.int lo, .int n] H :=
  ⟨lo, n, rfl, hn, fun D hD => lc_range (lo := lo) (n := (n - lo).toNat) (Pv D) (h0 D _ hD (Ex.new hD) upd_same) (fun i H2 hi p => hs D i H2 hD (by omega) p) (fun H2 p => hd D H2 hD p)⟩
/-- over a list -/
def kLcL (K : PySem.W.Frag) (g : TG) (tt : TT) (te : TE) (vs : List Nat) (σ : L2.St) (Q : VK) : VK := fun x H1 => tLc (iList K (tC x)) g tt te vs σ H1 Q
theorem g_lcL (q : tl σ H (kLcL K g tt te vs σ Q)) : tLc (iList K tl) g tt te vs σ H Q := q
theorem g_kLcL (h : SqL K H a xs) (Pv : Addr → Nat → Hp → Prop) (h0 : ∀ D H1, H D = none → Ex H H1 → H1 D = some (.lst []) → Pv D 0 H1) (hl : ∀ D i H2, H D = none → i ≤ xs.length → Pv D i H2 → SqL K H2 a xs)
    (hs : ∀ D (i : Nat) x H2, H D = none → xs[i]? = some x → Pv D i H2 → g x (wipe σ vs) H2 (kLcG tt te vs σ D (Pv D (i + 1))))
    (hd : ∀ D H2, H D = none → Pv D xs.length H2 → Q (.ref D) H2) : kLcL K g tt te vs σ Q (.ref a) H :=
  ⟨a, rfl, ⟨xs, h⟩, fun D hD => lc_list (xs := xs) (Pv D) (h0 D _ hD (Ex.new hD) upd_same) (fun i H2 hi p => hl D i H2 hD hi p) (fun i x H2 hi p => hs D i x H2 hD hi p) (fun H2 p => hd D H2 hD p)⟩
/-- over a tuple -/
def kLcU (K : PySem.W.Frag) (g : TG) (tt : TT) (te : TE) (vs : List Nat) (σ : L2.St) (Q : VK) : VK := fun x H1 => tLc (iTup K (tC x)) g tt te vs σ H1 Q
theorem g_lcU (q : tl σ H (kLcU K g tt te vs σ Q)) : tLc (iTup K tl) g tt te vs σ H Q := q
theorem g_kLcU (h : SqT K H a xs) (Pv : Addr → Nat → Hp → Prop) (h0 : ∀ D H1, H D = none → Ex H H1 → H1 D = some (.lst []) → Pv D 0 H1) (hl : ∀ D i H2, H D = none → i ≤ xs.length → Pv D i H2 → SqT K H2 a xs)
    (hs : ∀ D (i : Nat) x H2, H D = none → xs[i]? = some x → Pv D i H2 → g x (wipe σ vs) H2 (kLcG tt te vs σ D (Pv D (i + 1))))
    (hd : ∀ D H2, H D = none → Pv D xs.length H2 → Q (.ref D) H2) : kLcU K g tt te vs σ Q (.ref a) H :=
  ⟨a, rfl, ⟨xs, h⟩, fun D hD => lc_tup (xs := xs) (Pv D) (h0 D _ hD (Ex.new hD) upd_same) (fun i H2 hi p => hl D i H2 hD hi p) (fun i x H2 hi p => hs D i x H2 hD hi p) (fun H2 p => hd D H2 hD p)⟩
/-- over enumerate(tuple) -/
def kLcN (K : PySem.W.Frag) (g : TG) (tt : TT) (te : TE) (vs : List Nat) (σ : L2.St) (Q : VK) (ws : List V) (H1 : Hp) : Prop := tLc (iEnumT K (fun _ H Q => Q ws H)) g tt te vs σ H1 Q
theorem g_lcN (q : tr σ H (kLcN K g tt te vs σ Q)) : tLc (iEnumT K tr) g tt te vs σ H Q := q
theorem g_kLcN (h : SqT K H a xs) (Pv : Addr → Nat → Hp → Prop) (h0 : ∀ D H1, H D = none → Ex H H1 → H1 D = some (.lst []) → Pv D 0 H1) (hl : ∀ D i H2, H D = none → i ≤ xs.length → Pv D i H2 → SqT K H2 a xs)
    (hs : ∀ D (i : Nat) x H2 T H3, H D = none → xs[i]? = some x → Pv D i H2 → Ex H2 H3 → H2 T = none → H3 T = some (.tup [.int (i : Int), x]) → g (.ref T) (wipe σ vs) H3 (kLcG tt te vs σ D (Pv D (i + 1))))
    (hd : ∀ D H2, H D = none → Pv D xs.length H2 → Q (.ref D) H2) : kLcN K g tt te vs σ Q [.ref a] H :=
  ⟨a, xs, rfl, h, fun D hD => lc_it walk_enumT (Pv D) (h0 D _ hD (Ex.new hD) upd_same) (fun i H2 hi p => hl D i H2 hD hi p) (fun i x H2 H3 hi p y => by
    obtain ⟨T, u, v, rfl, hT, rfl, e1, e2⟩ := y
    cases e1
    exact hs D i v H2 T _ hD e2 p (Ex.new hT) hT upd_same) (fun H2 p => hd D H2 hD p)⟩
end
end G48
namespace G48
open PySem PySem.Spec PyProof.Rows L2 Evl
/-! ### x in a tuple of data -/
def rInU (K : PySem.W.Frag) : R2 := fun x y H Q => ∃ d ds, Dp K H x d ∧ Dp K H y (.tuple ds) ∧ SeqAt.shaped d = true ∧ SeqAt.shaped (.tuple ds) = true ∧ Q (.bl (ds.any fun z => PyData.eqv z d)) H
def rNotInU (K : PySem.W.Frag) : R2 := fun x y H Q => ∃ d ds, Dp K H x d ∧ Dp K H y (.tuple ds) ∧ SeqAt.shaped d = true ∧ SeqAt.shaped (.tuple ds) = true ∧ Q (.bl (!ds.any fun z => PyData.eqv z d)) H
section
variable {X : Cx}
theorem op_inU {k : Nat} (hr : Room k X.A) : OpR X (compareOp .In) (rInU X.K) := by
  intro pins s σ H x y v u Q I rx ry h
  obtain ⟨d, ds, hd, he, sd, se, q⟩ := h
  obtain ⟨as, r1⟩ := Dp.reads I d x v hd rx
  obtain ⟨bs, r2⟩ := Dp.reads I (.tuple ds) y u he ry
  exact SeqAt.in_tuple_reads r2 r1 (SeqAt.canLay_of_shaped se) (SeqAt.canLay_of_shaped sd) (room_in_shaped sd (by have := hr.un; omega)) ⟨.bl _, H, I, rfl, q⟩
theorem op_notInU {k : Nat} (hr : Room k X.A) : OpR X (compareOp .NotIn) (rNotInU X.K) := by
  intro pins s σ H x y v u Q I rx ry h
  obtain ⟨d, ds, hd, he, sd, se, q⟩ := h
  obtain ⟨as, r1⟩ := Dp.reads I d x v hd rx
  obtain ⟨bs, r2⟩ := Dp.reads I (.tuple ds) y u he ry
  exact SeqAt.notIn_tuple_reads r2 r1 (SeqAt.canLay_of_shaped se) (SeqAt.canLay_of_shaped sd) (room_in_shaped sd (by have := hr.un; omega)) ⟨.bl _, H, I, rfl, q⟩
end
/-! ### pairs of ints -/
def pairD (p : Int × Int) : PyData := .tuple [.int p.1, .int p.2]
theorem pairD_eqv (p q : Int × Int) : PyData.eqv (pairD p) (pairD q) = decide (p = q) := by
  rw [Bool.eq_iff_iff]
  obtain ⟨a, b⟩ := p
  obtain ⟨c, d⟩ := q
  simp [pairD, PyData.eqv, PyData.eqvAll]
theorem pairD_inj {p q : Int × Int} (h : pairD p = pairD q) : p = q := by
  obtain ⟨a, b⟩ := p
  obtain ⟨c, d⟩ := q
  unfold pairD at h
  simp at h
  rw [h.1, h.2]
theorem pairD_lay (p : Int × Int) : (pairD p).canLay0 = true := by simp [pairD, PyData.canLay0, PyData.canLayAll0]
theorem pairD_depth (p : Int × Int) : (pairD p).depth = 1 := by simp [pairD, PyData.depth, PyData.depthAll]
theorem pairsD_lay : ∀ ps : List (Int × Int), PyData.canLayAll0 (ps.map pairD) = true
  | [] => by simp [PyData.canLayAll0]
  | z :: zs => by simp [PyData.canLayAll0, pairD_lay z, pairsD_lay zs]
theorem pairsD_depth : ∀ ps : List (Int × Int), PyData.depthAll (ps.map pairD) ≤ 1
  | [] => by simp [PyData.depthAll]
  | z :: zs => by
    have h1 := pairsD_depth zs
    have h2 := pairD_depth z
    simp only [List.map_cons, PyData.depthAll]
    omega
theorem pairD_sh (p : Int × Int) : SeqAt.shaped (pairD p) = true := by
  have h := pairD_depth p
  show ((pairD p).canLay0 && decide ((pairD p).depth ≤ 64)) = true
  rw [Bool.and_eq_true]
  exact ⟨pairD_lay p, decide_eq_true (by omega)⟩
theorem pairsT_sh (ps : List (Int × Int)) : SeqAt.shaped (.tuple (ps.map pairD)) = true := by
  have h1 := pairsD_depth ps
  have h2 : PyData.depth (.tuple (ps.map pairD)) ≤ 64 := by
    simp only [PyData.depth]
    omega
  show (PyData.canLay0 (.tuple (ps.map pairD)) && decide (PyData.depth (.tuple (ps.map pairD)) ≤ 64)) = true
  rw [Bool.and_eq_true]
  exact ⟨by simp only [PyData.canLay0]; exact pairsD_lay ps, decide_eq_true h2⟩
theorem pairsL_sh (ps : List (Int × Int)) : SeqAt.shaped (.list (ps.map pairD)) = true := by
  have h1 := pairsD_depth ps
  have h2 : PyData.depth (.list (ps.map pairD)) ≤ 64 := by
    simp only [PyData.depth]
    omega
  show (PyData.canLay0 (.list (ps.map pairD)) && decide (PyData.depth (.list (ps.map pairD)) ≤ 64)) = true
  rw [Bool.and_eq_true]
  exact ⟨by simp only [PyData.canLay0]; exact pairsD_lay ps, decide_eq_true h2⟩
theorem non_sh : SeqAt.shaped .none = true := by
  show (PyData.canLay0 .none && decide (PyData.depth .none ≤ 64)) = true
  rw [Bool.and_eq_true]
  exact ⟨by simp [PyData.canLay0], decide_eq_true (by simp [PyData.depth])⟩
def pairV (K : PySem.W.Frag) (H : Hp) (x : V) (p : Int × Int) : Prop := ∃ a, x = .ref a ∧ SqT K H a [.int p.1, .int p.2]
theorem pairV.dp {K : PySem.W.Frag} {H : Hp} {x : V} {p : Int × Int} (h : pairV K H x p) : Dp K H x (pairD p) := by
  obtain ⟨a, rfl, h⟩ := h
  exact .tup h (.cons (.int _) (.cons (.int _) .nil))
def pairsV (K : PySem.W.Frag) (H : Hp) : List V → List (Int × Int) → Prop
  | [], [] => True
  | x :: xs, p :: ps => pairV K H x p ∧ pairsV K H xs ps
  | _, _ => False
theorem pairsV.dp {K : PySem.W.Frag} {H : Hp} : ∀ {xs : List V} {ps : List (Int × Int)}, pairsV K H xs ps → DpAll K H xs (ps.map pairD)
  | [], [], _ => .nil
  | _ :: _, _ :: _, h => .cons h.1.dp (pairsV.dp h.2)
  | [], _ :: _, h => h.elim
  | _ :: _, [], h => h.elim
theorem pairsV.len {K : PySem.W.Frag} {H : Hp} : ∀ {xs : List V} {ps : List (Int × Int)}, pairsV K H xs ps → xs.length = ps.length
  | [], [], _ => rfl
  | _ :: xs, _ :: ps, h => by rw [List.length_cons, List.length_cons, pairsV.len h.2]
  | [], _ :: _, h => h.elim
  | _ :: _, [], h => h.elim
theorem pairV.imp {K : PySem.W.Frag} {H H' : Hp} {x : V} {p : Int × Int} (e : ∀ a xs, SqT K H a xs → SqT K H' a xs) (h : pairV K H x p) : pairV K H' x p := let ⟨a, ex, h⟩ := h; ⟨a, ex, e _ _ h⟩
theorem pairsV.imp {K : PySem.W.Frag} {H H' : Hp} (e : ∀ a xs, SqT K H a xs → SqT K H' a xs) : ∀ {xs : List V} {ps : List (Int × Int)}, pairsV K H xs ps → pairsV K H' xs ps
  | [], [], _ => trivial
  | _ :: _, _ :: _, h => ⟨h.1.imp e, pairsV.imp e h.2⟩
  | [], _ :: _, h => h.elim
  | _ :: _, [], h => h.elim
theorem pairsV.ex {K : PySem.W.Frag} {H H' : Hp} {xs : List V} {ps : List (Int × Int)} (e : Ex H H') (h : pairsV K H xs ps) : pairsV K H' xs ps := h.imp fun _ _ => ex_t e
theorem pairsV.exb {K : PySem.W.Frag} {H H' : Hp} {l : Addr} {ys xs : List V} {ps : List (Int × Int)} (e : Exb l H H') (hl : H l = some (.lst ys)) (h : pairsV K H xs ps) : pairsV K H' xs ps := h.imp fun _ _ => exb_t e hl
theorem pairsV.app {K : PySem.W.Frag} {H : Hp} : ∀ {xs : List V} {ps : List (Int × Int)} {ys : List V} {qs : List (Int × Int)}, pairsV K H xs ps → pairsV K H ys qs → pairsV K H (xs ++ ys) (ps ++ qs)
  | [], [], _, _, _, k => k
  | _ :: _, _ :: _, _, _, h, k => ⟨h.1, pairsV.app h.2 k⟩
  | [], _ :: _, _, _, h, _ => h.elim
  | _ :: _, [], _, _, h, _ => h.elim
theorem pairsV.one {K : PySem.W.Frag} {H : Hp} {x : V} {p : Int × Int} (h : pairV K H x p) : pairsV K H [x] [p] := ⟨h, trivial⟩
theorem pairsV.at {K : PySem.W.Frag} {H : Hp} : ∀ {xs : List V} {ps : List (Int × Int)} {i : Nat} {p : Int × Int}, pairsV K H xs ps → ps[i]? = some p → ∃ x, xs[i]? = some x ∧ pairV K H x p
  | [], [], i, p, _, e => by simp at e
  | x :: xs, q :: ps, 0, p, h, e => ⟨x, rfl, by
    have e' : q = p := by simpa using e
    rw [← e']
    exact h.1⟩
  | x :: xs, q :: ps, i + 1, p, h, e => by
    obtain ⟨y, hy, k⟩ := pairsV.at (i := i) h.2 (by simpa using e)
    exact ⟨y, by simpa using hy, k⟩
  | [], _ :: _, _, _, h, _ => h.elim
  | _ :: _, [], _, _, h, _ => h.elim
theorem pairsV.rev {K : PySem.W.Frag} {H : Hp} : ∀ {xs : List V} {ps : List (Int × Int)}, pairsV K H xs ps → pairsV K H xs.reverse ps.reverse
  | [], [], _ => trivial
  | x :: xs, p :: ps, h => by
    rw [List.reverse_cons, List.reverse_cons]
    exact pairsV.app (pairsV.rev h.2) (pairsV.one h.1)
  | [], _ :: _, h => h.elim
  | _ :: _, [], h => h.elim
theorem pairsV.at' {K : PySem.W.Frag} {H : Hp} : ∀ {xs : List V} {ps : List (Int × Int)} {i : Nat} {x : V}, pairsV K H xs ps → xs[i]? = some x → ∃ p, ps[i]? = some p ∧ pairV K H x p
  | [], [], i, x, _, e => by simp at e
  | x :: xs, q :: ps, 0, y, h, e => ⟨q, rfl, by
    have e' : x = y := by simpa using e
    rw [← e']
    exact h.1⟩
  | x :: xs, q :: ps, i + 1, y, h, e => by
    obtain ⟨p, hp, k⟩ := pairsV.at' (i := i) h.2 (by simpa using e)
    exact ⟨p, by simpa using hp, k⟩
  | [], _ :: _, _, _, h, _ => h.elim
  | _ :: _, [], _, _, h, _ => h.elim
theorem pairsV.drop {K : PySem.W.Frag} {H : Hp} : ∀ {xs : List V} {ps : List (Int × Int)} (n : Nat), pairsV K H xs ps → pairsV K H (xs.drop n) (ps.drop n)
  | _, _, 0, h => h
  | [], [], _ + 1, _ => trivial
  | _ :: _, _ :: _, n + 1, h => pairsV.drop n h.2
  | [], _ :: _, _ + 1, h => h.elim
  | _ :: _, [], _ + 1, h => h.elim
section
variable {K : PySem.W.Frag} {H : Hp} {Q : VK} {x y : V} {p q : Int × Int} {a b : Addr} {xs ys : List V} {ps qs : List (Int × Int)}
theorem g_eqP2 (h1 : pairV K H x p) (h2 : pairV K H y q) (k : Q (.bl (decide (p = q))) H) : rEqD K x y H Q := g_eqD h1.dp h2.dp (pairD_sh _) (pairD_sh _) (by rw [pairD_eqv]; exact k)
theorem g_neP2 (h1 : pairV K H x p) (h2 : pairV K H y q) (k : Q (.bl (!decide (p = q))) H) : rNeD K x y H Q := g_neD h1.dp h2.dp (pairD_sh _) (pairD_sh _) (by rw [pairD_eqv]; exact k)
theorem pairs_any (ps : List (Int × Int)) (p : Int × Int) : ((ps.map pairD).any fun z => PyData.eqv z (pairD p)) = decide (p ∈ ps) := by
  rw [Bool.eq_iff_iff]
  simp [pairD_eqv]
theorem g_inU (h1 : pairV K H x p) (h2 : SqT K H b ys) (h3 : pairsV K H ys qs) (k : Q (.bl (decide (p ∈ qs))) H) : rInU K x (.ref b) H Q := ⟨_, _, h1.dp, .tup h2 h3.dp, pairD_sh _, pairsT_sh _, by rw [pairs_any]; exact k⟩
theorem g_notInU (h1 : pairV K H x p) (h2 : SqT K H b ys) (h3 : pairsV K H ys qs) (k : Q (.bl (!decide (p ∈ qs))) H) : rNotInU K x (.ref b) H Q := ⟨_, _, h1.dp, .tup h2 h3.dp, pairD_sh _, pairsT_sh _, by rw [pairs_any]; exact k⟩
end
/-! ### the least of a list of pairs -/
def leP (p q : Int × Int) : Prop := p.1 < q.1 ∨ (p.1 = q.1 ∧ p.2 ≤ q.2)
theorem ltP (p q : Int × Int) : PySem.W.DatumOrd.lt p q = true → leP p q := by
  intro h
  have h' : (if p.1 = q.1 then decide (p.2 < q.2) else decide (p.1 < q.1)) = true := h
  unfold leP
  split at h'
  · have := of_decide_eq_true h'
    omega
  · have := of_decide_eq_true h'
    omega
theorem nltP (p q : Int × Int) : ¬ PySem.W.DatumOrd.lt p q = true → leP q p := by
  intro h
  have h' : ¬ (if p.1 = q.1 then decide (p.2 < q.2) else decide (p.1 < q.1)) = true := h
  unfold leP
  split at h'
  · have k : ¬ (p.2 < q.2) := fun z => h' (decide_eq_true z)
    omega
  · have k : ¬ (p.1 < q.1) := fun z => h' (decide_eq_true z)
    omega
theorem leP.trans {p q r : Int × Int} (h : leP p q) (k : leP q r) : leP p r := by
  unfold leP at *
  omega
theorem leP.refl (p : Int × Int) : leP p p := .inr ⟨rfl, Int.le_refl _⟩
theorem minOf_leP : ∀ (xs : List (Int × Int)) (x : Int × Int), leP (PySem.W.minOf x xs) x ∧ ∀ q ∈ xs, leP (PySem.W.minOf x xs) q
  | [], x => ⟨.refl x, fun q h => by cases h⟩
  | y :: r, x => by
    have e : PySem.W.minOf x (y :: r) = PySem.W.minOf (if PySem.W.DatumOrd.lt y x = true then y else x) r := rfl
    rw [e]
    by_cases h : PySem.W.DatumOrd.lt y x = true
    · rw [if_pos h]
      obtain ⟨h1, h2⟩ := minOf_leP r y
      refine ⟨h1.trans (ltP _ _ h), fun q hq => ?_⟩
      rcases List.mem_cons.mp hq with rfl | hq
      · exact h1
      · exact h2 q hq
    · rw [if_neg h]
      obtain ⟨h1, h2⟩ := minOf_leP r x
      refine ⟨h1, fun q hq => ?_⟩
      rcases List.mem_cons.mp hq with rfl | hq
      · exact h1.trans (nltP _ _ h)
      · exact h2 q hq
def rMinP (K : PySem.W.Frag) : List V → Hp → VK → Prop := fun xs H Q => ∃ (a : Addr) (vs : List V) (ps : List (Int × Int)), xs = [.ref a] ∧ SqL K H a vs ∧ pairsV K H vs ps ∧ ps ≠ [] ∧ ∀ x p, pairV K H x p → p ∈ ps → (∀ q ∈ ps, leP p q) → Q x H
theorem cr_minP {X : Cx} {k : Nat} (hc : X.calm = true) (hr : Room k X.A) : CallR X (.builtin "min") (rMinP X.K) := by
  intro pins s σ H vs us Q I r h
  obtain ⟨a, xs, ps, rfl, hs, hp, hne, q⟩ := h
  obtain ⟨its, rv, hl, _⟩ := I.list hs
  rw [Vals.ref1 r]
  obtain ⟨as, hr'⟩ := Dp.readsAll I _ _ its hp.dp rv
  cases ps with
  | nil => exact absurd rfl hne
  | cons x ps =>
    have HA : PySem.W.HoldAll s.heap its.toArray.toList (x :: ps) := ⟨as, show ReadsAll s.heap its ((x :: ps).map pairD) as from hr'⟩
    refine PySem.W.min_list_datum (I.ok.hd hc) hl.isList HA (by show X.A.units + 1 + 1 < cLine; have := hr.un; omega) fun i v h' tk hi hv hk => ?_
    obtain ⟨p, hpi, hh⟩ := PySem.W.HoldAll.at HA (i := i) (by simpa using hi)
    have e : p = PySem.W.minOf x ps := by
      obtain ⟨bs, r1⟩ := PySem.W.Holds.keeps hk hh
      obtain ⟨cs, r2⟩ := hv
      exact pairD_inj (SeqAt.Reads.unique (pairD p) _ _ _ _ (pairD_lay p) r1 r2)
    obtain ⟨z, hz, pz⟩ := hp.at hpi
    obtain ⟨u, hu', ru⟩ := rv.get hz
    have : u = v := by
      have h1 : its[i]? = some v := by simpa using hi
      rw [hu'] at h1
      exact Option.some.inj h1
    subst this
    obtain ⟨m1, m2⟩ := minOf_leP ps x
    refine ⟨z, H, I.kept hk, ru, q z p pz (List.mem_of_getElem? hpi) fun y hy => ?_⟩
    rw [e]
    rcases List.mem_cons.mp hy with rfl | hy
    · exact m1
    · exact m2 y hy
/-! ### == by an own def -/
def rEqO (C : Addr) (sp : Sp) (E : XK) : R2 := fun x y H Q => ∃ a b, x = .ref a ∧ y = .ref b ∧ (∃ dx fs, H a = some (.ins C dx fs)) ∧ (∃ dx fs, H b = some (.ins C dx fs)) ∧ sp [.ref a, .ref b] H (fun v H2 => ∃ c, v = .bl c ∧ Q v H2) E
theorem op_eqMf {X : Cx} {k j : Nat} {ps : List Str} {sp : Sp} {E : XK} {C : Addr} (D : Mf X.prog X.w X.K X.mg X.base C k "__eq__" ps sp) (hr : Room j X.A) (hx : Passes (L2.CX X.prog X.w) X E := by exact passL) (hk : k ≤ j := by decide) : OpR X (compareOp .Eq) (rEqO C sp E) := by
  intro pins s σ H x y v u Q I rx ry h
  obtain ⟨a, b, rfl, rfl, ⟨dx, fs, ha⟩, ⟨dy, gs, hb'⟩, q⟩ := h
  obtain rfl : v = Value.ref a := rx
  obtain rfl : u = Value.ref b := ry
  obtain ⟨f, fd, hm, hb, F⟩ := D.ex
  obtain ⟨mA, J, _⟩ := ins_get I.hok ha
  obtain ⟨mB, J', _⟩ := ins_get I.hok hb'
  obtain ⟨od, J, _⟩ := J.look
  obtain ⟨od', J', _⟩ := J'.look
  obtain ⟨m, hF⟩ := I.fr
  show wpAny (model X.prog X.w) X.A (richCompare .Eq (.ref a) (.ref b)) (EP X pins σ Q) X.xe s
  refine PySem.W.cmp_K (op := .Eq) (tb := .ref C) hr.units0 hF I.ok.mod.kin J J'.type (by simp [PySem.W.notFirst]) hm.at_ hm.fn ?_
  refine thn (run_fn F (hr.mono hk) hb .nil hx I (us := [.ref a, .ref b]) (vs := [.ref a, .ref b]) (.cons rfl (.cons rfl .nil)) q) fun v s1 hv => ?_
  obtain ⟨z, H1, I1, rz, c, ez, q1⟩ := hv
  subst ez
  cases rz
  exact ⟨.bl c, H1, I1, rfl, q1⟩
section
variable {C a b : Addr} {sp : Sp} {E : XK} {H : Hp} {Q : VK}
def kBl (Q : VK) : VK := fun v H2 => ∃ c, v = .bl c ∧ Q v H2
theorem g_kBl {c : Bool} (q : Q (.bl c) H) : kBl Q (.bl c) H := ⟨c, rfl, q⟩
theorem g_eqO {dx dy : Addr} {fs gs : List (Str × V)} (h1 : H a = some (.ins C dx fs)) (h2 : H b = some (.ins C dy gs)) (q : sp [.ref a, .ref b] H (kBl Q) E) : rEqO C sp E (.ref a) (.ref b) H Q := ⟨a, b, rfl, rfl, ⟨dx, fs, h1⟩, ⟨dy, gs, h2⟩, q⟩
end
/-! ### match v: case [x, y] if test: .. case _: .. -/
def sM2 (K : PySem.W.Frag) (te : TE) (i j : Nat) (tt : TT) (t1 t2 : TS) : TS := fun D σ H => te σ H fun x H1 => ∃ a v w, x = .ref a ∧ SqT K H1 a [v, w] ∧ tt ((σ.set i (some v)).set j (some w)) H1 (kIfS t1 t2 D ((σ.set i (some v)).set j (some w)))
theorem unpack2 {prog : Program} {w : World} {A : Around} {E : Value → Shared → Prop} {s : Shared} {a : Addr} {u1 u2 : Value} {Q : List Value → Shared → Prop} (hh : A.handled = none) (ht : IsTup s.heap a [u1, u2].toArray)
    (h : ∀ h', Heap.ExtBut s.heap.objs.size s.heap h' → Q [u1, u2] { s with heap := h' }) : wpAny (model prog w) A (unpackItems (.ref a) 2 none) Q E s := unpackItems_tuple (items := [u1, u2].toArray) hh ht h
theorem ps_match2 {X : Cx} {i j : Nat} {x1 x2 : Str} {e g : Expr} {b1 b2 : List Stmt} {te : TE} {tt : TT} {t1 t2 : TS} {p1 p2 p3 p4 pos : Pos} (hc : X.calm = true) (hN : X.N.Nodup) (hi : X.N[i]? = some x1) (hj : X.N[j]? = some x2) (hx : Loc X.env.scope x1) (hy : Loc X.env.scope x2)
    (he : PE X e te) (hg : PT X g tt) (h1 : PSs X b1 t1) (h2 : PSs X b2 t2) (hf1 : X.fn x1 = true ∨ X.env.scope.names.lookup x1 = some .local := by first | exact .inl rfl | exact .inr rfl) (hf2 : X.fn x2 = true ∨ X.env.scope.names.lookup x2 = some .local := by first | exact .inl rfl | exact .inr rfl) :
    PS X (.Match e [⟨.MatchSequence [.MatchAs none (some x1) p1, .MatchAs none (some x2) p2] p3, some g, b1⟩, ⟨.MatchAs none none p4, none, b2⟩] pos) (sM2 X.K te i j tt t1 t2) := by
  refine ⟨fun pins s σ H D I h => ?_⟩
  refine wpAny_Match (thn (he.run pins s σ H _ I h) fun u s1 ⟨x, H1, I1, r1, a, v, w, ex, hq, q⟩ => ?_)
  subst ex
  cases r1
  obtain ⟨its, rv, ht, hz⟩ := I1.tuple hq
  cases rv with
  | cons rv1 rr =>
  cases rr with
  | cons rv2 rn =>
  cases rn
  refine wpAny_matchCases_cons (matchSeq_tuple_hit (show s1.heap.IsTuple a _ from ht) (by simp) rfl ?_)
  refine unpack2 (I1.ok.hd hc) (a := a) (s := { s1 with toks := s1.toks + 1 + 1 }) ht fun h' hx' => ?_
  have I2 : Inv X pins σ H1 { s1 with heap := h', toks := s1.toks + 1 + 1 } := I1.kept (t' := s1.toks + 1 + 1) fun b o e => hx' b o (Nat.ne_of_lt (Heap.lt_size e)) e
  refine wpAny_matchEach_cons (wpAny_matchPattern_Capture (wpAny_matchEach_cons (wpAny_matchPattern_Capture (wpAny_matchEach_nil ?_))))
  refine wpAny_assignInOrder_more (wpAny_bindName (store_ok I2 hN hi hx rv1 (fun s3 I3 => ?_) hf1))
  refine wpAny_assignInOrder_more (wpAny_bindName (store_ok I3 hN hj hy rv2 (fun s4 I4 => ?_) hf2))
  refine wpAny_assignInOrder_none ?_
  refine thn (hg.run pins s4 _ H1 _ I4 q) fun c s5 ⟨H5, I5, q5⟩ => ?_
  cases c with
  | true => exact h1.run pins s5 _ H5 D I5 q5
  | false =>
    refine wpAny_matchCases_cons (wpAny_matchPattern_Capture (wpAny_assignInOrder_none ?_))
    exact h2.run pins s5 _ H5 D I5 q5
theorem g_m2 {K : PySem.W.Frag} {te : TE} {i j : Nat} {tt : TT} {t1 t2 : TS} {D : Ends} {σ : L2.St} {H : Hp} (q : te σ H fun x H1 => ∃ a v w, x = .ref a ∧ SqT K H1 a [v, w] ∧ tt ((σ.set i (some v)).set j (some w)) H1 (kIfS t1 t2 D ((σ.set i (some v)).set j (some w)))) : sM2 K te i j tt t1 t2 D σ H := q
theorem dec_in {i : Int} : decide (V.int i = V.non) = false := decide_eq_false fun z => by cases z
theorem dec_rn {a : Addr} : decide (V.ref a = V.non) = false := decide_eq_false fun z => by cases z
theorem dec_nn : decide (V.non = V.non) = true := decide_eq_true rfl
theorem ltLine {n : Nat} (h : n < 16000000) : n < sizeLine := Nat.lt_of_lt_of_le h (by rw [sizeLine_eq]; decide)
theorem leLine {n : Nat} (h : n ≤ 16000000) : n ≤ sizeLine := Nat.le_trans h (by rw [sizeLine_eq]; decide)
theorem pi_listK {X : Cx} {tg l : Expr} {tl : TE} (K : PySem.W.Frag) (hl : PE X l tl) (h : X.K = K := by rfl) : PI X tg l (iList K tl) := by subst h; exact pi_list hl
theorem u1 {k : Nat} {A : Around} (hr : Room k A) : A.units + 1 < cLine := by have := hr.un; omega
/-! ### sum of a tuple -/
def rSumT (K : PySem.W.Frag) : List V → Hp → VK → Prop := fun vs H Q => ∃ (a : Addr) (ns : List Int), vs = [V.ref a] ∧ SqT K H a (ns.map V.int) ∧ Q (.int ns.sum) H
theorem cr_sumT {X : Cx} (hc : X.calm = true) : CallR X (.builtin "sum") (rSumT X.K) := by
  intro pins s σ H vs us Q I r h
  obtain ⟨a, ns, rfl, hs, q⟩ := h
  obtain ⟨its, rv, hl, _⟩ := I.tuple hs
  rw [Vals.ref1 r]
  obtain ⟨xs, e⟩ := rv.ints.allInts.items
  have hn : numsOf (intItems xs).toList = ns := by rw [← e]; exact rv.ints.numsOf
  rw [nums_intItems] at hn
  have hl : s.heap.IsTuple a its.toArray := hl
  rw [e] at hl
  refine PySem.W.ktm_sumG (I.ok.hd hc) hl fun h' tk t' hk => ?_
  rw [preSum_eq, List.take_of_length_le (by simp), hn]
  exact ⟨.int _, H, I.kept hk, ⟨_, rfl⟩, q⟩
theorem g_sumT {K : PySem.W.Frag} {H : Hp} {Q : VK} {a : Addr} {ns : List Int} (h : SqT K H a (ns.map V.int)) (q : Q (.int ns.sum) H) : rSumT K [.ref a] H Q := ⟨a, ns, rfl, h, q⟩
/-! ### isinstance of an own class -/
structure IsiC (K : PySem.W.Frag) (C : Addr) : Prop where
  ha : PySem.W.findIn K (.ref C) "__class__" = some (some (.builtin "object.__class__"))
  hn : PySem.W.specialIn K (.builtin "object.__class__") "__get__" = some (some (.builtin "getset_descriptor.__get__"))
  htk : PySem.W.takesIn K (.builtin "object.__class__") = some true
  hm : PySem.W.mroIn K C (.type "object") = some true
def isiB (K : PySem.W.Frag) (C : Addr) : Bool := decide (PySem.W.findIn K (.ref C) "__class__" = some (some (.builtin "object.__class__"))) && (decide (PySem.W.specialIn K (.builtin "object.__class__") "__get__" = some (some (.builtin "getset_descriptor.__get__"))) &&
  (decide (PySem.W.takesIn K (.builtin "object.__class__") = some true) && decide (PySem.W.mroIn K C (.type "object") = some true)))
theorem isi_ok {K : PySem.W.Frag} {C : Addr} (h : isiB K C = true) : IsiC K C := by
  obtain ⟨h1, h⟩ := He.ba h
  obtain ⟨h2, h⟩ := He.ba h
  obtain ⟨h3, h4⟩ := He.ba h
  exact ⟨of_decide_eq_true h1, of_decide_eq_true h2, of_decide_eq_true h3, of_decide_eq_true h4⟩
theorem g_isiO {K : PySem.W.Frag} {C : Addr} {H : Hp} {Q : VK} {a dx : Addr} {fs : List (Str × V)} (cl : Cls K C) (S : IsiC K C) (h : H a = some (.ins C dx fs)) (q : Q (.bl true) H) : rIsi K [.ref a, .ref C] H Q :=
  g_isi (.own C) (.base (.ins h cl S.ha S.hn S.htk S.hm)) (by unfold PySem.W.kitOne; rw [if_pos (beq_self_eq_true _)]) q
theorem pcls {X : Cx} {x : Str} {C : Addr} {pos : Pos} (h : X.mg x = some (.ref C)) (hg : Gl X x := by rfl) (hd : (x == ("__debug__" : Str)) = false := by decide) : PE X (.Name x pos) (tC (.ref C)) := pe_glob hg h rfl hd
end G48
namespace G48
open PySem PySem.Spec PyProof.Rows L2 Evl
open LamX (CodeO Tabs TabS ExtN TabB inv_table)
/-! ### a lambda as an object that is told -/
/-- the function object of a lambda: its text, its cells, its default, its code object -/
def LamO (f : Addr) (q : Str) (params : Arguments) (body : Expr) (scope : Scope) (cl : List (Str × Addr)) (dV : Value) (c' : Addr) : HO :=
  .ext fun h => ∃ doc pm ctv : Value, h.get? f = some (PySem.W.kdv_obj "<lambda>" q params (.expr body) scope cl dV doc pm c' ctv)
/-- the default: none at all, or one int -/
def DvAt (H : Hp) (ds : List Int) (dV : Value) : Prop := (ds = [] ∧ dV = .none) ∨ ∃ d t, ds = [d] ∧ dV = .ref t ∧ H t = some (.tup [.int d])
def LamAt (H : Hp) (f : Addr) (q : Str) (params : Arguments) (body : Expr) (scope : Scope) (ds : List Int) (cl : List (Str × Addr)) : Prop :=
  ∃ dV c', H f = some (LamO f q params body scope cl dV c') ∧ H c' = some (CodeO c' q) ∧ DvAt H ds dV
theorem lamO_ne {f : Addr} {q : Str} {params : Arguments} {body : Expr} {scope : Scope} {cl : List (Str × Addr)} {dV : Value} {c' : Addr} (ps : Array Value) : LamO f q params body scope cl dV c' ≠ .tbl ps := fun z => by
  unfold LamO at z
  cases z
theorem LamAt.imp {H H' : Hp} {f : Addr} {q : Str} {params : Arguments} {body : Expr} {scope : Scope} {ds : List Int} {cl : List (Str × Addr)} (e : ∀ a o, H a = some o → (∀ ps, o ≠ .tbl ps) → (∀ xs, o ≠ .lst xs) → H' a = some o) (h : LamAt H f q params body scope ds cl) : LamAt H' f q params body scope ds cl := by
  obtain ⟨dV, c', h1, h2, h3⟩ := h
  refine ⟨dV, c', e _ _ h1 lamO_ne (fun _ z => by unfold LamO at z; cases z), e _ _ h2 LamX.codeO_ne (fun _ z => by unfold CodeO at z; cases z), ?_⟩
  rcases h3 with h3 | ⟨d, t, e1, e2, e3⟩
  · exact .inl h3
  · exact .inr ⟨d, t, e1, e2, e _ _ e3 (fun _ z => by cases z) (fun _ z => by cases z)⟩
theorem LamAt.ex {H H' : Hp} {f : Addr} {q : Str} {params : Arguments} {body : Expr} {scope : Scope} {ds : List Int} {cl : List (Str × Addr)} (e : Ex H H') (h : LamAt H f q params body scope ds cl) : LamAt H' f q params body scope ds cl := h.imp fun a o z _ _ => e a o z
theorem LamAt.exn {H H' : Hp} {f : Addr} {q : Str} {params : Arguments} {body : Expr} {scope : Scope} {ds : List Int} {cl : List (Str × Addr)} (e : ExtN H H') (h : LamAt H f q params body scope ds cl) : LamAt H' f q params body scope ds cl := h.imp fun a o z n _ => e a o z n
theorem LamAt.exb {H H' : Hp} {f l : Addr} {q : Str} {params : Arguments} {body : Expr} {scope : Scope} {ds : List Int} {cl : List (Str × Addr)} {ys : List V} (e : Exb l H H') (hl : H l = some (.lst ys)) (h : LamAt H f q params body scope ds cl) : LamAt H' f q params body scope ds cl :=
  h.imp fun a o z _ n => e a o (fun x => by rw [x, hl] at z; exact n ys (Option.some.inj z).symm) z
theorem ExtN.ofEx {H H' : Hp} (e : Ex H H') : ExtN H H' := fun b o h _ => e b o h
/-! ### making one -/
section
variable {X : Cx} {pins : List (Addr × Obj)} {σ : L2.St} {H : Hp} {s : Shared}
/-- the maker's tail, the default dV at hand -/
theorem lam_tail {T : List (Addr × Str)} {c P : Addr} {params : Arguments} {body : Expr} {scope : Scope} {pos : Pos} {dV : Value} {ds : List Int} {Q : Value → Shared → Prop} {E : Value → Shared → Prop} (I : Inv X pins σ H s) (TB : TabB X.base X.mg c P) (hcode : X.env.code = .ref c)
    (hm : (P, X.env.qual ++ "<lambda>") ∈ T) (hu : ∀ p ∈ T, p.1 = P → p.2 = X.env.qual ++ "<lambda>") (hT : Tabs T H) (hfree : ∀ y ∈ scope.names, y.2 = .free → ∃ c, X.env.cells.lookup y.1 = some c) (hd : DvAt H ds dV)
    (h : ∀ (f : Addr) (H1 : Hp) (s' : Shared), Inv X pins σ H1 s' → ExtN H H1 → Tabs T H1 → H f = none → LamAt H1 f (X.env.qual ++ "<lambda>") params body scope ds (cloFrom X.env.cells scope.names []) → Q (.ref f) s') :
    wpAny (model X.prog X.w) X.A (makeTail "<lambda>" (X.env.qual ++ "<lambda>") params (.expr body) scope X.env dV .none none pos pos.line) Q E s := by
  obtain ⟨ps, hP, ht, ha⟩ := hT _ hm
  have bP := TB.bm.keeps I.bk
  have hP' : s.heap.get? P = some { cls := .none, data := .fields ps } := I.hok P _ hP
  have lay : ∀ {H1 : Hp} {h1 : Heap} {c' : Addr} {doc pm ctv : Value} {tk : Nat}, Inv X pins σ H1 { s with heap := h1, toks := tk } → ExtN H H1 → Tabs T H1 → s.heap.objs.size ≤ h1.objs.size → H1 c' = some (CodeO c' (X.env.qual ++ "<lambda>")) →
      Q (.ref h1.objs.size) { s with heap := h1.push (PySem.W.kdv_obj "<lambda>" (X.env.qual ++ "<lambda>") params (.expr body) scope (cloFrom X.env.cells scope.names []) dV doc pm c' ctv), toks := tk } := fun {H1 h1 c' doc pm ctv tk} I1 e1 T1 hsz hc => by
    have nf : H1 h1.objs.size = none := I1.hok.fresh (Nat.le_refl _)
    have I2 := I1.laid (a := h1.objs.size) (o := LamO h1.objs.size (X.env.qual ++ "<lambda>") params body scope (cloFrom X.env.cells scope.names []) dV c') (t' := tk)
      (h' := h1.push (PySem.W.kdv_obj "<lambda>" (X.env.qual ++ "<lambda>") params (.expr body) scope (cloFrom X.env.cells scope.names []) dV doc pm c' ctv)) (fun b o e => Heap.get?_push_of_some _ e) (Nat.le_refl _)
      ⟨⟨doc, pm, ctv, Heap.get?_push_size _ rfl⟩, ⟨_, Heap.get?_push_size _ rfl⟩, fun _ _ ⟨d, p, c, z⟩ st => ⟨d, p, c, st _ z⟩⟩
    have e2 : Ex H1 (upd H1 h1.objs.size (LamO h1.objs.size (X.env.qual ++ "<lambda>") params body scope (cloFrom X.env.cells scope.names []) dV c')) := Ex.new nf
    refine h _ _ _ I2 (e1.trans (ExtN.ofEx e2)) (T1.ext e2) (I.hok.fresh hsz) ⟨dV, c', upd_same, e2 _ _ hc, ?_⟩
    rcases hd with hd | ⟨d, t, a1, a2, a3⟩
    · exact .inl hd
    · exact .inr ⟨d, t, a1, a2, e2 _ _ (e1 _ _ a3 fun _ z => by cases z)⟩
  cases hc : codeAmong pos ps.toList with
  | none =>
    refine PySem.W.kdv_makeTail (mg := X.mg) (c := c) (P := P) (ps := ps) (closure_ok hfree) I.ok.glob (I.mod.glob.keeps I.bk) hcode (TB.code.keeps I.bk) hP' ht hc TB.gP bP fun c' ctv doc h' tk hx hge hlt hrec htb => ?_
    obtain ⟨c2, oc, vs, t, e2, hoc, hd2, hv⟩ := hrec
    cases e2
    have nC : H c' = none := I.hok.fresh hge
    have I1 := inv_table (t' := tk) (more := #[rawInt pos.line, rawInt pos.col, .ref c']) (h' := h') (q := X.env.qual ++ "<lambda>") I hP (fun b o hb e => hx b o hb e) htb hge ⟨oc, vs, t, hoc, hd2, hv⟩
    have hE : ExtN H (upd (upd H P (.tbl (ps ++ #[rawInt pos.line, rawInt pos.col, .ref c']))) c' (CodeO c' (X.env.qual ++ "<lambda>"))) := fun b o e n => by
      have n1 : b ≠ c' := ne_of_none e nC
      have n2 : b ≠ P := fun z => by
        rw [z, hP] at e
        exact n ps (Option.some.inj e).symm
      rw [upd_ne n1, upd_ne n2]
      exact e
    have eL : (ps ++ #[rawInt pos.line, rawInt pos.col, .ref c']).toList = ps.toList ++ [rawInt pos.line, rawInt pos.col, .ref c'] := by simp
    refine lay I1 hE (fun p hp => ?_) (Nat.le_trans hge (Nat.le_of_lt hlt)) upd_same
    by_cases hb : p.1 = P
    · rw [hu p hp hb, hb]
      refine ⟨_, (upd_ne (ne_of_none hP nC)).trans upd_same, by rw [eL]; exact PySem.TriplesOk_snoc _ _ _ _ ht, fun p' cv hcv => ?_⟩
      rw [eL] at hcv
      rcases LamX.among_app _ ht hcv with z | z
      · obtain ⟨c0, y1, y2⟩ := ha p' cv z
        exact ⟨c0, y1, hE _ _ y2 LamX.codeO_ne⟩
      · exact ⟨c', z, upd_same⟩
    · obtain ⟨ps', a1, a2, a3⟩ := hT p hp
      refine ⟨ps', (upd_ne (ne_of_none a1 nC)).trans ((upd_ne hb).trans a1), a2, fun p' cv hcv => ?_⟩
      obtain ⟨c0, y1, y2⟩ := a3 p' cv hcv
      exact ⟨c0, y1, hE _ _ y2 LamX.codeO_ne⟩
  | some cv =>
    obtain ⟨c', e, hco⟩ := ha pos cv hc
    subst e
    refine PySem.W.kdv_makeTailHit (mg := X.mg) (c := c) (P := P) (ps := ps) (closure_ok hfree) I.ok.glob (I.mod.glob.keeps I.bk) hcode (TB.code.keeps I.bk) hP' ht hc bP fun ctv doc h' tk hx hsz => ?_
    have I1 : Inv X pins σ H { s with heap := h', toks := tk } := I.kept hx
    exact lay I1 (ExtN.refl H) hT hsz hco
/-- what a lambda of the def leaves: a new function object, its code object, perhaps a longer table -/
def tLamE (T : List (Addr × Str)) (q : Str) (params : Arguments) (body : Expr) (scope : Scope) (ds : List Int) (cl : List (Str × Addr)) : TE := fun _ H Q =>
  Tabs T H ∧ ∀ f H1, H f = none → ExtN H H1 → Tabs T H1 → LamAt H1 f q params body scope ds cl → Q (.ref f) H1
end
section
variable {X : Cx}
theorem pe_lam0 {T : List (Addr × Str)} {c P : Addr} {params : Arguments} {body : Expr} {scope : Scope} {pos : Pos} (TB : TabB X.base X.mg c P) (hcode : X.env.code = .ref c) (hm : (P, X.env.qual ++ "<lambda>") ∈ T) (hu : ∀ p ∈ T, p.1 = P → p.2 = X.env.qual ++ "<lambda>")
    (hf : ∀ y ∈ scope.names, y.2 = .free → X.env.scope.names.lookup y.1 = some .cell ∨ X.env.scope.names.lookup y.1 = some .free) (hd : defaultsOf params X.env = ([], []) := by rfl) :
    PE X (.Lambda params body scope pos) (tLamE T (X.env.qual ++ "<lambda>") params body scope [] (cloFrom X.env.cells scope.names [])) := by
  refine ⟨fun pins s σ H Q I h => ?_⟩
  obtain ⟨hT, h⟩ := h
  refine PySem.W.kla_eval hd ?_
  rw [makeFunction_eq]
  simp only [List.zip_nil_right, List.filterMap_nil, List.isEmpty_nil, if_true, pure_bind]
  exact lam_tail I TB hcode hm hu hT (fun y hy e => by
    rcases hf y hy e with k | k
    · exact I.ok.has _ (.inl k)
    · exact I.ok.has _ (.inr k)) (.inl ⟨rfl, rfl⟩) fun f H1 s' I1 e1 T1 n1 l1 => ⟨.ref f, H1, I1, rfl, h f H1 n1 e1 T1 l1⟩
theorem pe_lam1 {T : List (Addr × Str)} {c P : Addr} {params : Arguments} {body : Expr} {scope : Scope} {pos dp : Pos} {d : Int} {dk : Nat} (TB : TabB X.base X.mg c P) (hcode : X.env.code = .ref c) (hm : (P, X.env.qual ++ "<lambda>") ∈ T) (hu : ∀ p ∈ T, p.1 = P → p.2 = X.env.qual ++ "<lambda>")
    (hf : ∀ y ∈ scope.names, y.2 = .free → X.env.scope.names.lookup y.1 = some .cell ∨ X.env.scope.names.lookup y.1 = some .free) (hd : params.defaults = [.Constant (.int d) dk dp] := by rfl) (hk : params.kw_defaults = [] := by rfl) :
    PE X (.Lambda params body scope pos) (tLamE T (X.env.qual ++ "<lambda>") params body scope [d] (cloFrom X.env.cells scope.names [])) := by
  refine ⟨fun pins s σ H Q I h => ?_⟩
  obtain ⟨hT, h⟩ := h
  refine PySem.W.kdv_lam (by rw [hd]; rfl) hk ?_
  rw [hd]
  refine PySem.W.kdv_all1 (thn ((pe_int (X := X)).run pins s σ H (fun v H1 => v = .int d ∧ H1 = H) I ⟨rfl, rfl⟩) fun u s1 ⟨v, H1, I1, r1, q1⟩ => PySem.W.kdv_all0 ?_)
  obtain ⟨rfl, rfl⟩ := q1
  rw [makeFunction_eq]
  simp only [List.zip_nil_right, List.filterMap_nil, List.isEmpty_nil, if_true, pure_bind, List.isEmpty_cons, Bool.false_eq_true, if_false]
  refine wpAny_bind (wpAny_newTextTuple ?_)
  have np : H1 s1.heap.objs.size = none := I1.hok.fresh (Nat.le_refl _)
  have I2 := I1.laid (a := s1.heap.objs.size) (o := .tup [.int d]) (t' := s1.toks) (h' := s1.heap.push { cls := .type "tuple", data := .seq [u].toArray }) (fun b o e => Heap.get?_push_of_some _ e) (Nat.le_refl _)
    ⟨sz1000 (show 1 ≤ 1000 by decide), [u], .cons r1 .nil, IsTup.new _ _⟩
  have e2 : Ex H1 (upd H1 s1.heap.objs.size (.tup [.int d])) := Ex.new np
  exact lam_tail I2 TB hcode hm hu (hT.ext e2) (fun y hy e => by
    rcases hf y hy e with k | k
    · exact I.ok.has _ (.inl k)
    · exact I.ok.has _ (.inr k)) (.inr ⟨d, _, rfl, rfl, upd_same⟩) fun f H2 s' I3 e3 T3 n3 l3 => ⟨.ref f, H2, I3, rfl, h f H2 (by
      cases z : H1 f with
      | none => rfl
      | some o => rw [e2 _ _ z] at n3; cases n3) ((ExtN.ofEx e2).trans e3) T3 l3⟩
end
/-! ### the cells of the maker -/
structure CellsOk (h : Heap) (H : Hp) (N : List Str) (σ : L2.St) (cells : List (Str × Addr)) (sc : Scope) : Prop where
  inj : ∀ y z c, cells.lookup y = some c → cells.lookup z = some c → y = z
  has : ∀ y, sc.names.lookup y = some .cell ∨ sc.names.lookup y = some .free → ∃ c, cells.lookup y = some c
  cell : ∀ y c, cells.lookup y = some c → (∃ v, h.IsCell c v) ∧ H c = none
  val : ∀ (i : Nat) y v, N[i]? = some y → σ[i]? = some (some v) → (sc.names.lookup y = some .cell ∨ sc.names.lookup y = some .free) → ∃ c u, cells.lookup y = some c ∧ RelV v u ∧ h.IsCell c (some u)
section
variable {X : Cx} {pins : List (Addr × Obj)} {σ : L2.St} {H H' : Hp} {s : Shared} {h h' : Heap} {N : List Str} {cells : List (Str × Addr)} {sc : Scope}
theorem CellsOk.of (I : Inv X pins σ H s) : CellsOk s.heap H X.N σ X.env.cells X.env.scope where
  inj := I.ok.inj
  has := I.ok.has
  cell := fun y c e => ⟨I.cell y c e, I.freeC y c e⟩
  val := fun i y v e1 e2 e3 => by
    obtain ⟨m, _, hl⟩ := I.loc
    obtain ⟨u, r, q⟩ := hl i y v e1 e2 (.inr e3)
    rcases q with ⟨k, _⟩ | ⟨_, c, e, z⟩
    · have k : X.env.scope.names.lookup y = some .local := k
      rcases e3 with k' | k' <;> rw [k] at k' <;> cases k'
    · exact ⟨c, u, e, r, z⟩
theorem CellsOk.un {fs ex : List Addr} (C : CellsOk h H N σ cells sc) (U : Un fs ex H H' h h') (hx : ∀ y c, cells.lookup y = some c → c ∉ ex) : CellsOk h' H' N σ cells sc := by
  have key : ∀ {c : Addr} {v : Option Value}, H c = none → c ∉ ex → h.IsCell c v → h'.IsCell c v := fun {c v} n nx ⟨o, ho, hd⟩ => by
    obtain ⟨sl, q⟩ := U.any ho n nx
    exact ⟨_, q, hd⟩
  refine ⟨C.inj, C.has, fun y c e => ?_, fun i y v e1 e2 e3 => ?_⟩
  · obtain ⟨⟨v, z⟩, n⟩ := C.cell y c e
    refine ⟨⟨v, key n (hx y c e) z⟩, ?_⟩
    obtain ⟨o, ho, _⟩ := id z
    exact U.free c o ho n (hx y c e)
  · obtain ⟨c, u, e, r, z⟩ := C.val i y v e1 e2 e3
    exact ⟨c, u, e, r, key (C.cell y c e).2 (hx y c e) z⟩
end
/-! ### calling one -/
/-- a lambda's names: captured ones, globals, a parameter that the maker's names do not hold -/
structure LamS (N : List Str) (sc scope : Scope) (ps : List Str) : Prop where
  kind : scope.kind = .function
  co : scope.isCoroutine = false
  gen : scope.isGenerator = false
  noc : ∀ y ∈ scope.names, y.2 ≠ .cell
  own : ∀ y ∈ scope.names, y.2 = .local → y.1 ∉ N
  par : ∀ y ∈ ps, scope.names.lookup y = some .local
  free : ∀ y ∈ scope.names, y.2 = .free → sc.names.lookup y.1 = some .cell ∨ sc.names.lookup y.1 = some .free
def lamSB (N : List Str) (sc scope : Scope) (ps : List Str) : Bool :=
  decide (scope.kind = .function) && !scope.isCoroutine && !scope.isGenerator && (scope.names.all fun y => !decide (y.2 = .cell) && (!decide (y.2 = .local) || !N.contains y.1) && (!decide (y.2 = .free) || decide (sc.names.lookup y.1 = some .cell) || decide (sc.names.lookup y.1 = some .free))) && ps.all fun y => decide (scope.names.lookup y = some .local)
theorem lamS_of {N : List Str} {sc scope : Scope} {ps : List Str} (h : lamSB N sc scope ps = true) : LamS N sc scope ps := by
  unfold lamSB at h
  simp only [Bool.and_eq_true, Bool.or_eq_true, Bool.not_eq_true', decide_eq_true_eq, decide_eq_false_iff_not, List.all_eq_true] at h
  obtain ⟨⟨⟨⟨k1, k2⟩, k3⟩, k4⟩, k5⟩ := h
  refine ⟨k1, k2, k3, fun y hy => (k4 y hy).1.1, fun y hy e => ?_, k5, fun y hy e => ?_⟩
  · rcases (k4 y hy).1.2 with z | z
    · exact absurd e z
    · intro m
      rw [List.contains_iff_mem.mpr m] at z
      cases z
  · rcases (k4 y hy).2 with (z | z) | z
    · exact absurd e z
    · exact .inl z
    · exact .inr z
/-- the frame of a lambda's call -/
abbrev lamE (qual : Str) (scope : Scope) (cells : List (Str × Addr)) (L f c' : Addr) : Env := PySem.W.envX qual scope L f (.ref c') (cloFrom cells scope.names [])
/-- the context of a lambda's body: N, the maker's names; cells, the maker's cells; entered at s -/
def lamX (P : Program) (w : World) (K : PySem.W.Frag) (mg : Str → Option Value) (base : Heap) (N : List Str) (qual : Str) (scope : Scope) (cells : List (Str × Addr)) (A : Around) (outer : List Env) (s : Shared) (H : Hp) (E : XK) (f c' : Addr) : Cx where
  prog := P
  w := w
  K := K
  mg := mg
  base := base
  A := A.deeper (lamE qual scope cells s.heap.objs.size f c')
  N := N
  s_0 := s
  H_0 := H
  env := lamE qual scope cells s.heap.objs.size f c'
  outer := outer
  stack := lamE qual scope cells s.heap.objs.size f c' :: outer
  ex := []
  fn := fun _ => false
  calm := true
  pn := []
  xe := fun e s' => wpAny (model P w) (A.deeper (lamE qual scope cells s.heap.objs.size f c')) (leaving (lamE qual scope cells s.heap.objs.size f c') e) (fun _ s'' => L2.CX P w outer H s E e s'') (fun e' s'' => L2.CX P w outer H s E e' s'') s'
section
variable {P : Program} {w : World} {K : PySem.W.Frag} {mg : Str → Option Value} {base : Heap} {N : List Str} {σ : L2.St} {cells : List (Str × Addr)} {sc scope : Scope} {H : Hp} {s : Shared} {qual : Str} {ps : List Str}
theorem lam_enter {A : Around} {outer : List Env} {E : XK} {f c' : Addr} {h₁ : Heap} {tk : Nat} {m : Str → Option Value} (C : CellsOk s.heap H N σ cells sc) (hl : σ.length = N.length) (L : LamS N sc scope ps) (e0 : Env0 P w K mg base A outer s H) (hd : A.handled = none)
    (hns : h₁.Ns s.heap.objs.size m) (kp : ∀ b o, s.heap.get? b = some o → h₁.get? b = some o) :
    Inv (lamX P w K mg base N qual scope cells A outer s H E f c') [] σ H { s with heap := h₁, toks := tk } := by
  have hfree : ∀ y ∈ scope.names, y.2 = .free → ∃ c, cells.lookup y.1 = some c := fun y hy e => C.has _ (L.free y hy e)
  have cm : ∀ {y c}, (cloFrom cells scope.names []).lookup y = some c → cells.lookup y = some c := fun {y c} e => by
    rcases cloFrom_mem (PySem.mem_of_lookup e) with hm | ⟨h1, h2⟩
    · cases hm
    · obtain ⟨c1, hc⟩ := hfree _ h1 rfl
      have hc : cells.lookup y = some c1 := hc
      rw [hc] at h2
      have e2 : c = c1 := h2
      rw [e2]
      exact hc
  have look : ∀ {y}, scope.names.lookup y = some .free → ∃ c, (cloFrom cells scope.names []).lookup y = some c := fun {y} e => mem_lookup (cloFrom_has (cells := cells) (acc := []) (show (y, NameKind.free) ∈ scope.names from PySem.mem_of_lookup e))
  have ck : ∀ {c : Addr} {v : Option Value}, s.heap.IsCell c v → h₁.IsCell c v := fun {c v} ⟨o, ho, hd⟩ => ⟨_, kp _ _ ho, hd⟩
  have none_in : ∀ b : Addr, b ∉ (lamX P w K mg base N qual scope cells A outer s H E f c').ex := fun b z => absurd (show b ∈ ([] : List Addr) from z) (by simp)
  have okX : (lamX P w K mg base N qual scope cells A outer s H E f c').Ok :=
    ⟨e0.mod, L.kind, rfl, rfl, Nat.le_refl _, fun y z c e1 e2 => C.inj y z c (cm e1) (cm e2), fun y hy => by
      rcases (show scope.names.lookup y = some .cell ∨ scope.names.lookup y = some .free from hy) with k | k
      · exact absurd rfl (L.noc _ (PySem.mem_of_lookup k))
      · exact look k, fun y c z _ => absurd (show false = true from z) Bool.false_ne_true, fun _ => hd, Around.frames_deeper e0.frames, .inr ⟨rfl, rfl⟩, fun b z => absurd z (none_in b), e0.bs, e0.bsz, fun b _ _ => none_in b, fun b z => absurd z (none_in b), e0.funs, e0.frf⟩
  refine ⟨okX, rfl, e0.bare, Un.kept kp, ⟨m, hns, fun i y v e1 e2 e3 => ?_⟩, fun y c e => ?_, e0.hok.fresh (Nat.le_refl _), fun y c e => (C.cell y c (cm e)).2, fun q hq => absurd (show q ∈ ([] : List (Addr × Obj)) ++ [] from hq) (by simp), e0.hok.kept kp, hl⟩
  · rcases (show Vis scope y from e3) with k | k | k
    · exact absurd (List.mem_of_getElem? e1) (L.own _ (PySem.mem_of_lookup k) rfl)
    · exact absurd rfl (L.noc _ (PySem.mem_of_lookup k))
    · obtain ⟨c, u, h1, r, z⟩ := C.val i y v e1 e2 (L.free _ (PySem.mem_of_lookup k) rfl)
      obtain ⟨c2, h2⟩ := look k
      have h3 := cm h2
      rw [h1] at h3
      cases h3
      exact ⟨u, r, .inr ⟨.inr k, c, h2, ck z⟩⟩
  · obtain ⟨⟨v, z⟩, _⟩ := C.cell y c (cm e)
    exact ⟨v, ck z⟩
/-- what the parameters ps are bound to, when nothing is handed over -/
structure LamB (params : Arguments) (ps : List Str) (ds : List Int) : Prop where
  none_ : ds = [] → ps = [] ∧ ∀ (q : Str) (body : FuncBody) (scope : Scope) (cl : List (Str × Addr)) (doc pm cd ct : Value), bindArgs (PySem.W.kdv_fn "<lambda>" q params body scope cl .none doc pm cd ct) ⟨[], []⟩ = pure []
  one : ∀ d, ds = [d] → ∃ a, ps = [a] ∧ ∀ (q : Str) (body : FuncBody) (scope : Scope) (cl : List (Str × Addr)) (dV doc pm cd ct : Value), ∃ k : Option (Array Value) → Sem (List (Str × Value)),
    bindArgs (PySem.W.kdv_fn "<lambda>" q params body scope cl dV doc pm cd ct) ⟨[], []⟩ = seqItems? dV >>= k ∧ ∀ v, k (some #[v]) = pure [(a, v)]
end
section
variable {Z : Cx} {pins : List (Addr × Obj)} {σZ σ : L2.St} {H : Hp} {s : Shared} {N : List Str} {cells : List (Str × Addr)} {sc scope : Scope} {qual : Str} {ps : List Str} {ds : List Int} {params : Arguments} {body : Expr} {f : Addr} {Q : VK} {E : XK} {tb : TE} {k : Nat}
/-- f(), f a lambda that stands -/
theorem lam_run (I : Inv Z pins σZ H s) (C : CellsOk s.heap H N σ cells sc) (hl : σ.length = N.length) (L : LamS N sc scope ps) (B : LamB params ps ds) (hf : LamAt H f qual params body scope ds (cloFrom cells scope.names [])) (hr : Room (k + 1) Z.A)
    (hbody : ∀ (A : Around) (outer : List Env) (s : Shared) (H : Hp) (f c' : Addr), Room k (A.deeper (lamE qual scope cells s.heap.objs.size f c')) → PE (lamX Z.prog Z.w Z.K Z.mg Z.base N qual scope cells A outer s H E f c') body tb)
    (ht : tb σ H Q) (hx : PassesAt (L2.CX Z.prog Z.w) Z σZ E) : wpAny (model Z.prog Z.w) Z.A (call (.ref f) []) (EP Z pins σZ Q) Z.xe s := by
  obtain ⟨dV, c', h1, h2, hD⟩ := hf
  obtain ⟨⟨doc, pm, ctv, of⟩, _, _⟩ := I.hok f _ h1
  obtain ⟨⟨oc, vs, t, hoc, hdc, hvc⟩, _, _⟩ := I.hok c' _ h2
  have hb : ∃ bs : List (Str × Value), (∀ y ∈ bs, scope.names.lookup y.1 = some .local) ∧ BindsTo s (PySem.W.kdv_fn "<lambda>" qual params (.expr body) scope (cloFrom cells scope.names []) dV doc pm (.ref c') ctv) ⟨[], []⟩ bs := by
    rcases hD with ⟨e1, e2⟩ | ⟨d, t, e1, e2, e3⟩
    · subst e1 e2
      obtain ⟨hp, hb⟩ := B.none_ rfl
      exact ⟨[], (fun y hy => absurd hy (by simp)), BindsTo.of_eq (hb _ _ _ _ _ _ _ _)⟩
    · subst e1 e2
      obtain ⟨a, hp, hb⟩ := B.one d rfl
      obtain ⟨kk, hb1, hb2⟩ := hb qual (.expr body) scope (cloFrom cells scope.names []) (.ref t) doc pm (.ref c') ctv
      obtain ⟨_, its, rv, o, ho, hoc, n, hod⟩ := I.hok t _ e3
      obtain ⟨u, hu, _⟩ : ∃ u, its = [u] ∧ RelV (.int d) u := by
        cases rv with
        | cons r rr =>
          cases rr
          exact ⟨_, rfl, r⟩
      subst hu
      refine ⟨[(a, u)], fun y hy => ?_, BindsTo.of_defaults (o := o) rfl ho hod hb1 (hb2 u)⟩
      rw [List.mem_singleton.mp hy]
      exact L.par a (by rw [hp]; exact List.mem_cons_self)
  obtain ⟨bs, hloc, hbind⟩ := hb
  have rc : codeAny (model Z.prog Z.w) Z.A (.call (.ref f) ⟨[], []⟩) (CR (L2.CX Z.prog Z.w) Z.stack Z.prog Z.w H s Q E) s := by
    refine PySem.W.kla_callFunE hr.depth of rfl L.co L.gen rfl ⟨c', oc, vs, t, rfl, hoc, hdc, hvc⟩ (hbind _ _ _ _ ?_)
    refine wpAny_newFunctionEnv L.noc hloc (fun h₁ hns hsb => ⟨I.nolimit.fresh _ hsb, ?_⟩) L.kind
    show codeAny _ _ (.expr body (lamE qual scope cells s.heap.objs.size f c')) _ _
    have kp : ∀ b o, s.heap.get? b = some o → h₁.get? b = some o := fun b o e => hsb.extBut b o (Nat.ne_of_lt (Heap.lt_size e)) (Heap.get?_push_of_some _ e)
    have J := lam_enter (qual := qual) (E := E) (f := f) (c' := c') (tk := s.toks + bs.length) C hl L I.env0 hr.hd hns kp
    refine PySem.W.kla_codeExpr (wpAny_mono ((hbody Z.A Z.stack s H f c' (hr.deeper _)).run [] _ _ H Q J ht) (fun v s' hq => ?_) fun e s' hq => hq)
    obtain ⟨w', H', J', rv, q⟩ := hq
    exact ⟨w', H', J'.os, J'.bare, J'.base, J'.hok, rv, q⟩
  refine wpAny_call (codeAny_mono rc fun r s' hq => ?_)
  cases r with
  | error e => exact hx pins H s e s' I hq
  | ok fl =>
    cases fl with
    | ret u => exact I.after hq
    | next => exact False.elim hq
    | brk => exact False.elim hq
    | cont => exact False.elim hq
end
/-! ### list.count, flat items -/
def rCntF (K : PySem.W.Frag) : V → List V → Hp → VK → Prop := fun x xs H Q => ∃ (p : Addr) (ys : List V) (y : V), x = .ref p ∧ xs = [y] ∧ SqL K H p ys ∧ flatV y = true ∧ ys.all flatV = true ∧ Q (.int (ys.countP fun z => eqV z y : Nat)) H
theorem cnt_vals {x : V} : ∀ {ys : List V} {its : List Value}, Vals ys its → ys.all flatV = true → its.countP (eqU x) = ys.countP fun z => eqV z x
  | [], [], _, _ => rfl
  | y :: ys, v :: its, h, f => by
    cases h with
    | cons r rr =>
      have f' : flatV y = true ∧ ys.all flatV = true := by simpa using f
      rw [List.countP_cons, List.countP_cons, cnt_vals rr f'.2, eqU_of r f'.1]
theorem mt_countF {X : Cx} : MtR X "list.count" (rCntF X.K) := by
  intro pins s σ H x xs v us Q I rx rxs h
  obtain ⟨p, ys, y, rfl, rfl, hs, fy, fys, q⟩ := h
  cases rx
  obtain ⟨u, rfl, ru⟩ := rxs.one
  obtain ⟨its, rv, ⟨⟨cls, dd, data, sl⟩, n, ho, hc, hdn, hd⟩, hlen⟩ := I.list hs
  simp only at hc hd
  subst hc hd
  refine call_meets PySem.F.slot_list_count ⟨_, ho, rfl⟩ PySem.F.entry_list_count (PySem.F.args_list_count_2 _ _)
    (SeqAt.list_countAt p its.toArray n dd sl u (eqU y)) ⟨ho, fun z hz => mem_eqAt ru fy rv fys z (by simpa using hz), ?_⟩
  have e : its.toArray.toList.countP (eqU y) = ys.countP fun z => eqV z y := cnt_vals rv fys
  rw [e]
  exact ⟨.int _, H, I.tok _, ⟨_, rfl⟩, q⟩
/-! ### the lambdas of a def -/
structure LamD where
  params : Arguments
  body : Expr
  scope : Scope
  ps : List Str
  ds : List Int
  t : XK → TE
def LamD.at_ (l : LamD) (H : Hp) (f : Addr) (q : Str) (cells : List (Str × Addr)) : Prop := LamAt H f q l.params l.body l.scope l.ds (cloFrom cells l.scope.names [])
/-- a lambda of the text, its body's reading t -/
structure LamOk (P : Program) (w : World) (K : PySem.W.Frag) (mg : Str → Option Value) (base : Heap) (N : List Str) (sc : Scope) (cells : List (Str × Addr)) (qual : Str) (k : Nat) (l : LamD) : Prop where
  S : LamS N sc l.scope l.ps
  B : LamB l.params l.ps l.ds
  body : ∀ (A : Around) (outer : List Env) (s : Shared) (H : Hp) (E : XK) (f c' : Addr), Room k (A.deeper (lamE qual l.scope cells s.heap.objs.size f c')) → PE (lamX P w K mg base N qual l.scope cells A outer s H E f c') l.body (l.t E)
/-- where the cells of the maker hold σ -/
def Sees (Z : Cx) (N : List Str) (σ : L2.St) (cells : List (Str × Addr)) (sc : Scope) : Prop := ∀ (pins : List (Addr × Obj)) (s : Shared) (σZ : L2.St) (H : Hp), Inv Z pins σZ H s → CellsOk s.heap H N σ cells sc
/-- x(), x a name that holds one of the lambdas -/
def tLamV (i : Nat) (LO : LamD → Prop) (qual : Str) (cells : List (Str × Addr)) (σ : L2.St) (E : L2.St → XK) : TE := fun σZ H Q => ∃ f l, σZ[i]? = some (some (.ref f)) ∧ LO l ∧ l.at_ H f qual cells ∧ l.t (E σZ) σ H Q
theorem pe_lamV {Z : Cx} {N : List Str} {σ : L2.St} {sc : Scope} {cells : List (Str × Addr)} {qual a : Str} {LO : LamD → Prop} {i k : Nat} {E : L2.St → XK} {p1 p2 : Pos} (hC : Sees Z N σ cells sc) (hl : σ.length = N.length) (hL : ∀ l, LO l → LamOk Z.prog Z.w Z.K Z.mg Z.base N sc cells qual k l) (hr : Room (k + 1) Z.A)
    (hx : ∀ σZ, PassesAt (L2.CX Z.prog Z.w) Z σZ (E σZ)) (hN : Z.N[i]? = some a) (hv : Vis Z.env.scope a) (hd : (a == ("__debug__" : Str)) = false := by decide) (hcd : (a == ("__classdict__" : Str)) = false := by decide) : PE Z (.Call (.Name a p1) [] [] p2) (tLamV i LO qual cells σ E) := by
  refine ⟨fun pins s σZ H Q I h => ?_⟩
  obtain ⟨f, l, hi, hm, la, ht⟩ := h
  refine wpAny_Call_Name_kw (thn ((pe_var (pos := p1) (i := i) hN hv hd hcd).run pins s σZ H (fun v H1 => v = .ref f ∧ H1 = H) I ⟨.ref f, hi, rfl, rfl⟩) fun u s1 ⟨v, H1, I1, r1, q1⟩ => ?_)
  obtain ⟨rfl, rfl⟩ := q1
  obtain rfl : u = Value.ref f := r1
  obtain ⟨_, _, h1, _⟩ := id la
  obtain ⟨⟨doc, pm, ctv, of⟩, _, _⟩ := I1.hok f _ h1
  refine PySem.W.callWith_F0 ⟨_, _, _, _, of⟩ ?_
  have O := hL l hm
  exact lam_run I1 (hC pins s1 σZ H1 I1) hl O.S O.B la hr (fun A outer s H f c' hr2 => O.body A outer s H (E σZ) f c' hr2) ht (hx σZ)
/-- a def that calls what it got: a names it; TT: what it makes of the lambda's reading -/
def GivesL (P : Program) (w : World) (K : PySem.W.Frag) (mg : Str → Option Value) (base : Heap) (Ng : List Str) (x : Str) (st : Stmt) (a : Str) (j : Nat) (TT : (XK → Hp → VK → Prop) → Hp → VK → Prop) : Prop :=
  ∀ (g : Addr) (cdg : Value) (A : Around) (outer : List Env) (s : Shared) (H : Hp) (f : Addr) (Q : VK) (LF : Hp → Prop) (tl : XK → Hp → VK → Prop), Room j (A.deeper (envOfC x (defScope st) s.heap.objs.size g cdg)) →
    (∀ (W : WX) (pn : List (Addr × Obj)) (xe : Value → Shared → Prop) (E : L2.St → XK) (p1 p2 : Pos), Takes ((cxOf L2.CX0 P w K mg base Ng x (defScope st) g cdg A outer s H (fun _ _ _ => False)).nox.tr pn xe) W → (∀ σ' cls d H', E σ' cls d H' → W cls d σ' H') →
      PE ((cxOf L2.CX0 P w K mg base Ng x (defScope st) g cdg A outer s H (fun _ _ _ => False)).nox.tr pn xe) (.Call (.Name a p1) [] [] p2) (fun σZ HZ Q => σZ[0]? = some (some (.ref f)) ∧ LF HZ ∧ tl (E σZ) HZ Q)) →
    LF H → TT tl H Q → ∃ t, PSs (cxOf L2.CX0 P w K mg base Ng x (defScope st) g cdg A outer s H (fun _ _ _ => False)).nox (defBody st) t ∧ t { nx := fun _ H' => Q .non H', rt := Q } (L2.start Ng [.ref f]) H
/-- x(e), e one of the lambdas, x the def that calls it -/
def tTold (ta : TA) (LO : LamD → Prop) (qual : Str) (cells : List (Str × Addr)) (sg : L2.St → L2.St) (TT : (XK → Hp → VK → Prop) → Hp → VK → Prop) : TE := fun σ H Q =>
  ta σ H fun vs H1 => ∃ f l, vs = [.ref f] ∧ LO l ∧ l.at_ H1 f qual cells ∧ TT (fun E H' Q' => l.t E (sg σ) H' Q') H1 Q
theorem pe_told {Y : Cx} {N Ng : List Str} {sg : L2.St → L2.St} {sc : Scope} {cells : List (Str × Addr)} {qual x a : Str} {LO : LamD → Prop} {k j : Nat} {TT : (XK → Hp → VK → Prop) → Hp → VK → Prop} {st : Stmt} {ta : TA} {e : Expr} {p pos : Pos}
    (hC : ∀ (pins : List (Addr × Obj)) (s : Shared) (σ : L2.St) (H : Hp), Inv Y pins σ H s → CellsOk s.heap H N (sg σ) cells sc ∧ (sg σ).length = N.length) (hL : ∀ l, LO l → LamOk Y.prog Y.w Y.K Y.mg Y.base N sc cells qual k l) (hr : Room j Y.A)
    (G : GFun Y.K Y.mg x st) (Sg : FnScope Ng [a] (defScope st)) (hb : BindL x x st [a]) (hG : GivesL Y.prog Y.w Y.K Y.mg Y.base Ng x st a (k + 1) TT) (hNg : Ng[0]? = some a) (hva : Vis (defScope st) a) (ha : PA Y [e] ta) (hk : k + 2 ≤ j := by decide) (hg : Gl Y x := by rfl)
    (hdb : (x == ("__debug__" : Str)) = false := by decide) (hd : (a == ("__debug__" : Str)) = false := by decide) (hcd : (a == ("__classdict__" : Str)) = false := by decide)
    (hst : starEach [e] Y.env = (false, eval e Y.env) :: starEach [] Y.env := by rfl) (hpl : (backTo pos (starEach [] Y.env)).any (·.1) = false := by rfl) :
    PE Y (.Call (.Name x p) [e] [] pos) (tTold ta LO qual cells sg TT) := by
  refine ⟨fun pins s σ H Q I h => ?_⟩
  obtain ⟨g, fd, hm, F⟩ := G.ex
  have kp := F.kp
  obtain ⟨oc, od, kV, doc, pm, an, cdv, ct, osl, rfl, lk, hcd2⟩ := F.ex
  refine wpAny_Call_Name_kw (ld_glob I hg hm ?_ hdb)
  refine PySem.W.callWith_K (h₀ := Y.base) I.ok.mod.kin kp (thn (ha.run pos pins s σ H _ I h) fun us s1 hh => ?_) hst hpl
  obtain ⟨vs, H1, I1, r1, f, l, ev, hml, la, ht⟩ := hh
  subst ev
  refine ⟨I1.kIn, ?_⟩
  have hu : us = [.ref f] := by
    cases r1 with
    | cons ru rn =>
      cases rn
      cases ru
      rfl
  subst hu
  have O := hL l hml
  obtain ⟨C1, hl1⟩ := hC pins s1 σ H1 I1
  have r : Room (k + 2) Y.A := hr.mono hk
  have rc : codeAny (model Y.prog Y.w) Y.A (.call (.ref g) ⟨[.ref f], []⟩) (CR L2.CX0 Y.stack Y.prog Y.w H1 s1 Q (fun _ _ _ => False)) s1 := by
    refine LamX.run_ofS (N := Ng) (ps := [a]) (us := [.ref f]) (vs := [.ref f]) lk hcd2 Sg r I1.env0 (BindsTo.of_eq (hb _ _ _ _ _ _ [.ref f] rfl)) (.cons rfl .nil) rfl fun hr' => ?_
    have act : ∀ (W : WX) (pn : List (Addr × Obj)) (xe : Value → Shared → Prop) (E : L2.St → XK) (p1 p2 : Pos), Takes ((cxOf L2.CX0 Y.prog Y.w Y.K Y.mg Y.base Ng x (defScope st) g cdv Y.A Y.stack s1 H1 (fun _ _ _ => False)).nox.tr pn xe) W → (∀ σ' cls d H', E σ' cls d H' → W cls d σ' H') →
        PE ((cxOf L2.CX0 Y.prog Y.w Y.K Y.mg Y.base Ng x (defScope st) g cdv Y.A Y.stack s1 H1 (fun _ _ _ => False)).nox.tr pn xe) (.Call (.Name a p1) [] [] p2) (fun σZ HZ Q => σZ[0]? = some (some (.ref f)) ∧ l.at_ HZ f qual cells ∧ l.t (E σZ) (sg σ) HZ Q) := fun W pn xe E p1 p2 tk hW => by
      have V := pe_lamV (Z := (cxOf L2.CX0 Y.prog Y.w Y.K Y.mg Y.base Ng x (defScope st) g cdv Y.A Y.stack s1 H1 (fun _ _ _ => False)).nox.tr pn xe) (N := N) (σ := sg σ) (sc := sc) (cells := cells) (qual := qual) (a := a) (LO := LO) (i := 0) (k := k) (E := E) (p1 := p1) (p2 := p2)
        (fun pinsZ sZ σZ HZ IZ => C1.un IZ.base fun y c _ z => absurd (show c ∈ ([] : List Addr) from z) (by simp)) hl1 hL hr' (fun σZ pinsZ HZ sZ e s' IZ c => tk e s' (XE.of_call IZ (fun cls d H' h => hW σZ cls d H' h) c)) hNg hva hd hcd
      refine ⟨fun pinsZ sZ σZ HZ Q IZ hh => V.run pinsZ sZ σZ HZ Q IZ ?_⟩
      obtain ⟨a1, a2, a3⟩ := hh
      exact ⟨f, l, a1, hml, a2, a3⟩
    obtain ⟨t', ht', hq'⟩ := hG g cdv Y.A Y.stack s1 H1 f Q (fun H' => l.at_ H' f qual cells) (fun E H' Q' => l.t E (sg σ) H' Q') hr' act la ht
    exact ⟨t', ht'.nox, hq'⟩
  refine wpAny_call (codeAny_mono rc fun r s2 hq => ?_)
  cases r with
  | error e => exact (show False from hq).elim
  | ok fl =>
    cases fl with
    | ret u => exact I1.after hq
    | next => exact False.elim hq
    | brk => exact False.elim hq
    | cont => exact False.elim hq
/-! ### x(lambda: ..) -/
def tToldL (T : List (Addr × Str)) (t : XK → TE) (TT : (XK → Hp → VK → Prop) → Hp → VK → Prop) : TE := fun σ H Q => Tabs T H ∧ ∀ H1, ExtN H H1 → Tabs T H1 → TT (fun E H' Q' => t E σ H' Q') H1 Q
section
variable {X : Cx} {Ng : List Str} {x a : Str} {j : Nat} {TT : (XK → Hp → VK → Prop) → Hp → VK → Prop} {st : Stmt} {T : List (Addr × Str)} {c P : Addr} {params : Arguments} {body : Expr} {scope : Scope} {lpos p pos : Pos} {t : XK → TE} {k : Nat}
theorem pe_toldL0 (TB : TabB X.base X.mg c P) (hcode : X.env.code = .ref c) (hm : (P, X.env.qual ++ "<lambda>") ∈ T) (hu : ∀ p ∈ T, p.1 = P → p.2 = X.env.qual ++ "<lambda>") (hr : Room j X.A)
    (G : GFun X.K X.mg x st) (Sg : FnScope Ng [a] (defScope st)) (hb : BindL x x st [a]) (hG : GivesL X.prog X.w X.K X.mg X.base Ng x st a (k + 1) TT) (hNg : Ng[0]? = some a) (hva : Vis (defScope st) a)
    (S : LamS X.N X.env.scope scope []) (B : LamB params [] [])
    (hbody : ∀ (A : Around) (outer : List Env) (s : Shared) (H : Hp) (E : XK) (f c' : Addr), Room k (A.deeper (lamE (X.env.qual ++ "<lambda>") scope X.env.cells s.heap.objs.size f c')) → PE (lamX X.prog X.w X.K X.mg X.base X.N (X.env.qual ++ "<lambda>") scope X.env.cells A outer s H E f c') body (t E))
    (hk : k + 2 ≤ j := by decide) (hg : Gl X x := by rfl) (hdb : (x == ("__debug__" : Str)) = false := by decide) (hd : (a == ("__debug__" : Str)) = false := by decide) (hcd : (a == ("__classdict__" : Str)) = false := by decide) (hdf : defaultsOf params X.env = ([], []) := by rfl) :
    PE X (.Call (.Name x p) [.Lambda params body scope lpos] [] pos) (tToldL T t TT) := by
  have L := pe_told (Y := X) (N := X.N) (sg := id) (sc := X.env.scope) (cells := X.env.cells) (qual := X.env.qual ++ "<lambda>") (LO := fun l => l = ⟨params, body, scope, [], [], t⟩) (p := p) (pos := pos)
    (fun pins s σ H I => ⟨CellsOk.of I, I.len⟩) (fun l hl => by
      rw [show l = _ from hl]
      exact ⟨S, B, hbody⟩) hr G Sg hb hG hNg hva (pa_cons (pe_lam0 (pos := lpos) (body := body) (T := T) TB hcode hm hu S.free hdf) pa_nil) hk hg hdb hd hcd
  refine ⟨fun pins s σ H Q I h => L.run pins s σ H Q I ?_⟩
  exact ⟨h.1, fun f H1 n1 e1 T1 l1 => ⟨f, _, rfl, rfl, l1, h.2 H1 e1 T1⟩⟩
theorem pe_toldL1 {y : Str} {d : Int} {dk : Nat} {dp : Pos} (TB : TabB X.base X.mg c P) (hcode : X.env.code = .ref c) (hm : (P, X.env.qual ++ "<lambda>") ∈ T) (hu : ∀ p ∈ T, p.1 = P → p.2 = X.env.qual ++ "<lambda>") (hr : Room j X.A)
    (G : GFun X.K X.mg x st) (Sg : FnScope Ng [a] (defScope st)) (hb : BindL x x st [a]) (hG : GivesL X.prog X.w X.K X.mg X.base Ng x st a (k + 1) TT) (hNg : Ng[0]? = some a) (hva : Vis (defScope st) a)
    (S : LamS X.N X.env.scope scope [y]) (B : LamB params [y] [d])
    (hbody : ∀ (A : Around) (outer : List Env) (s : Shared) (H : Hp) (E : XK) (f c' : Addr), Room k (A.deeper (lamE (X.env.qual ++ "<lambda>") scope X.env.cells s.heap.objs.size f c')) → PE (lamX X.prog X.w X.K X.mg X.base X.N (X.env.qual ++ "<lambda>") scope X.env.cells A outer s H E f c') body (t E))
    (hk : k + 2 ≤ j := by decide) (hg : Gl X x := by rfl) (hdb : (x == ("__debug__" : Str)) = false := by decide) (hd : (a == ("__debug__" : Str)) = false := by decide) (hcd : (a == ("__classdict__" : Str)) = false := by decide)
    (hdf : params.defaults = [.Constant (.int d) dk dp] := by rfl) (hkd : params.kw_defaults = [] := by rfl) :
    PE X (.Call (.Name x p) [.Lambda params body scope lpos] [] pos) (tToldL T t TT) := by
  have L := pe_told (Y := X) (N := X.N) (sg := id) (sc := X.env.scope) (cells := X.env.cells) (qual := X.env.qual ++ "<lambda>") (LO := fun l => l = ⟨params, body, scope, [y], [d], t⟩) (p := p) (pos := pos)
    (fun pins s σ H I => ⟨CellsOk.of I, I.len⟩) (fun l hl => by
      rw [show l = _ from hl]
      exact ⟨S, B, hbody⟩) hr G Sg hb hG hNg hva (pa_cons (pe_lam1 (pos := lpos) (body := body) (T := T) TB hcode hm hu S.free hdf hkd) pa_nil) hk hg hdb hd hcd
  refine ⟨fun pins s σ H Q I h => L.run pins s σ H Q I ?_⟩
  exact ⟨h.1, fun f H1 n1 e1 T1 l1 => ⟨f, _, rfl, rfl, l1, h.2 H1 e1 T1⟩⟩
end
theorem lamB0 {params : Arguments} (h : ∀ (q : Str) (body : FuncBody) (scope : Scope) (cl : List (Str × Addr)) (doc pm cd ct : Value), bindArgs (PySem.W.kdv_fn "<lambda>" q params body scope cl .none doc pm cd ct) ⟨[], []⟩ = pure []) : LamB params [] [] := ⟨fun _ => ⟨rfl, h⟩, fun d e => by cases e⟩
/-! ### an own class of errors, what a law's told asks of it -/
def exNames : List Str := ["InvalidRing", "InvalidChain", "UnknownReader", "UnknownBook", "InvalidNumber", "SameBook", "OtherRing"]
def exNm (j : Nat) : Str := exNames.getD j "other"
structure ExcT (K : PySem.W.Frag) (D : Addr) (j : Nat) : Prop where
  ex : PySem.W.excIn K D He.veBase "ValueError.__new__" = true
  kp : PySem.W.keepIn K (.ref D) = true
  sb : PySem.W.subIn K (.ref D) (.type "BaseException") = some true
  ty : PySem.W.typeIn K (.ref D) = some (.type "type")
  c : ExcC K D
  is_ : ∀ i, i < 7 → PySem.W.kitOne K (.ref D) (.ref (He.ga K (exNm i))) = some (decide (i = j))
  ve : PySem.W.kitOne K (.ref D) (.type "ValueError") = some true
  re : PySem.W.exmOne K (.ref D) (.ref (He.ga K "ReadingError")) = some true
def excCB (K : PySem.W.Frag) (D : Addr) : Bool := He.eqO (PySem.W.findIn K (.ref D) "__getattribute__") (some (some (.builtin "BaseException.__getattribute__"))) && (He.eqO (PySem.W.findIn K (.ref D) "__getattr__") (some none) && (decide (PySem.W.subIn K (.ref D) (.type "BaseException") = some true) && (PySem.W.hasDictIn K D &&
  (He.eqO (PySem.W.findIn K (.ref D) "__class__") (some (some (.builtin "object.__class__"))) && (He.eqO (PySem.W.specialIn K (.builtin "object.__class__") "__get__") (some (some (.builtin "getset_descriptor.__get__"))) && (decide (PySem.W.takesIn K (.builtin "object.__class__") = some true) && decide (PySem.W.mroIn K D (.type "object") = some true)))))))
theorem excC_ok {K : PySem.W.Frag} {D : Addr} (h : excCB K D = true) : ExcC K D := by
  obtain ⟨h1, h⟩ := He.ba h
  obtain ⟨h2, h⟩ := He.ba h
  obtain ⟨h3, h⟩ := He.ba h
  obtain ⟨h4, h⟩ := He.ba h
  obtain ⟨h5, h⟩ := He.ba h
  obtain ⟨h6, h⟩ := He.ba h
  obtain ⟨h7, h8⟩ := He.ba h
  exact ⟨He.eqO_ok h1, He.eqO_ok h2, of_decide_eq_true h3, h4, He.eqO_ok h5, He.eqO_ok h6, of_decide_eq_true h7, of_decide_eq_true h8⟩
def excTB (K : PySem.W.Frag) (D : Addr) (j : Nat) : Bool := PySem.W.excIn K D He.veBase "ValueError.__new__" && (PySem.W.keepIn K (.ref D) && (decide (PySem.W.subIn K (.ref D) (.type "BaseException") = some true) && (decide (PySem.W.typeIn K (.ref D) = some (.type "type")) && (excCB K D &&
  ((List.range 7).all (fun i => decide (PySem.W.kitOne K (.ref D) (.ref (He.ga K (exNm i))) = some (decide (i = j)))) && (decide (PySem.W.kitOne K (.ref D) (.type "ValueError") = some true) && decide (PySem.W.exmOne K (.ref D) (.ref (He.ga K "ReadingError")) = some true)))))))
theorem excT_ok {K : PySem.W.Frag} {D : Addr} {j : Nat} (h : excTB K D j = true) : ExcT K D j := by
  obtain ⟨h1, h⟩ := He.ba h
  obtain ⟨h2, h⟩ := He.ba h
  obtain ⟨h3, h⟩ := He.ba h
  obtain ⟨h4, h⟩ := He.ba h
  obtain ⟨h5, h⟩ := He.ba h
  obtain ⟨h6, h⟩ := He.ba h
  obtain ⟨h7, h8⟩ := He.ba h
  exact ⟨h1, h2, of_decide_eq_true h3, of_decide_eq_true h4, excC_ok h5, fun i hi => of_decide_eq_true (List.all_eq_true.mp h6 i (List.mem_range.mpr hi)), of_decide_eq_true h7, of_decide_eq_true h8⟩
/-- raise X('..') -/
theorem psr_own {X : Cx} {C : Addr} {W : WX} {x m : Str} {j n : Nat} {p p2 pos pos' : Pos} (T : ExcT X.K C n) (gC : X.mg x = some (.ref C)) (hc : X.calm = true) (tk : Takes X W) (hg : Gl X x := by rfl) (hdb : (x == ("__debug__" : Str)) = false := by decide) :
    PS X (.Raise (some (.Call (.Name x p) [.Constant (.str m) j p2] [] pos)) none pos') (fun _ σ H => W (.ref C) none σ H) :=
  ps_raise hc tk (pmk_own PySem.F.excBase_ValueError T.ex gC T.kp (raises_own T.sb T.ty) hg hdb)
/-- the suite of an error without a dict: its class is told -/
theorem pss_low {X : Cx} {a : Addr} {oe : Obj} {pn : List (Addr × Obj)} {cls : Value} {d : Option Addr} {body : List Stmt} {t : Addr → TS} (hz : Zc cls d oe) (h : ∀ Dc, Zc (.ref Dc) none oe → ExcC X.K Dc → PSs (X.suite a ((a, oe) :: pn)) body (t Dc)) :
    PSs (X.suite a ((a, oe) :: pn)) body (fun D σ H => ∃ Dc, cls = .ref Dc ∧ d = none ∧ ExcC X.K Dc ∧ t Dc D σ H) := by
  refine ⟨fun pins s σ H D I hh => ?_⟩
  obtain ⟨Dc, e1, e2, hC, q⟩ := hh
  rw [e1, e2] at hz
  exact (h Dc hz hC).run pins s σ H D I q
section
variable {X : Cx}
theorem mt_indexK (K : PySem.W.Frag) (h : X.K = K := by rfl) : MtR X "list.index" (rIndex K) := by subst h; exact mt_index
theorem mt_countFK (K : PySem.W.Frag) (h : X.K = K := by rfl) : MtR X "list.count" (rCntF K) := by subst h; exact mt_countF
theorem pe_bmK (K : PySem.W.Frag) {T : String} {name : Str} {id : String} {r : V → List V → Hp → VK → Prop} {o e : Expr} {es : List Expr} {to : TE} {t : TA} {apos cpos : Pos} (pa : PlainAttrs T) (slot : Slot T name id) (hty : typeOf (.builtin id) = pure (.type "method_descriptor")) (hm : MtR X id r) (ho : PE X o to) (ha : PA X (e :: es) t)
    (hbase : attributeBase o name X.env (eval o X.env) = eval o X.env := by rfl)
    (hfew : ((backTo cpos (starEach (e :: es) X.env)).all (fun x => !x.1) && (backToKw cpos (keywordEach [] X.env)).all (fun x => x.1.isSome) && decide ((e :: es).length + ([] : List Keyword).length + (if ([] : List Keyword).isEmpty then 0 else 1) < 30)) = true := by rfl)
    (hline : (apos.endLine == cpos.line) = true := by rfl) (hs : starEach (e :: es) X.env = (false, eval e X.env) :: starEach es X.env := by rfl) (hplain : (backTo cpos (starEach es X.env)).any (·.1) = false := by rfl) (h : X.K = K := by rfl) :
    PE X (.Call (.Attribute o name apos) (e :: es) [] cpos) (tBM K T r to t) := by
  subst h
  exact pe_bm pa slot hty hm ho ha hbase hfew hline hs hplain
end
end G48
namespace G48
open PySem PySem.Spec PyProof.Rows L2 Evl
open LamX (TabB)
/-! ### the end of a law whose own def makes lambdas: its table is empty at the start, the script is frozen or the module's -/
/-- the script's own form: no plain list -/
def ScrF (K : PySem.W.Frag) (H : Hp) (a : Addr) (xs : List V) : Prop := (∃ o, H a = some (.frz o (.lst xs))) ∨ ∃ (o : Obj) (its : Array Value) (n : Nat), K.lookup a = some o ∧ o.cls = .type "list" ∧ o.dict = none ∧ o.data = .seq its n ∧ its.size ≤ sizeLine ∧ Vals xs its.toList
/-- what is tracked at the start -/
def startH (K : PySem.W.Frag) (P a : Addr) (o : Obj) (xs : List V) : Hp := fun b => if b = P then some (.tbl #[]) else if b = a ∧ (K.lookup a).isNone = true then some (.frz o (.lst xs)) else none
section
variable {P : Program} {w : World} {K : PySem.W.Frag} {mg mb : Str → Option Value} {k : Nat} {fa a c T : Addr} {fd : FuncData} {x : Str} {sp : Sp} {s : Shared} {vs : List Value} {ns : List Int}
theorem law_lam (KX : K.In s.heap) (hG : s.heap.Ns mainGlobals mg) (hB : s.heap.Ns builtinsNs mb) (hbb : ∀ x : Str, x ≠ "__name__" → mb x = bootBuiltins x) (hlim : s.heap.NoLimit) (hg : s.gens = #[])
    (hT : s.heap.get? T = some { cls := .none, data := .fields #[] }) (nT : K.lookup T = none) (C : PySem.W.CodeHd s.heap c T)
    (hbm : ∃ (bm : Addr) (ob : Obj), mg "__builtins__" = some (.ref bm) ∧ bm ≠ builtinsNs ∧ s.heap.get? bm = some ob ∧ ob.cls = .type "module" ∧ ob.dict = some builtinsNs ∧ ob.data = .plain)
    (ha : s.heap.get? a = some { cls := .type "list", data := .seq vs.toArray }) (hi : IntsAre vs ns) (hl : ns.length ≤ sizeLine) (hr : Room k callerA)
    (F : ∀ base : Heap, K.In base → base.Ns mainGlobals mg → TabB base mg c T → FnOk P w K mg base L2.CX0 k fa fd [x] sp) (hbind : ∀ (s : Shared) (u : Value), BindsTo s fd ⟨[u], []⟩ [(x, u)])
    (hsp : ∀ H : Hp, H T = some (.tbl #[]) → ScrF K H a (ns.map V.int) → sp [.ref a] H (fun v _ => v = .bl true) fun _ _ _ => False) :
    codeAny (model P w) callerA (.call (.ref fa) ⟨[.ref a], []⟩) (fun r s' => r = .ok (.ret (.bool true)) ∧ OldK s.heap s'.heap ∧ s'.os = s.os ∧ AllBare s'.gens) s := by
  have rv := vals_ints hi
  have lenV := hi.length
  have hl' : (ns.map V.int).length ≤ sizeLine := by rw [List.length_map]; exact hl
  have neq : a ≠ T := fun z => by
    rw [z, hT] at ha
    cases ha
  have hw : ∃ H0 : Hp, startH K T a { cls := .type "list", data := .seq vs.toArray } (ns.map V.int) = H0 := ⟨_, rfl⟩
  obtain ⟨H0, eH⟩ := hw
  have atT : H0 T = some (.tbl #[]) := by rw [← eH]; exact if_pos rfl
  have atA : K.lookup a = none → H0 a = some (.frz { cls := .type "list", data := .seq vs.toArray } (.lst (ns.map V.int))) := fun z => by
    rw [← eH]
    exact (if_neg neq).trans (if_pos ⟨rfl, by rw [z]; rfl⟩)
  have only : ∀ b u, H0 b = some u → (b = T ∧ u = .tbl #[]) ∨ (b = a ∧ K.lookup a = none ∧ u = .frz { cls := .type "list", data := .seq vs.toArray } (.lst (ns.map V.int))) := fun b u z => by
    rw [← eH] at z
    unfold startH at z
    by_cases h1 : b = T
    · rw [if_pos h1] at z
      exact .inl ⟨h1, (Option.some.inj z).symm⟩
    · rw [if_neg h1] at z
      by_cases h2 : b = a ∧ (K.lookup a).isNone = true
      · rw [if_pos h2] at z
        exact .inr ⟨h2.1, by simpa using h2.2, (Option.some.inj z).symm⟩
      · rw [if_neg h2] at z
        cases z
  have scr : ScrF K H0 a (ns.map V.int) := by
    cases hk : K.lookup a with
    | none => exact .inl ⟨_, atA hk⟩
    | some o =>
      have e := KX a o hk
      rw [ha] at e
      cases e
      exact .inr ⟨_, vs.toArray, _, hk, rfl, rfl, rfl, by rw [List.size_toArray, lenV]; exact hl, by simpa using rv⟩
  have hok : HOk P w H0 s.heap := fun b u z => by
    rcases only b u z with ⟨rfl, rfl⟩ | ⟨rfl, _, rfl⟩
    · exact hT
    · exact ⟨ha, hl', vs, _, rv, ha⟩
  -- an object that is neither a list nor an empty table is not tracked
  have clear : ∀ {b : Addr} {o : Obj}, s.heap.get? b = some o → (∀ us n, o.data ≠ .seq us n) → o.data ≠ .fields #[] → H0 b = none := fun {b o} e d1 d2 => by
    cases z : H0 b with
    | none => rfl
    | some u =>
      rcases only b u z with ⟨rfl, _⟩ | ⟨rfl, _, _⟩
      · rw [hT] at e
        cases e
        exact absurd rfl d2
      · rw [ha] at e
        cases e
        exact absurd rfl (d1 _ _)
  have get : ∀ {b : Addr} {o : Obj}, s.heap.get? b = some o → H0 b = none → (hidT s.heap H0).get? b = some o := fun e n => hidT_get e n
  have nsUp : ∀ {b : Addr} {m : Str → Option Value}, s.heap.Ns b m → (hidT s.heap H0).Ns b m := fun {b m} ⟨o, es, ep, e, d, r⟩ => ⟨o, es, ep, get e (clear e (fun us n z => by rw [d] at z; cases z) fun z => by rw [d] at z; cases z), d, r⟩
  have kIn : K.In (hidT s.heap H0) := fun b o e => get (KX b o e) (by
    cases z : H0 b with
    | none => rfl
    | some u =>
      rcases only b u z with ⟨rfl, _⟩ | ⟨rfl, n, _⟩
      · rw [nT] at e; cases e
      · rw [n] at e; cases e)
  have md : L2.Mod K mg (hidT s.heap H0) := ⟨kIn, nsUp hG, ⟨mb, nsUp hB, hbb⟩, let ⟨mc, h1, h2⟩ := hlim; ⟨mc, nsUp h1, h2⟩⟩
  have tb : TabB (hidT s.heap H0) mg c T := by
    obtain ⟨o, us, file, tf, flags, tg, inF, text, tt, e1, r1, r2, r3, r4, r5, r6, r7, r8, hne⟩ := C
    obtain ⟨bm, ob, b1, b2, b3, b4, b5, b6⟩ := hbm
    obtain ⟨og, es, ep, eg, dg, _⟩ := hG
    have ng : bm ≠ mainGlobals := fun q => by
      rw [q, eg] at b3
      cases b3
      rw [dg] at b6
      cases b6
    have nt : bm ≠ T := fun q => by
      rw [q, hT] at b3
      cases b3
      cases b6
    refine ⟨⟨o, us, file, tf, flags, tg, inF, text, tt, get e1 (clear e1 (fun us n z => ?_) fun z => ?_), r1, r2, r3, r4, r5, r6, r7, r8, hne⟩, ⟨bm, ob, b1, b2, ng, nt, get b3 (clear b3 (fun us n z => ?_) fun z => ?_), b4, b5, b6⟩, fun z => ?_⟩
    · rw [r2] at z
      cases z
    · rw [r2] at z
      cases z
      simp at r3
    · rw [b6] at z
      cases z
    · rw [b6] at z
      cases z
    · rw [z, hT] at eg
      cases eg
      cases dg
  have e0 : Env0 P w K mg (hidT s.heap H0) callerA [] s H0 := ⟨rfl, md, fun b o e => of_hidT e, Nat.le_of_eq (hidT_size _ _), trivial, fun b z => absurd (show b ∈ ([] : List Addr) from z) (by simp), hok, .of_eq hg⟩
  refine codeAny_mono ((F _ kIn (nsUp hG) tb).run callerA [] s H0 ⟨[.ref a], []⟩ [.ref a] [.ref a] _ _ hr e0 (hbind s (.ref a)) (.cons rfl .nil) (hsp H0 atT scr)) fun r s' h => ?_
  cases r with
  | error e => exact False.elim h
  | ok fl =>
    cases fl with
    | next => exact False.elim h
    | brk => exact False.elim h
    | cont => exact False.elim h
    | ret u =>
      obtain ⟨v, H', os, bare, un, hok', r', rfl⟩ := h
      obtain rfl : u = Value.bool true := r'
      have kept : ∀ b o, b ≠ T → s.heap.get? b = some o → s'.heap.get? b = some o := fun b o nb e => by
        cases z : H0 b with
        | none => exact un.keep b o e z (fun z => absurd (show b ∈ ([] : List Addr) from z) (by simp)) (by simp)
        | some u =>
          rcases only b u z with ⟨q, _⟩ | ⟨rfl, n, rfl⟩
          · exact absurd q nb
          · obtain ⟨e2, _⟩ := hok' _ _ (un.frzs _ _ _ z)
            rw [ha] at e
            cases e
            exact e2
      obtain ⟨more, hm⟩ := un.tbls T #[] atT
      have grown : s'.heap.get? T = some { cls := .none, data := .fields (#[] ++ more) } := hok' T _ hm
      refine ⟨rfl, ⟨fun b o e => ?_, fun b o e => ?_⟩, os, bare⟩
      · by_cases hb : b = T
        · subst hb
          rw [hT] at e
          cases e
          exact .inr (.inl ⟨(C.tab hT).isCodeTable, rfl, #[], more, rfl, grown⟩)
        · exact .inl (kept b o hb e)
      · by_cases hb : b = T
        · subst hb
          exact ⟨_, grown⟩
        · exact ⟨o, kept b o hb e⟩
/-- what is known of the law's promise at the head's heap h -/
def LawAtL (l : PySem.W.OpenLaw) (w : World) (K : PySem.W.Frag) (k n : Nat) (x : Str) (mg : Str → Option Value) (fa : Addr) (h : Heap) : Prop :=
  ∃ (fd : FuncData) (c T : Addr) (sp : Sp), h.get? T = some { cls := .none, data := .fields #[] } ∧ K.lookup T = none ∧ PySem.W.CodeHd h c T ∧ (∀ (s : Shared) (u : Value), BindsTo s fd ⟨[u], []⟩ [(x, u)]) ∧
    (∀ (H : Hp) (a : Addr) (ns : List Int), ns.length ≤ n → H T = some (.tbl #[]) → ScrF K H a (ns.map V.int) → sp [.ref a] H (fun v _ => v = .bl true) fun _ _ _ => False) ∧
    ∀ base : Heap, K.In base → base.Ns mainGlobals mg → TabB base mg c T → FnOk l.prog w K mg base L2.CX0 k fa fd [x] sp
theorem walk_lam {l : PySem.W.OpenLaw} {n k : Nat} {q : Program} {loose : List Str} {XP : (Str → Option Value) → Heap → Prop} {YP : World → Heap → Prop} {d : DefRec} {x : Str}
    (hn : l.most = some n) (hn2 : n ≤ sizeLine) (hdf : d.params.defaults = []) (hr : Room k callerA)
    (F : ∀ (w : World) (mg : Str → Option Value) (fa : Addr) (h : Heap), YP w h → h.Ns mainGlobals mg → mg d.name = some (.ref fa) → ∃ K : PySem.W.Frag, K.In h ∧ LawAtL l w K k n x mg fa h) :
    PySem.W.WalkO q loose XP YP l.row.toRowW d [] (fun f vs => PySem.call f vs) := by
  refine Att.attach_callB hn hdf fun w s₀ s₁ mg mb fa o pm cd doc a vs ns G Y ho hd hcd hmg hobj hints hlen hbits hg => ?_
  obtain ⟨K, KX, fd, c, T, sp, hT, nT, C, hb, hsp, hF⟩ := F w mg fa _ Y G.T.g hmg
  exact law_lam KX G.T.g G.T.b G.T.builtins G.T.nolimit hg hT nT C G.T.bmain hobj hints (Nat.le_trans hlen hn2) hr hF hb fun H hH hS => hsp H a ns hlen hH hS
end
/-! ### the Hook: facts of the heap without empty tables, and the law's own table -/
abbrev lawD : He.Defn := ("law", none)
abbrev lamC (K : PySem.W.Frag) : Addr := (He.cT K lawD).1
abbrev lamT (K : PySem.W.Frag) : Addr := (He.cT K lawD).2
abbrev AlL : Type := He.AlD × Bool
def SaysL (fas : List Gp.FB) (fn : List He5.DefA) (h : Heap) (K : PySem.W.Frag) : Prop := Gp.SaysP fas fn K ∧ PySem.W.codeHdIn K (lamC K) (lamT K) = true ∧ K.lookup (lamT K) = none ∧ h.get? (lamT K) = some { cls := .none, data := .fields #[] }
def obsL (n : Nat) (fas : List Gp.FB) (fn : List He5.DefA) (g : Addr → Option Obj) : AlL := (Gp.obsP fas fn (He.frT g (He5.asA g n)), He.tabsB g [lawD] (He.frT g (He5.asA g n)))
theorem saysL_of {n : Nat} {fas : List Gp.FB} {fn : List He5.DefA} {h : Heap} (e : obsL n fas fn h.get? = (He5.valA fn, true)) : SaysL fas fn h (He.frT h.get? (He5.asA h.get? n)) := by
  have e1 : Gp.obsP fas fn (He.frT h.get? (He5.asA h.get? n)) = He5.valA fn := congrArg (fun z : AlL => z.1) e
  have e2 : He.tabsB h.get? [lawD] (He.frT h.get? (He5.asA h.get? n)) = true := congrArg (fun z : AlL => z.2) e
  obtain ⟨h3, h4⟩ := He.ba (List.all_eq_true.mp e2 lawD List.mem_cons_self)
  cases q : h.get? (lamT (He.frT h.get? (He5.asA h.get? n))) with
  | none =>
    rw [show h.get? (He.cT (He.frT h.get? (He5.asA h.get? n)) lawD).2 = none from q] at h4
    cases h4
  | some o =>
    rw [show h.get? (He.cT (He.frT h.get? (He5.asA h.get? n)) lawD).2 = some o from q] at h4
    exact ⟨e1, h3, He.frT_none q h4, by rw [q, He.emptyTab_eq h4]⟩
def hookL (n : Nat) (fas : List Gp.FB) (fn : List He5.DefA) : PySem.W.Hook where
  α := AlL
  obs := fun s => obsL n fas fn s.heap.get?
  val := fun _ => (He5.valA fn, true)
  says := fun _ h => ∃ K : PySem.W.Frag, K.In h ∧ SaysL fas fn h K
  of := fun _ _ e => ⟨_, He.frT_in, saysL_of e⟩
  keeps := fun _ _ _ ⟨K, hK, c1, c2, c3, c4⟩ k => ⟨K, PySem.W.Frag.In.keeps hK k, c1, c2, c3, k _ _ c4⟩
theorem obsL_eq {n : Nat} {fas : List Gp.FB} {fn : List He5.DefA} {g : Addr → Option Obj} {s : Shared} (h : ∀ a, g a = s.heap.get? a) : obsL n fas fn g = (hookL n fas fn).obs s := by
  have e : g = s.heap.get? := funext h
  rw [e] <;> rfl
/-- the body of a law that makes lambdas: its code object and its table are told -/
abbrev BodyT (P : Program) (w : World) (K : PySem.W.Frag) (mg : Str → Option Value) (base : Heap) (N : List Str) (st : Stmt) (k : Nat) (sp : Sp) : Prop :=
  ∀ (f : Addr) (A : Around) (outer : List Env) (s : Shared) (H : Hp) (vs : List V) (Q : VK) (E : XK), TabB base mg (lamC K) (lamT K) → Room k (A.deeper (envOfC "law" (defScope st) s.heap.objs.size f (.ref (lamC K)))) → sp vs H Q E →
      ∃ t, PSs (cxOf L2.CX0 P w K mg base N "law" (defScope st) f (.ref (lamC K)) A outer s H E).nox (defBody st) t ∧ t { nx := fun _ H' => Q .non H', rt := Q } (start N vs) H
theorem fn_lam {P : Program} {w : World} {K : PySem.W.Frag} {mg : Str → Option Value} {base : Heap} {st : Stmt} {fd : FuncData} {N ps : List Str} {k : Nat} {sp : Sp} (F : Fun K "law" "law" st (He.ga K "law") fd) (S : FnScope N ps (defScope st)) (len : ∀ vs H Q E, sp vs H Q E → vs.length = ps.length)
    (body : BodyT P w K mg base N st k sp) (TB : TabB base mg (lamC K) (lamT K)) : FnOk P w K mg base L2.CX0 (k + 1) (He.ga K "law") fd ps sp := by
  obtain ⟨oc, od, kV, doc, pm, an, cdv, ct, osl, rfl, lk, hcd⟩ := F.ex
  obtain ⟨c0, rfl⟩ := He.codeIn_ref hcd
  have e : He.codeOf K lawD = c0 := He.codeOf_eq (p := lawD) lk rfl
  subst e
  refine fn_of lk hcd S len fun A outer s H vs Q E hr hsp => ?_
  obtain ⟨t, ht, q⟩ := body _ A outer s H vs Q E TB hr hsp
  exact ⟨t, ht.nox, q⟩
end G48
namespace G48
open PySem PySem.Spec PyProof.Rows L2 Evl
open LamX (CodeO Tabs TabS ExtN TabB)
/-! ### what stands when a lambda is made -/
section
variable {K : PySem.W.Frag} {H H' : Hp} {a l C dx : Addr} {xs ys : List V} {fs : List (Str × V)}
theorem exn_lst (e : ExtN H H') (h : H a = some (.lst xs)) : H' a = some (.lst xs) := e _ _ h fun _ z => by cases z
theorem exn_ins (e : ExtN H H') (h : H a = some (.ins C dx fs)) : H' a = some (.ins C dx fs) := e _ _ h fun _ z => by cases z
theorem exn_t (e : ExtN H H') (h : SqT K H a xs) : SqT K H' a xs := by
  rcases h with (h | ⟨o, h⟩) | h
  · exact .inl (.inl (e _ _ h fun _ z => by cases z))
  · exact .inl (.inr ⟨o, e _ _ h fun _ z => by cases z⟩)
  · exact .inr h
theorem exn_l (e : ExtN H H') (h : SqL K H a xs) : SqL K H' a xs := by
  rcases h with (h | ⟨o, h⟩) | h
  · exact .inl (.inl (e _ _ h fun _ z => by cases z))
  · exact .inl (.inr ⟨o, e _ _ h fun _ z => by cases z⟩)
  · exact .inr h
theorem tabs_exb {T : List (Addr × Str)} (e : Exb l H H') (hl : H l = some (.lst ys)) (t : Tabs T H) : Tabs T H' := fun p hp => by
  obtain ⟨ps, h1, h2, h3⟩ := t p hp
  refine ⟨ps, e _ _ (ne_of h1 hl (by intro z; cases z)) h1, h2, fun pos cv hc => ?_⟩
  obtain ⟨c, e1, e2⟩ := h3 pos cv hc
  refine ⟨c, e1, e _ _ (ne_of e2 hl fun z => ?_) e2⟩
  unfold CodeO at z
  cases z
end
/-! ### the table of the law's own code object -/
abbrev lamTs (K : PySem.W.Frag) : List (Addr × Str) := [(lamT K, ("law" ++ ".<locals>.") ++ "<lambda>")]
theorem lamTs_m {K : PySem.W.Frag} : (lamT K, (("law" ++ ".<locals>.") ++ "<lambda>" : Str)) ∈ lamTs K := List.mem_cons_self
theorem lamTs_u {K : PySem.W.Frag} : ∀ p ∈ lamTs K, p.1 = lamT K → p.2 = (("law" ++ ".<locals>.") ++ "<lambda>" : Str) := fun p hp _ => by rw [List.mem_singleton.mp hp]
theorem lamTs_0 {K : PySem.W.Frag} {H : Hp} (h : H (lamT K) = some (.tbl #[])) : Tabs (lamTs K) H := fun p hp => by
  rw [List.mem_singleton.mp hp]
  exact TabS.nil h
/-! ### lambdas that are kept: made, handed on, called -/
/-- the maker: its names, its cells, its text's name -/
structure LamM where
  prog : Program
  w : World
  K : PySem.W.Frag
  mg : Str → Option Value
  base : Heap
  N : List Str
  sc : Scope
  cells : List (Str × Addr)
  qual : Str
abbrev lamM (X : Cx) : LamM := ⟨X.prog, X.w, X.K, X.mg, X.base, X.N, X.env.scope, X.env.cells, X.env.qual ++ "<lambda>"⟩
/-- at f stands a lambda that M made, its body's reading is t -/
def LamTo (M : LamM) (k : Nat) (H : Hp) (f : Addr) (t : XK → TE) : Prop := ∃ l : LamD, LamOk M.prog M.w M.K M.mg M.base M.N M.sc M.cells M.qual k l ∧ l.at_ H f M.qual M.cells ∧ l.t = t
section
variable {M : LamM} {k : Nat} {H H' : Hp} {f l : Addr} {t : XK → TE} {ys : List V}
theorem LamTo.ex (e : Ex H H') (h : LamTo M k H f t) : LamTo M k H' f t := let ⟨d, a, b, c⟩ := h; ⟨d, a, LamAt.ex e b, c⟩
theorem LamTo.exn (e : ExtN H H') (h : LamTo M k H f t) : LamTo M k H' f t := let ⟨d, a, b, c⟩ := h; ⟨d, a, LamAt.exn e b, c⟩
theorem LamTo.exb (e : Exb l H H') (hl : H l = some (.lst ys)) (h : LamTo M k H f t) : LamTo M k H' f t := let ⟨d, a, b, c⟩ := h; ⟨d, a, LamAt.exb e hl b, c⟩
end
def tLamT (M : LamM) (k : Nat) (T : List (Addr × Str)) (t : XK → TE) : TE := fun _ H Q => Tabs T H ∧ ∀ f H1, H f = none → ExtN H H1 → Tabs T H1 → LamTo M k H1 f t → Q (.ref f) H1
section
variable {X : Cx} {T : List (Addr × Str)} {c P : Addr} {params : Arguments} {body : Expr} {scope : Scope} {pos : Pos} {t : XK → TE} {k : Nat}
theorem pe_lamT0 (TB : TabB X.base X.mg c P) (hcode : X.env.code = .ref c) (hm : (P, X.env.qual ++ "<lambda>") ∈ T) (hu : ∀ p ∈ T, p.1 = P → p.2 = X.env.qual ++ "<lambda>")
    (S : LamS X.N X.env.scope scope []) (B : LamB params [] [])
    (hbody : ∀ (A : Around) (outer : List Env) (s : Shared) (H : Hp) (E : XK) (f c' : Addr), Room k (A.deeper (lamE (X.env.qual ++ "<lambda>") scope X.env.cells s.heap.objs.size f c')) → PE (lamX X.prog X.w X.K X.mg X.base X.N (X.env.qual ++ "<lambda>") scope X.env.cells A outer s H E f c') body (t E))
    (hd : defaultsOf params X.env = ([], []) := by rfl) : PE X (.Lambda params body scope pos) (tLamT (lamM X) k T t) := by
  have L := pe_lam0 (pos := pos) (body := body) TB hcode hm hu S.free hd
  refine ⟨fun pins s σ H Q I h => L.run pins s σ H Q I ⟨h.1, fun f H1 n1 e1 T1 l1 => h.2 f H1 n1 e1 T1 ⟨⟨params, body, scope, [], [], t⟩, ⟨S, B, hbody⟩, l1, rfl⟩⟩⟩
theorem pe_lamT1 {y : Str} {d : Int} {dk : Nat} {dp : Pos} (TB : TabB X.base X.mg c P) (hcode : X.env.code = .ref c) (hm : (P, X.env.qual ++ "<lambda>") ∈ T) (hu : ∀ p ∈ T, p.1 = P → p.2 = X.env.qual ++ "<lambda>")
    (S : LamS X.N X.env.scope scope [y]) (B : LamB params [y] [d])
    (hbody : ∀ (A : Around) (outer : List Env) (s : Shared) (H : Hp) (E : XK) (f c' : Addr), Room k (A.deeper (lamE (X.env.qual ++ "<lambda>") scope X.env.cells s.heap.objs.size f c')) → PE (lamX X.prog X.w X.K X.mg X.base X.N (X.env.qual ++ "<lambda>") scope X.env.cells A outer s H E f c') body (t E))
    (hd : params.defaults = [.Constant (.int d) dk dp] := by rfl) (hk : params.kw_defaults = [] := by rfl) : PE X (.Lambda params body scope pos) (tLamT (lamM X) k T t) := by
  have L := pe_lam1 (pos := pos) (body := body) TB hcode hm hu S.free hd hk
  refine ⟨fun pins s σ H Q I h => L.run pins s σ H Q I ⟨h.1, fun f H1 n1 e1 T1 l1 => h.2 f H1 n1 e1 T1 ⟨⟨params, body, scope, [y], [d], t⟩, ⟨S, B, hbody⟩, l1, rfl⟩⟩⟩
theorem lamB1 {params : Arguments} {a : Str} {d : Int} (h : ∀ (q : Str) (body : FuncBody) (scope : Scope) (cl : List (Str × Addr)) (dV doc pm cd ct : Value), ∃ k : Option (Array Value) → Sem (List (Str × Value)),
    bindArgs (PySem.W.kdv_fn "<lambda>" q params body scope cl dV doc pm cd ct) ⟨[], []⟩ = seqItems? dV >>= k ∧ ∀ v, k (some #[v]) = pure [(a, v)]) : LamB params [a] [d] := ⟨(fun e => by cases e), fun d' e => ⟨a, rfl, h⟩⟩
end
/-! ### x(e) and x(), x a name of a comprehension over lambdas of the maker -/
def tToldT (M : LamM) (k : Nat) (ta : TA) (σ0 : L2.St) (TT : (XK → Hp → VK → Prop) → Hp → VK → Prop) : TE := fun σ H Q =>
  ta σ H fun vs H1 => ∃ f t, vs = [.ref f] ∧ LamTo M k H1 f t ∧ TT (fun E H' Q' => t E σ0 H' Q') H1 Q
def tLamC (M : LamM) (k : Nat) (i : Nat) (σ0 : L2.St) : TE := fun σZ H Q => ∃ f t, σZ[i]? = some (some (.ref f)) ∧ LamTo M k H f t ∧ t (fun _ _ _ => False) σ0 H Q
section
variable {X : Cx} {pins : List (Addr × Obj)} {σ : L2.St} {H : Hp} {s : Shared} {scope : Scope} {C : Addr} {cl : List (Str × Addr)} {fp : List Addr}
/-- the block of a comprehension that starts at s sees the maker's cells -/
theorem sees_blk (I : Inv X pins σ H s) (hfp : ∀ b ∈ fp, FpOk X pins H b) : Sees (X.blk s H scope (compEnvC scope cl C X.env) fp) X.N σ X.env.cells X.env.scope := fun pins' s' σZ H' J =>
  (CellsOk.of I).un J.base fun y c e hc => (hfp c hc).2.2.2.2.1 y c e rfl
theorem pe_toldT {Ng : List Str} {x a : Str} {k j : Nat} {TT : (XK → Hp → VK → Prop) → Hp → VK → Prop} {st : Stmt} {ta : TA} {e : Expr} {p pos : Pos} (I : Inv X pins σ H s) (hfp : ∀ b ∈ fp, FpOk X pins H b) (hr : Room j X.A)
    (G : GFun X.K X.mg x st) (Sg : FnScope Ng [a] (defScope st)) (hb : BindL x x st [a]) (hG : GivesL X.prog X.w X.K X.mg X.base Ng x st a (k + 1) TT) (hNg : Ng[0]? = some a) (hva : Vis (defScope st) a) (ha : PA (X.blk s H scope (compEnvC scope cl C X.env) fp) [e] ta) (hk : k + 2 ≤ j := by decide) (hg : Gl (X.blk s H scope (compEnvC scope cl C X.env) fp) x := by rfl)
    (hdb : (x == ("__debug__" : Str)) = false := by decide) (hd : (a == ("__debug__" : Str)) = false := by decide) (hcd : (a == ("__classdict__" : Str)) = false := by decide)
    (hst : starEach [e] (compEnvC scope cl C X.env) = (false, eval e (compEnvC scope cl C X.env)) :: starEach [] (compEnvC scope cl C X.env) := by rfl) (hpl : (backTo pos (starEach [] (compEnvC scope cl C X.env))).any (·.1) = false := by rfl) :
    PE (X.blk s H scope (compEnvC scope cl C X.env) fp) (.Call (.Name x p) [e] [] pos) (tToldT (lamM X) k ta σ TT) := by
  have L := pe_told (Y := X.blk s H scope (compEnvC scope cl C X.env) fp) (N := X.N) (sg := fun _ => σ) (sc := X.env.scope) (cells := X.env.cells) (qual := X.env.qual ++ "<lambda>") (LO := LamOk X.prog X.w X.K X.mg X.base X.N X.env.scope X.env.cells (X.env.qual ++ "<lambda>") k) (p := p) (pos := pos)
    (fun pins' s' σ' H' J => ⟨sees_blk I hfp pins' s' σ' H' J, I.len⟩) (fun l hl => hl) hr G Sg hb hG hNg hva ha hk hg hdb hd hcd hst hpl
  refine ⟨fun pins' s' σ' H' Q J h => L.run pins' s' σ' H' Q J ?_⟩
  have e : (fun (vs : List V) (H1 : Hp) => ∃ f t, vs = [.ref f] ∧ LamTo (lamM X) k H1 f t ∧ TT (fun E H' Q' => t E σ H' Q') H1 Q) = fun vs H1 => ∃ f l, vs = [.ref f] ∧ LamOk X.prog X.w X.K X.mg X.base X.N X.env.scope X.env.cells (X.env.qual ++ "<lambda>") k l ∧ LamD.at_ l H1 f (X.env.qual ++ "<lambda>") X.env.cells ∧ TT (fun E H' Q' => l.t E σ H' Q') H1 Q := by
    funext vs H1
    refine propext ⟨?_, ?_⟩
    · rintro ⟨f, t, e1, ⟨l, a1, a2, rfl⟩, q⟩
      exact ⟨f, l, e1, a1, a2, q⟩
    · rintro ⟨f, l, e1, a1, a2, q⟩
      exact ⟨f, l.t, e1, ⟨l, a1, a2, rfl⟩, q⟩
  show ta σ' H' _
  rw [← e]
  exact h
theorem pe_lamC {a : Str} {i k j : Nat} {p1 p2 : Pos} (I : Inv X pins σ H s) (hfp : ∀ b ∈ fp, FpOk X pins H b) (hr : Room j X.A) (hN : X.N[i]? = some a) (hv : Vis (compEnvC scope cl C X.env).scope a) (hk : k + 1 ≤ j := by decide)
    (hd : (a == ("__debug__" : Str)) = false := by decide) (hcd : (a == ("__classdict__" : Str)) = false := by decide) : PE (X.blk s H scope (compEnvC scope cl C X.env) fp) (.Call (.Name a p1) [] [] p2) (tLamC (lamM X) k i σ) := by
  have L := pe_lamV (Z := X.blk s H scope (compEnvC scope cl C X.env) fp) (E := fun _ _ _ _ => False) (p1 := p1) (p2 := p2) (LO := LamOk X.prog X.w X.K X.mg X.base X.N X.env.scope X.env.cells (X.env.qual ++ "<lambda>") k) (sees_blk I hfp) I.len (fun l hl => hl) (hr.mono hk) (fun σZ pinsZ H s e s' I' c => by
    obtain ⟨_, _, _, _, _, _, _, _, _, _, _, _, z⟩ := c
    exact z.elim) hN hv hd hcd
  refine ⟨fun pins' s' σ' H' Q J h => L.run pins' s' σ' H' Q J ?_⟩
  obtain ⟨f, t, h1, ⟨l, a1, a2, rfl⟩, q⟩ := h
  exact ⟨f, l, h1, a1, a2, q⟩
end
/-! ### a comprehension whose element calls what the maker's cells hold: the start's facts are handed to the element -/
section
variable {X : Cx} {sB : Shared} {HB : Hp} {scope : Scope} {ce : Env} {fp : List Addr}
/-- the block's turns, from where it stands -/
theorem lc_turns {elt tg iter : Expr} {sc2 : Scope} {pos : Pos} {g : TG} {te : TE} {J : It} {it D : Addr} {tn : Nat → Heap → Prop} {vs : List Nat} {σ : L2.St} {H0 : Hp} {s0 : Shared} {R : Result → Shared → Prop} {W : Nat → Nat → Hp → Prop} {Qd : Hp → Prop}
    (hc : X.calm = true) (T : Turn X.prog X.w X.K tg J fp it tn) (I0 : Inv (X.blk sB HB scope ce fp) [] (wipe σ vs) H0 s0) (t0 : tn 0 s0.heap) (n0 : ∀ b ∈ fp, H0 b = none)
    (pg : PG (X.blk sB HB scope ce fp) tg g) (pe : PE (X.blk sB HB scope ce fp) elt te) (w0 : ∃ m, W 0 m H0)
    (turn : ∀ i m H, W i m H → (J.stop i H ∧ Qd H) ∨ (J.go i H ∧ ∃ Nx : Hp → Prop, (∀ H', Nx H' → ∃ m', m' < m ∧ W (i + 1) m' H') ∧ ∀ x H', J.yld i H x H' → g x (wipe σ vs) H' fun σ2 H2 => wipe σ2 vs = wipe σ vs ∧ te σ2 H2 fun y H4 => ∃ acc, H4 D = some (.lst acc) ∧ acc.length < sizeLine ∧ Nx (upd H4 D (.lst (acc ++ [y])))))
    (out : ∀ s' H', Inv (X.blk sB HB scope ce fp) [] (wipe σ vs) H' s' → Qd H' → R (.ok .next) s') :
    codeAny (model X.prog X.w) X.A (.compLoop (.ListComp elt [⟨tg, iter, [], 0⟩] sc2 pos) 0 (.ref it) (.ref D) ce) R s0 := by
  have own : ∀ {σ' : L2.St} {H' : Hp} {s' : Shared}, Inv (X.blk sB HB scope ce fp) [] σ' H' s' → (∀ b ∈ fp, H' b = none) → ∀ b ∈ fp, FpOk (X.blk sB HB scope ce fp) [] H' b := fun J' hn b hb =>
    ⟨hn b hb, (J'.ok.exf b hb).1, J'.ok.exfs b hb, .inl hb, (J'.ok.exf b hb).2, fun p hp => by cases hp⟩
  obtain ⟨m0, w0⟩ := w0
  refine compLoop_any (fun n s' => ∃ i H', Inv (X.blk sB HB scope ce fp) [] (wipe σ vs) H' s' ∧ tn i s'.heap ∧ (∀ b ∈ fp, H' b = none) ∧ W i n H') (fun n s1 hI => ?_) m0 ⟨0, H0, I0, t0, n0, w0⟩
  obtain ⟨i, H1, I1, t1, n1, w1⟩ := hI
  rcases turn i n H1 w1 with ⟨e, q⟩ | ⟨e, Nx, hNx, step⟩
  · refine thnF (T.done (X.blk sB HB scope ce fp) rfl rfl rfl hc i [] s1 _ H1 _ I1 (own I1 n1) t1 e) fun r s2 hr => ?_
    rw [hr.1]
    exact out s2 H1 hr.2 q
  · refine thnF (T.item (X.blk sB HB scope ce fp) rfl rfl rfl hc i [] s1 _ H1 _ I1 (own I1 n1) t1 e) fun r s2 hr => ?_
    obtain ⟨u, rfl, hr⟩ := hr
    refine thnF hr fun _ s3 h3 => ?_
    obtain ⟨x, H3, I3, r3, y3, t3, n3⟩ := h3
    refine thnF (pg.run _ s3 _ H3 x u _ (I3.pinned (own I3 n3) (T.obj _ _ t3)) r3 (step x H3 y3)) fun _ s4 h4 => ?_
    obtain ⟨σ4, H4, I4, e4, q4⟩ := h4
    refine wpAny_tests_nil ?_
    show wpAny _ _ _ _ _ _
    refine thnF (pe.run _ s4 σ4 H4 _ I4 q4) fun z s5 h5 => ?_
    obtain ⟨y, H5, I5, r5, acc, hD, hz, nx⟩ := h5
    refine app_ok (X := X.blk sB HB scope ce fp) I5 hD hz r5 fun s6 I6 => ?_
    obtain ⟨m', hm, w'⟩ := hNx _ nx
    have kept : ∀ b ∈ fp, ∀ o, s3.heap.get? b = some o → s6.heap.get? b = some o ∧ (upd H5 D (.lst (acc ++ [y]))) b = none := fun b hb o eo => by
      have z := I6.pin (b, o) (List.mem_append_right _ (List.mem_append_right _ (mem_pinsAt hb eo)))
      exact ⟨z.1, z.2.1⟩
    refine ⟨m', hm, i + 1, _, (I6.unpinned (pins := [])).weak (by rw [← e4, wipe_length]) (fun j v ej => ?_), T.keep _ _ _ t3 fun b hb o eo => (kept b hb o eo).1, fun b hb => ?_, w'⟩
    · rw [← e4] at ej
      exact (wipe_some ej).1
    · obtain ⟨o, eo, _⟩ := T.obj _ _ t3 b hb
      exact (kept b hb o eo).2
def tLcS (wi : TI) (i : Nat) (te : L2.St → TE) : TE := fun σ H Q => tLc wi (gName i) tYes (te σ) [i] σ H Q
theorem lcS_run {pins : List (Addr × Obj)} {s : Shared} {σ : L2.St} {H : Hp} {Q : VK} {elt iter : Expr} {y : Str} {py pos pos' : Pos} {i : Nat} {wi : TI} {te : L2.St → TE} {use : Option (Value → Sem Unit)} {Qf : Value → Shared → Prop} (hc : X.calm = true) (hN : X.N.Nodup) (I : Inv X pins σ H s) (hi : PI X (.Name y py) iter wi) (ok : BlkOk X.N X.env.scope scope [(y, i)])
    (hg : ∀ (s : Shared) (H : Hp) (C : Addr) (cl : List (Str × Addr)) (fp : List Addr), PG (X.blk s H scope (compEnvC scope cl C X.env) fp) (.Name y py) (gName i))
    (he : ∀ (pins : List (Addr × Obj)) (s : Shared) (σ : L2.St) (H : Hp), Inv X pins σ H s → ∀ (C : Addr) (cl : List (Str × Addr)) (fp : List Addr), (∀ b ∈ fp, FpOk X pins H b) → PE (X.blk s H scope (compEnvC scope cl C X.env) fp) elt (te σ))
    (hs : ∀ x, foldedSetIterable iter X.env x = pure x) (h : tLcS wi i te σ H Q)
    (fin : ∀ D C s' m H', Inv X pins σ H' s' → Q (.ref D) H' → s'.heap.Ns C m → FpOk X pins H' C → compPost (model X.prog X.w) X.A X.xe use Qf (.ref D) C (.ok .next) s') :
    wpAny (model X.prog X.w) X.A (comprehension (.ListComp elt [⟨.Name y py, iter, [], 0⟩] scope pos) scope X.env pos' (newList []) false (eval iter X.env) use) Qf X.xe s := by
  have free : ∀ z ∈ scope.names, z.2 = .free → ∃ c, X.env.cells.lookup z.1 = some c := fun z hz e => (ok.free z hz e).elim (fun k => I.ok.has _ (.inl k)) fun k => I.ok.has _ (.inr k)
  refine wpAny_comprehension_free (use := use) rfl hs (closure_ok free) ok.kind (fun z hz e => by rw [ok.uniq z hz, e]) (thn (hi.run pins s σ H _ I h) fun v1 s1 h1 => thn h1 fun v2 s2 h2 => ?_)
  obtain ⟨it, fp, tn, J, H2, rfl, I2, T, t2, f2, q⟩ := h2
  refine wpAny_newObj_type (newEnv_comp ?_) (Nat.zero_le _)
  have nD : H2 s2.heap.objs.size = none := I2.hok.fresh (Nat.le_refl _)
  obtain ⟨W, w0, turn⟩ := q _ nD
  have grow : ∀ b o, s2.heap.get? b = some o → (s2.heap.push { cls := .type "list", data := .seq ([] : List Value).toArray }).get? b = some o := fun b o e => Heap.get?_push_of_some _ e
  obtain ⟨s3, e3⟩ : ∃ s3 : Shared, s3 = { s2 with heap := s2.heap.push { cls := .type "list", data := .seq ([] : List Value).toArray } } := ⟨_, rfl⟩
  have I3 : Inv X pins σ (upd H2 s2.heap.objs.size (.lst [])) s3 := by
    rw [e3]
    exact I2.laid (t' := s2.toks) grow (Nat.le_refl _) ⟨Nat.zero_le _, [], 0, .nil, Heap.get?_push_size _ rfl⟩
  have lt : ∀ b ∈ fp, b < s2.heap.objs.size := fun b hb => let ⟨o, e, _⟩ := T.obj _ _ t2 b hb; Heap.lt_size e
  have f3 : ∀ b ∈ fp, FpOk X pins (upd H2 s2.heap.objs.size (.lst [])) b := fun b hb => by
    refine ⟨?_, (f2 b hb).2⟩
    rw [upd_ne (Nat.ne_of_lt (lt b hb))]
    exact (f2 b hb).1
  have l3 : ∀ b ∈ fp, FpOk X pins (upd H2 s2.heap.objs.size (.lst [])) b ∧ b < s3.heap.objs.size := fun b hb => ⟨f3 b hb, by rw [e3, Heap.size_push]; exact Nat.lt_succ_of_lt (lt b hb)⟩
  have I4 := block_start I3 ok hN l3
  have pg := hg s3 (upd H2 s2.heap.objs.size (.lst [])) s3.heap.objs.size (cellsFrom (s3.heap.objs.size + 1) scope.names (cloFrom X.env.cells scope.names [])) fp
  have pe := he pins s3 σ _ I3 s3.heap.objs.size (cellsFrom (s3.heap.objs.size + 1) scope.names (cloFrom X.env.cells scope.names [])) fp f3
  have t4 : tn 0 (pushCells (s3.heap.push { cls := .type "dict", data := .dict #[] }) scope.names) := T.keep _ _ _ t2 fun b _ o e => pushCells_keeps _ _ _ _ (Heap.get?_push_of_some _ (by rw [e3]; exact grow b o e))
  have L := lc_turns (iter := iter) (sc2 := scope) (pos := pos) (R := compPost (model X.prog X.w) X.A X.xe use Qf (.ref s2.heap.objs.size) s3.heap.objs.size) hc T I4 t4 (fun b hb => (f3 b hb).1) pg pe w0 (fun i m H' w => (turn i m H' w).imp id fun z => z) (fun s' H' J' hQ => ?_)
  · subst e3
    exact codeAny_compStart_list L (T.self X.A 0 _ _ _ t4 L)
  · have n5 : H' s3.heap.objs.size = none := J'.free
    obtain ⟨m5, hn, _⟩ := J'.loc
    have I5 : Inv X pins σ H' s' := I3.call' (ch := fp) J'.os J'.base J'.hok J'.bare fun b hb => ⟨(f3 b hb).2.2.2.1, (f3 b hb).2.1, (f3 b hb).2.2.2.2.1, (f3 b hb).2.2.2.2.2⟩
    exact fin _ _ s' m5 H' I5 hQ hn (I3.fpOk (Nat.le_refl _) n5)
theorem pe_lcS {elt iter : Expr} {y : Str} {py pos : Pos} {i : Nat} {wi : TI} {te : L2.St → TE} (hc : X.calm = true) (hN : X.N.Nodup) (hi : PI X (.Name y py) iter wi) (ok : BlkOk X.N X.env.scope scope [(y, i)])
    (hg : ∀ (s : Shared) (H : Hp) (C : Addr) (cl : List (Str × Addr)) (fp : List Addr), PG (X.blk s H scope (compEnvC scope cl C X.env) fp) (.Name y py) (gName i))
    (he : ∀ (pins : List (Addr × Obj)) (s : Shared) (σ : L2.St) (H : Hp), Inv X pins σ H s → ∀ (C : Addr) (cl : List (Str × Addr)) (fp : List Addr), (∀ b ∈ fp, FpOk X pins H b) → PE (X.blk s H scope (compEnvC scope cl C X.env) fp) elt (te σ))
    (hs : ∀ x, foldedSetIterable iter X.env x = pure x := by intro _; rfl) : PE X (.ListComp elt [⟨.Name y py, iter, [], 0⟩] scope pos) (tLcS wi i te) := by
  refine ⟨fun pins s σ H Q I h => ?_⟩
  rw [eval_ListComp]
  refine lcS_run (Qf := EP X pins σ Q) hc hN I hi ok hg he hs h fun D C s' m H' I5 hQ hn f => ⟨m, hn, fun h'' sb => ?_⟩
  obtain ⟨a0, a1, a2, a3, a4, a5⟩ := f
  exact ⟨.ref D, H', I5.turned (t' := s'.toks) (fun b o hb e => (sb.2 b hb).trans e) a0 a1 a3 a4 a5, rfl, hQ⟩
/-- z = [..], z a local -/
theorem ps_setLcS {j : Nat} {z : Str} {pz spos : Pos} {elt iter : Expr} {y : Str} {py pos : Pos} {i : Nat} {wi : TI} {te : L2.St → TE} (hz : X.N[j]? = some z) (hzl : X.env.scope.names.lookup z = some .local)
    (hsw : swapsWith (.ListComp elt [⟨.Name y py, iter, [], 0⟩] scope pos) (some (.Name z pz)) spos.line X.env = pure true) (hc : X.calm = true) (hN : X.N.Nodup) (hi : PI X (.Name y py) iter wi) (ok : BlkOk X.N X.env.scope scope [(y, i)])
    (hg : ∀ (s : Shared) (H : Hp) (C : Addr) (cl : List (Str × Addr)) (fp : List Addr), PG (X.blk s H scope (compEnvC scope cl C X.env) fp) (.Name y py) (gName i))
    (he : ∀ (pins : List (Addr × Obj)) (s : Shared) (σ : L2.St) (H : Hp), Inv X pins σ H s → ∀ (C : Addr) (cl : List (Str × Addr)) (fp : List Addr), (∀ b ∈ fp, FpOk X pins H b) → PE (X.blk s H scope (compEnvC scope cl C X.env) fp) elt (te σ))
    (hs : ∀ x, foldedSetIterable iter X.env x = pure x := by intro _; rfl) : PS X (.Assign [.Name z pz] (.ListComp elt [⟨.Name y py, iter, [], 0⟩] scope pos) spos) (tAsg (tLcS wi i te) (gName j)) := by
  refine ⟨fun pins s σ H D I h => ?_⟩
  rw [exec_Assign_Name_used _ _ _ _ hsw]
  have h : tLcS wi i te σ H fun x H1 => gName j x σ H1 D.nx := h
  have run := lcS_run (pos' := firstIterPos [⟨.Name y py, iter, [], 0⟩] pos) (pos := pos) (use := some (assign (.Name z pz) X.env)) (Qf := fun _ s' => SP X pins D .next s') hc hN I hi ok hg he hs h fun L C s' m H' I' q hn f => by
    obtain ⟨a0, a1, a2, a3, a4, a5⟩ := f
    refine wpAny_assign_Name (store_ok2 (v := V.ref L) I' hN hz (.inl hzl) rfl (fun s2 I2 ⟨c, sb, hcc⟩ => ?_) (.inr hzl))
    have apart : C ≠ c := by
      rcases hcc with w | w
      · rw [w]
        exact a1
      · exact fun e => a4 z c w e.symm
    exact ⟨m, hn.sameBut sb apart, fun h3 sb3 => ⟨_, H', I2.turned (t' := s2.toks) (fun b o hb e => (sb3.2 b hb).trans e) a0 a1 a3 a4 a5, q⟩⟩
  exact wpAny_bind (wpAny_standAt (wpAny_bind (wpAny_bind (thn run fun _ s' hq => wpAny_pure (wpAny_pure hq)))))
theorem g_lcS {wi : TI} {i : Nat} {te : L2.St → TE} {σ : L2.St} {H : Hp} {Q : VK} (q : tLc wi (gName i) tYes (te σ) [i] σ H Q) : tLcS wi i te σ H Q := q
end
theorem cr_maxTK {X : Cx} (K : PySem.W.Frag) (hc : X.calm = true) (hu : X.A.units + 64 < cLine) (h : X.K = K := by rfl) : CallR X (.builtin "max") (rMaxT K) := by subst h; exact cr_maxT hc hu
theorem cr_sumTK {X : Cx} (K : PySem.W.Frag) (hc : X.calm = true) (h : X.K = K := by rfl) : CallR X (.builtin "sum") (rSumT K) := by subst h; exact cr_sumT hc
theorem op_eqDK {X : Cx} (K : PySem.W.Frag) (hu : X.A.units + 64 < cLine) (h : X.K = K := by rfl) : OpR X (compareOp .Eq) (rEqD K) := by subst h; exact op_eqD hu
theorem op_neDK {X : Cx} (K : PySem.W.Frag) (hu : X.A.units + 64 < cLine) (h : X.K = K := by rfl) : OpR X (compareOp .NotEq) (rNeD K) := by subst h; exact op_neD hu
theorem c_list_ofK {X : Cx} (K : PySem.W.Frag) (h : X.K = K := by rfl) : CallR X (.type "list") (rListOf K) := by subst h; exact c_list_of
theorem c_tuple_ofK {X : Cx} (K : PySem.W.Frag) (h : X.K = K := by rfl) : CallR X (.type "tuple") (rTupD K) := by subst h; exact c_tuple_of
theorem op_catAK {X : Cx} (K : PySem.W.Frag) (h : X.K = K := by rfl) : OpR X (binaryOp .Add) (rCatA K) := by subst h; exact op_catA
theorem sl_tupAK {X : Cx} (K : PySem.W.Frag) (h : X.K = K := by rfl) : SlR X (rSlA K) := by subst h; exact sl_tupA
end G48
/-! errors of the text that have an own __init__: made, raised, told with their fields -/
namespace G48
open PySem PySem.Spec PyProof.Rows L2 Evl
/-! ### what the head tells of such a class -/
def oexB (K : PySem.W.Frag) (C : Addr) : Bool :=
  match K.lookup C with
  | some ⟨.type "type", _, .cls cd, sl⟩ => (match cd.mro, sl.toList with
    | .ref Cm :: below, [_, _, _, _, some (.builtin nid), _] => decide (Cm = C) && (decide (nid = "ValueError.__new__") && (!cd.hasDel && (cd.hasDict && HandSPX.refsVE below)))
    | _, _ => false)
  | _ => false
theorem oexB_ok {K : PySem.W.Frag} {C : Addr} (h : oexB K C = true) :
    ∃ nm q N bs bm sn sub ab col dd k0 k1 k2 k3 k5, K.lookup C = some (excClassObj nm q C N bs bm true sn sub ab col dd k0 k1 k2 k3 k5 "ValueError.__new__") ∧ HandSPX.refsVE bm = true := by
  unfold oexB at h
  split at h
  · rename_i dd cd sl hl
    split at h
    · rename_i Cm below z0 z1 z2 z3 nid z5 em es
      obtain ⟨a1, h⟩ := He.ba h
      obtain ⟨a2, h⟩ := He.ba h
      obtain ⟨a3, h⟩ := He.ba h
      obtain ⟨a4, a5⟩ := He.ba h
      have a1 := of_decide_eq_true a1
      have a2 := of_decide_eq_true a2
      obtain ⟨cn, cb, cm, cs, cq, ch, c7, c8, c9, c10, c11⟩ := cd
      have em : cm = _ := em
      have a3 : (!c11) = true := a3
      have a4 : ch = true := a4
      obtain ⟨sl⟩ := sl
      have es : sl = _ := es
      subst em es a1 a2 a4
      cases c11 with
      | true => cases a3
      | false => exact ⟨_, _, _, _, _, _, _, _, _, _, _, _, _, _, _, hl, a5⟩
    · cases h
  · cases h
/-- a class of errors with fields: j its place among the names -/
structure ErrC (K : PySem.W.Frag) (D : Addr) (j : Nat) (fs : List Str) : Prop where
  ox : OexC K D
  c : ExcC K D
  is_ : ∀ i, i < 7 → PySem.W.kitOne K (.ref D) (.ref (He.ga K (exNm i))) = some (decide (i = j))
  ve : PySem.W.kitOne K (.ref D) (.type "ValueError") = some true
  re : PySem.W.exmOne K (.ref D) (.ref (He.ga K "ReadingError")) = some true
  no : ∀ f ∈ fs, PySem.W.findIn K (.ref D) f = some none
def errB (K : PySem.W.Frag) (D : Addr) (j : Nat) (fs : List Str) : Bool := oexB K D && (He.eqO (PySem.W.findIn K (.ref D) "__setattr__") (some (some (.builtin "object.__setattr__"))) && (PySem.W.keepIn K (.ref D) && (decide (PySem.W.typeIn K (.ref D) = some (.type "type")) && (excCB K D &&
  ((List.range 7).all (fun i => decide (PySem.W.kitOne K (.ref D) (.ref (He.ga K (exNm i))) = some (decide (i = j)))) && (decide (PySem.W.kitOne K (.ref D) (.type "ValueError") = some true) && (decide (PySem.W.exmOne K (.ref D) (.ref (He.ga K "ReadingError")) = some true) && fs.all fun f => He.eqO (PySem.W.findIn K (.ref D) f) (some none))))))))
theorem err_ok {K : PySem.W.Frag} {D : Addr} {j : Nat} {fs : List Str} (h : errB K D j fs = true) : ErrC K D j fs := by
  obtain ⟨b1, h⟩ := He.ba h
  obtain ⟨b2, h⟩ := He.ba h
  obtain ⟨b3, h⟩ := He.ba h
  obtain ⟨b4, h⟩ := He.ba h
  obtain ⟨b5, h⟩ := He.ba h
  obtain ⟨b6, h⟩ := He.ba h
  obtain ⟨b7, h⟩ := He.ba h
  obtain ⟨b8, b9⟩ := He.ba h
  have c := excC_ok b5
  exact ⟨⟨oexB_ok b1, He.eqO_ok b2, c.hs, of_decide_eq_true b4, b3⟩, c, fun i hi => of_decide_eq_true (List.all_eq_true.mp b6 i (List.mem_range.mpr hi)), of_decide_eq_true b7, of_decide_eq_true b8, fun f hf => He.eqO_ok (List.all_eq_true.mp b9 f hf)⟩
/-! ### an own __init__ that keeps a promise -/
structure Ef (P : Program) (w : World) (K : PySem.W.Frag) (mg : Str → Option Value) (base : Heap) (x : Str) (C : Addr) (k : Nat) (ps : List Str) (sp : Sp) : Prop where
  ex : ∃ f fd, Meth K C "__init__" f ∧ mg x = some (.ref C) ∧ Binds K fd ps [] ∧ FnOk P w K mg base (L2.CX P w) k f fd ps sp
section
variable {P : Program} {w : World} {K : PySem.W.Frag} {mg : Str → Option Value} {base : Heap}
theorem Ef.of {C : Addr} {x q : Str} {st : Stmt} {N ps : List Str} {k : Nat} {sp : Sp} (G : CFun K C "__init__" q st) (hm : mg x = some (.ref C)) (S : FnScope N ps (defScope st)) (hb : BindL q "__init__" st ps)
    (len : ∀ vs H Q E, sp vs H Q E → vs.length = ps.length) (body : ∀ f, Body P w K mg base q N st f k sp) : Ef P w K mg base x C (k + 1) ps sp := by
  obtain ⟨f, fd, hg, F⟩ := G.ex
  exact ⟨f, fd, hg, hm, F.binds hb, F.okX S len (body f)⟩
end
section
variable {X : Cx} {k j : Nat} {x : Str} {ps : List Str} {sp : Sp} {p pos pos' apos : Pos} {e : Expr} {es : List Expr} {ta : TA} {te : TE} {C : Addr} {W : WX}
/-- raise C(e, ..) -/
theorem psr_err (T : OexC X.K C) (D : Ef X.prog X.w X.K X.mg X.base x C k ps sp) (hr : Room j X.A) (ha : PA X (e :: es) ta) (hc : X.calm = true) (tk : Takes X W) (hk : k + 1 ≤ j := by decide) (hg : Gl X x := by rfl) (hdb : (x == ("__debug__" : Str)) = false := by decide)
    (he : starEach (e :: es) X.env = (false, eval e X.env) :: starEach es X.env := by rfl) (hpl : (backTo pos (starEach es X.env)).any (·.1) = false := by rfl) :
    PS X (.Raise (some (.Call (.Name x p) (e :: es) [] pos)) none pos') (fun _ σ H => tMkO C sp [] ta σ H fun cls d H' => W cls d σ H') := by
  obtain ⟨f, fd, M, hm, b, F⟩ := D.ex
  exact ps_raise hc tk (pmk_oex T M.at_ (beq_iff_eq.mp M.fn) F (hr.mono hk) b .nil (passL (X := X)) hg hm ha hdb he hpl)
/-- ReadingError.__init__(self, e), ReadingError an own class over ValueError -/
structure RinC (K : PySem.W.Frag) (C : Addr) : Prop where
  ga : PySem.W.specialIn K (.ref C) "__getattribute__" = some (some (.builtin "type.__getattribute__"))
  ty : ∃ mc, PySem.W.typeIn K (.ref C) = some mc ∧ PySem.W.readsIn K C mc = true ∧ PySem.W.findCls K (.ref C) mc "__init__" = some (.val (.builtin "ValueError.__init__"))
def rinB (K : PySem.W.Frag) (C : Addr) : Bool := He.eqO (PySem.W.specialIn K (.ref C) "__getattribute__") (some (some (.builtin "type.__getattribute__"))) && (match PySem.W.typeIn K (.ref C) with
  | some mc => PySem.W.readsIn K C mc && (match PySem.W.findCls K (.ref C) mc "__init__" with
    | some (.val (.builtin n)) => decide (n = "ValueError.__init__")
    | _ => false)
  | none => false)
theorem rin_ok {K : PySem.W.Frag} {C : Addr} (h : rinB K C = true) : RinC K C := by
  obtain ⟨b1, h⟩ := He.ba h
  refine ⟨He.eqO_ok b1, ?_⟩
  split at h
  · rename_i mc hm
    obtain ⟨b2, h⟩ := He.ba h
    refine ⟨mc, hm, b2, ?_⟩
    split at h
    · rename_i n hn
      rw [hn, of_decide_eq_true h]
    · cases h
  · cases h
theorem pe_rinit {CR : Addr} {y : Str} {p1 p2 : Pos} {pl : Sem Bool} (RN : RinC X.K CR) (gR : X.mg y = some (.ref CR)) (ha : PA X (e :: es) ta) (hg : Gl X y := by rfl) (hdb : (y == ("__debug__" : Str)) = false := by decide)
    (hc : eval (.Call (.Attribute (.Name y p1) "__init__" p2) (e :: es) [] pos) X.env = (do
      let ov ← eval (.Name y p1) X.env
      standAt p2.atName
      let (f, first) ← holding [ov] (getMethod ov "__init__" pl)
      callWith pos f first (backTo pos (starEach (e :: es) X.env)) (backToKw pos (keywordEach [] X.env))) := by rfl)
    (he : starEach (e :: es) X.env = (false, eval e X.env) :: starEach es X.env := by rfl) (hpl : (backTo pos (starEach es X.env)).any (·.1) = false := by rfl) :
    PE X (.Call (.Attribute (.Name y p1) "__init__" p2) (e :: es) [] pos) (tVeI X.K ta) := by
  obtain ⟨mc, hmc, hrd, hfc⟩ := RN.ty
  refine ⟨fun pins s σ H Q I hq => ?_⟩
  refine PySem.W.methodCall_KW (ld_glob I hg gR ?_ hdb) hc
  refine PySem.W.method_cls I.kIn RN.ga (PySem.W.cls_value I.kIn hrd hfc rfl ?_)
  show wpAny _ _ (callWith pos (.builtin "ValueError.__init__") [] (backTo pos (starEach (e :: es) X.env)) []) _ _ _
  refine PyProof.Rows.callWith_method1 (thn (ha.run pos pins _ σ H _ (I.tok _) hq) fun ws s' got => ?_) he hpl
  obtain ⟨vs, G, J, rs, a, C, ys, rfl, hlen, T, ex, q⟩ := got
  cases rs with
  | @cons _ w0 _ wr r0 r1 =>
    cases r0
    exact oinit_ok T J ex (by rw [← Paired.length r1, sizeLine_eq]; omega) fun s'' L => ⟨.non, G, L, rfl, q⟩
end
/-! ### such an error that a suite holds -/
section
variable {X : Cx} {a : Addr} {oe : Obj} {pn : List (Addr × Obj)} {cls : Value} {d : Option Addr} {body : List Stmt}
theorem pss_err {t : Addr → TS} (hz : Zc cls d oe) (h : ∀ Dc, Zc (.ref Dc) d oe → ExcC X.K Dc → PSs (X.suite a ((a, oe) :: pn)) body (t Dc)) :
    PSs (X.suite a ((a, oe) :: pn)) body (fun D σ H => ∃ Dc, cls = .ref Dc ∧ ExcC X.K Dc ∧ t Dc D σ H) := by
  refine ⟨fun pins s σ H D I hh => ?_⟩
  obtain ⟨Dc, e1, hC, q⟩ := hh
  subst e1
  exact (h Dc hz hC).run pins s σ H D I q
/-- the dict of the error: none, or one with fields -/
def DicA (H : Hp) (d : Option Addr) : Prop := d = none ∨ ∃ dd fs, d = some dd ∧ H dd = some (.xd fs)
theorem excAt {pins : List (Addr × Obj)} {σ : L2.St} {H : Hp} {s : Shared} {Dc : Addr} (I : Inv (X.suite a ((a, oe) :: pn)) pins σ H s) (hz : Zc (.ref Dc) d oe) (hf : ∃ vs, oe.data = .fields vs) (hd : DicA H d) :
    ∃ od, PySem.W.InstAt s.heap a oe Dc od ∧ ∀ dd fs, d = some dd → H dd = some (.xd fs) → ∃ mA o, s.heap.Ns1 dd mA ∧ (∀ f, RelO (fs.lookup f) (mA f)) ∧ od = some o ∧ s.heap.get? dd = some o := by
  obtain ⟨here, _⟩ := I.pin (a, oe) (List.mem_append_left _ List.mem_cons_self)
  obtain ⟨vs, hv⟩ := hf
  have hnc : PySem.W.notCls oe = true := by
    unfold PySem.W.notCls
    rw [hv]
  rcases hd with rfl | ⟨dd, fs, rfl, hx⟩
  · exact ⟨none, ⟨here, hz.1, hnc, by rw [hz.2]; trivial⟩, fun _ _ z => by cases z⟩
  · obtain ⟨mA, hns, rel⟩ : ∃ mA, s.heap.Ns1 dd mA ∧ ∀ f, RelO (fs.lookup f) (mA f) := I.hok dd _ hx
    obtain ⟨o, ho, _⟩ := lookIn_ns hns
    refine ⟨some o, ⟨here, hz.1, hnc, by rw [hz.2]; exact ho⟩, fun dd' fs' e1 e2 => ?_⟩
    cases e1
    rw [hx] at e2
    cases e2
    exact ⟨mA, o, hns, rel, rfl, ho⟩
/-- isinstance(e, c) -/
def rIsX (K : PySem.W.Frag) (Dc : Addr) (d : Option Addr) (a : Addr) : List V → Hp → VK → Prop := fun xs H Q => DicA H d ∧ rIsE K Dc a xs H Q
theorem call_isX {Dc : Addr} (C : ExcC X.K Dc) (hz : Zc (.ref Dc) d oe) (hf : ∃ vs, oe.data = .fields vs) : CallR (X.suite a ((a, oe) :: pn)) (.builtin "isinstance") (rIsX X.K Dc d a) := by
  intro pins s σ H xs us Q I r h
  obtain ⟨hd, c, cv, b, rfl, hcv, hk, q⟩ := h
  obtain ⟨od, J, _⟩ := excAt I hz hf hd
  cases r with
  | cons rx rr =>
    cases rr with
    | cons rt rr =>
      cases rr
      cases rx
      obtain rfl := hcv _ rt
      have hcl : (PySem.W.clsIn X.K Dc).isSome = true := by
        obtain ⟨cd, z, _⟩ := PySem.W.any_some C.hd
        rw [z]
        rfl
      exact PySem.W.kia_one (PySem.W.kitx_exc hcl C.hg C.hk C.hs C.ha C.hn C.ht C.hm) I.kIn J hk (fun z => nomatch z) fun tk => ⟨.bl b, H, I.kept (t' := tk) fun _ _ z => z, rfl, q⟩
/-- e.f -/
def tErrF (K : PySem.W.Frag) (Dc : Addr) (a : Addr) (d : Option Addr) (f : Str) (te : TE) : TE := fun σ H Q => te σ H fun x H1 => x = .ref a ∧ PySem.W.findIn K (.ref Dc) f = some none ∧ ∃ dd fs v, d = some dd ∧ H1 dd = some (.xd fs) ∧ fs.lookup f = some v ∧ Q v H1
theorem pe_errF {Dc : Addr} {e : Expr} {te : TE} {pos : Pos} {f : Str} (C : ExcC X.K Dc) (hz : Zc (.ref Dc) d oe) (hf : ∃ vs, oe.data = .fields vs) (he : PE (X.suite a ((a, oe) :: pn)) e te) (hb : attributeBase e f X.env (eval e X.env) = eval e X.env := by rfl) :
    PE (X.suite a ((a, oe) :: pn)) (.Attribute e f pos) (tErrF X.K Dc a d f te) := by
  refine ⟨fun pins s σ H Q I hq => ?_⟩
  refine attr_of hb (thn (he.run pins s σ H _ I hq) fun u s' got => ?_)
  obtain ⟨x, G, L, rx, rfl, hno, dd, fs, v, rfl, hx, hl, q⟩ := got
  cases rx
  obtain ⟨od, J, more⟩ := excAt L hz hf (.inr ⟨dd, fs, rfl, hx⟩)
  obtain ⟨mA, o, hns, rel, rfl, ho⟩ := more dd fs rfl hx
  obtain ⟨o', ho', hlk⟩ := lookIn_ns hns
  rw [ho] at ho'
  obtain rfl := Option.some.inj ho'
  obtain ⟨w, hw, rw_⟩ := RelO.some_of (v := v) (o := mA f) (by rw [← hl]; exact rel f)
  exact HandSPX.exc_get L.kIn J C.hg C.hk C.hs (PySem.W.findObj_own C.hd hno rfl (by rw [hlk, hw])) (handed_of rw_) ⟨v, G, L.tok _, rw_, q⟩
end
end G48
/-! match of a sequence of two names, a guard, then anything: values of any shape -/
namespace G48
open PySem PySem.Spec PyProof.Rows L2 Evl
section
variable {prog : Program} {w : World} {A : Around} {E : Value → Shared → Prop} {s : Shared}
theorem draw2L {it l : Addr} {u1 u2 : Value} {Q : List Value → Shared → Prop} (hne : l ≠ it) (hit : s.heap.IsListIter it l 0) (hl : s.heap.IsList l [u1, u2].toArray)
    (hQ : ∀ h', h'.IsListIter it l 2 → Heap.SameBut it s.heap h' → Q [u1, u2] { s with heap := h' }) : wpAny (model prog w) A (draw (.ref it) 2) Q E s := by
  show wpAny _ _ (pyNext (.ref it) >>= _) Q E s
  refine wpAny_bind (wpAny_pyNext_list_item hit hl (x := u1) rfl fun g1 i1 b1 => ?_)
  refine wpAny_bind (wpAny_holding ?_)
  show wpAny _ _ (pyNext (.ref it) >>= _) _ E _
  refine wpAny_bind (wpAny_pyNext_list_item (i := 1) i1 (hl.extBut b1.extBut hne) (x := u2) rfl fun g2 i2 b2 => ?_)
  refine wpAny_bind (wpAny_holding (wpAny_pure (wpAny_pure (wpAny_pure ?_))))
  exact hQ g2 i2 (b1.trans b2)
theorem unpack2L {a : Addr} {u1 u2 : Value} {Q : List Value → Shared → Prop} (hh : A.handled = none) (hl : s.heap.IsList a [u1, u2].toArray)
    (h : ∀ h', Heap.ExtBut s.heap.objs.size s.heap h' → Q [u1, u2] { s with heap := h' }) : wpAny (model prog w) A (unpackItems (.ref a) 2 none) Q E s := by
  have hlt : a ≠ s.heap.objs.size := by obtain ⟨o, ho, _⟩ := hl; exact Nat.ne_of_lt (Heap.lt_size ho)
  unfold unpackItems
  refine wpAny_bind ?_
  unfold notIterableAtAll
  refine wpAny_bind (wpAny_specialOf hl.typeIs slot_list_iter.lookup (wpAny_pure ?_))
  simp only [Bool.false_eq_true, if_false]
  refine wpAny_bind (wpAny_holding (wpAny_pyIter_list hl ?_))
  refine wpAny_bind (wpAny_holding (draw2L hlt ⟨_, Heap.get?_push_size _ rfl, rfl, rfl⟩ (hl.push _) fun g i b => ?_))
  rw [if_neg (by simp)]
  refine wpAny_bind (wpAny_holding (wpAny_pyNext_list_end hh i ((hl.push _).extBut b.extBut hlt) (by simp) fun g2 e2 => ?_))
  simp only [Option.isSome_none, Bool.false_eq_true, if_false]
  exact wpAny_pure (h g2 fun c o hc e => e2 c o hc (b.extBut c o hc (Heap.get?_push_of_some _ e)))
end
/-- match e: case [x, y] if g: .. case _: .. -/
def sM2X (K : PySem.W.Frag) (te : TE) (i j : Nat) (tt : TT) (t1 t2 : TS) : TS := fun D σ H => te σ H fun x H1 =>
  (∃ a v w, x = .ref a ∧ (SqT K H1 a [v, w] ∨ SqL K H1 a [v, w]) ∧ tt ((σ.set i (some v)).set j (some w)) H1 (kIfS t1 t2 D ((σ.set i (some v)).set j (some w)))) ∨
  ((x = .non ∨ ∃ a xs, x = .ref a ∧ SqT K H1 a xs ∧ xs.length ≠ 2 ∧ xs.length ≤ 1000) ∧ t2 D σ H1)
theorem ps_match2X {X : Cx} {i j : Nat} {x1 x2 : Str} {e g : Expr} {b1 b2 : List Stmt} {te : TE} {tt : TT} {t1 t2 : TS} {p1 p2 p3 p4 pos : Pos} (hc : X.calm = true) (hN : X.N.Nodup) (hi : X.N[i]? = some x1) (hj : X.N[j]? = some x2) (hx : Loc X.env.scope x1) (hy : Loc X.env.scope x2)
    (he : PE X e te) (hg : PT X g tt) (h1 : PSs X b1 t1) (h2 : PSs X b2 t2) (hf1 : X.fn x1 = true ∨ X.env.scope.names.lookup x1 = some .local := by first | exact .inl rfl | exact .inr rfl) (hf2 : X.fn x2 = true ∨ X.env.scope.names.lookup x2 = some .local := by first | exact .inl rfl | exact .inr rfl) :
    PS X (.Match e [⟨.MatchSequence [.MatchAs none (some x1) p1, .MatchAs none (some x2) p2] p3, some g, b1⟩, ⟨.MatchAs none none p4, none, b2⟩] pos) (sM2X X.K te i j tt t1 t2) := by
  refine ⟨fun pins s σ H D I h => ?_⟩
  refine wpAny_Match (thn (he.run pins s σ H _ I h) fun u s1 ⟨x, H1, I1, r1, hh⟩ => ?_)
  rcases hh with ⟨a, v, w, rfl, hq, q⟩ | ⟨hm, q⟩
  · cases r1
    rcases hq with hq | hq
    · obtain ⟨its, rv, ht, hz⟩ := I1.tuple hq
      cases rv with
      | cons rv1 rr =>
      cases rr with
      | cons rv2 rn =>
      cases rn
      refine wpAny_matchCases_cons (matchSeq_tuple_hit (show s1.heap.IsTuple a _ from ht) (by simp) rfl ?_)
      refine unpack2 (I1.ok.hd hc) (a := a) (s := { s1 with toks := s1.toks + 1 + 1 }) ht fun h' hx' => ?_
      have I2 : Inv X pins σ H1 { s1 with heap := h', toks := s1.toks + 1 + 1 } := I1.kept (t' := s1.toks + 1 + 1) fun b o e => hx' b o (Nat.ne_of_lt (Heap.lt_size e)) e
      refine wpAny_matchEach_cons (wpAny_matchPattern_Capture (wpAny_matchEach_cons (wpAny_matchPattern_Capture (wpAny_matchEach_nil ?_))))
      refine wpAny_assignInOrder_more (wpAny_bindName (store_ok I2 hN hi hx rv1 (fun s3 I3 => ?_) hf1))
      refine wpAny_assignInOrder_more (wpAny_bindName (store_ok I3 hN hj hy rv2 (fun s4 I4 => ?_) hf2))
      refine wpAny_assignInOrder_none ?_
      refine thn (hg.run pins s4 _ H1 _ I4 q) fun c s5 ⟨H5, I5, q5⟩ => ?_
      cases c with
      | true => exact h1.run pins s5 _ H5 D I5 q5
      | false =>
        refine wpAny_matchCases_cons (wpAny_matchPattern_Capture (wpAny_assignInOrder_none ?_))
        exact h2.run pins s5 _ H5 D I5 q5
    · obtain ⟨its, rv, hpl, hz⟩ := I1.list hq
      cases rv with
      | cons rv1 rr =>
      cases rr with
      | cons rv2 rn =>
      cases rn
      obtain ⟨ol, nl, g1, g2, g3, g4⟩ := hpl
      refine wpAny_matchCases_cons (matchSeq_list_hit ⟨ol, g1, g2, nl, g4⟩ (by simp) rfl ?_)
      refine unpack2L (I1.ok.hd hc) (a := a) (s := { s1 with toks := s1.toks + 1 + 1 }) ⟨ol, g1, g2, nl, g4⟩ fun h' hx' => ?_
      have I2 : Inv X pins σ H1 { s1 with heap := h', toks := s1.toks + 1 + 1 } := I1.kept (t' := s1.toks + 1 + 1) fun b o e => hx' b o (Nat.ne_of_lt (Heap.lt_size e)) e
      refine wpAny_matchEach_cons (wpAny_matchPattern_Capture (wpAny_matchEach_cons (wpAny_matchPattern_Capture (wpAny_matchEach_nil ?_))))
      refine wpAny_assignInOrder_more (wpAny_bindName (store_ok I2 hN hi hx rv1 (fun s3 I3 => ?_) hf1))
      refine wpAny_assignInOrder_more (wpAny_bindName (store_ok I3 hN hj hy rv2 (fun s4 I4 => ?_) hf2))
      refine wpAny_assignInOrder_none ?_
      refine thn (hg.run pins s4 _ H1 _ I4 q) fun c s5 ⟨H5, I5, q5⟩ => ?_
      cases c with
      | true => exact h1.run pins s5 _ H5 D I5 q5
      | false =>
        refine wpAny_matchCases_cons (wpAny_matchPattern_Capture (wpAny_assignInOrder_none ?_))
        exact h2.run pins s5 _ H5 D I5 q5
  · rcases hm with rfl | ⟨a, xs, rfl, hq, hne, hle⟩
    · cases r1
      refine wpAny_matchCases_cons (wpAny_matchPattern_Sequence (wpAny_collectionFlag (T := "NoneType") (b := false) (typeIs_none _) flag_seq_None ?_))
      refine wpAny_matchCases_cons (wpAny_matchPattern_Capture (wpAny_assignInOrder_none ?_))
      exact h2.run pins s1 _ H1 D I1 q
    · cases r1
      obtain ⟨its, rv, ht, hz⟩ := I1.tuple hq
      have hl := rv.length
      refine wpAny_matchCases_cons (matchSeq_tuple_miss (show s1.heap.IsTuple a _ from ht) (by simp; omega) (by simp; omega) ?_)
      refine wpAny_matchCases_cons (wpAny_matchPattern_Capture (wpAny_assignInOrder_none ?_))
      exact h2.run pins _ _ H1 D (I1.kept (t' := s1.toks + 1 + 1) fun _ _ z => z) q
end G48
namespace G48
open PySem PySem.Spec PyProof.Rows L2 Evl
open LamX (TabB)
/-! ### the end of a law that makes lambdas in several defs: all their tables are empty at the start -/
def startHs (K : PySem.W.Frag) (ts : List Addr) (a : Addr) (o : Obj) (xs : List V) : Hp := fun b => if b ∈ ts then some (.tbl #[]) else if b = a ∧ (K.lookup a).isNone = true then some (.frz o (.lst xs)) else none
section
variable {P : Program} {w : World} {K : PySem.W.Frag} {mg mb : Str → Option Value} {k : Nat} {fa a : Addr} {ts : List (Addr × Addr)} {fd : FuncData} {x : Str} {sp : Sp} {s : Shared} {vs : List Value} {ns : List Int}
theorem law_lams (KX : K.In s.heap) (hG : s.heap.Ns mainGlobals mg) (hB : s.heap.Ns builtinsNs mb) (hbb : ∀ x : Str, x ≠ "__name__" → mb x = bootBuiltins x) (hlim : s.heap.NoLimit) (hg : s.gens = #[])
    (hT : ∀ p ∈ ts, s.heap.get? p.2 = some { cls := .none, data := .fields #[] }) (nT : ∀ p ∈ ts, K.lookup p.2 = none) (C : ∀ p ∈ ts, PySem.W.CodeHd s.heap p.1 p.2)
    (hbm : ∃ (bm : Addr) (ob : Obj), mg "__builtins__" = some (.ref bm) ∧ bm ≠ builtinsNs ∧ s.heap.get? bm = some ob ∧ ob.cls = .type "module" ∧ ob.dict = some builtinsNs ∧ ob.data = .plain)
    (ha : s.heap.get? a = some { cls := .type "list", data := .seq vs.toArray }) (hi : IntsAre vs ns) (hl : ns.length ≤ sizeLine) (hr : Room k callerA)
    (F : ∀ base : Heap, K.In base → base.Ns mainGlobals mg → (∀ p ∈ ts, TabB base mg p.1 p.2) → FnOk P w K mg base L2.CX0 k fa fd [x] sp) (hbind : ∀ (s : Shared) (u : Value), BindsTo s fd ⟨[u], []⟩ [(x, u)])
    (hsp : ∀ H : Hp, (∀ p ∈ ts, H p.2 = some (.tbl #[])) → ScrF K H a (ns.map V.int) → sp [.ref a] H (fun v _ => v = .bl true) fun _ _ _ => False) :
    codeAny (model P w) callerA (.call (.ref fa) ⟨[.ref a], []⟩) (fun r s' => r = .ok (.ret (.bool true)) ∧ OldK s.heap s'.heap ∧ s'.os = s.os ∧ AllBare s'.gens) s := by
  have rv := vals_ints hi
  have lenV := hi.length
  have hl' : (ns.map V.int).length ≤ sizeLine := by rw [List.length_map]; exact hl
  have hTm : ∀ T ∈ ts.map (·.2), s.heap.get? T = some { cls := .none, data := .fields #[] } ∧ K.lookup T = none := fun T hm => by
    obtain ⟨p, hp, rfl⟩ := List.mem_map.mp hm
    exact ⟨hT p hp, nT p hp⟩
  have neq : a ∉ ts.map (·.2) := fun z => by
    rw [(hTm a z).1] at ha
    cases ha
  obtain ⟨H0, eH⟩ : ∃ H0 : Hp, startHs K (ts.map (·.2)) a { cls := .type "list", data := .seq vs.toArray } (ns.map V.int) = H0 := ⟨_, rfl⟩
  have atT : ∀ p ∈ ts, H0 p.2 = some (.tbl #[]) := fun p hp => by
    rw [← eH]
    exact if_pos (List.mem_map.mpr ⟨p, hp, rfl⟩)
  have atA : K.lookup a = none → H0 a = some (.frz { cls := .type "list", data := .seq vs.toArray } (.lst (ns.map V.int))) := fun z => by
    rw [← eH]
    exact (if_neg neq).trans (if_pos ⟨rfl, by rw [z]; rfl⟩)
  have only : ∀ b u, H0 b = some u → (b ∈ ts.map (·.2) ∧ u = .tbl #[]) ∨ (b = a ∧ K.lookup a = none ∧ u = .frz { cls := .type "list", data := .seq vs.toArray } (.lst (ns.map V.int))) := fun b u z => by
    rw [← eH] at z
    unfold startHs at z
    by_cases h1 : b ∈ ts.map (·.2)
    · rw [if_pos h1] at z
      exact .inl ⟨h1, (Option.some.inj z).symm⟩
    · rw [if_neg h1] at z
      by_cases h2 : b = a ∧ (K.lookup a).isNone = true
      · rw [if_pos h2] at z
        exact .inr ⟨h2.1, by simpa using h2.2, (Option.some.inj z).symm⟩
      · rw [if_neg h2] at z
        cases z
  have scr : ScrF K H0 a (ns.map V.int) := by
    cases hk : K.lookup a with
    | none => exact .inl ⟨_, atA hk⟩
    | some o =>
      have e := KX a o hk
      rw [ha] at e
      cases e
      exact .inr ⟨_, vs.toArray, _, hk, rfl, rfl, rfl, by rw [List.size_toArray, lenV]; exact hl, by simpa using rv⟩
  have hok : HOk P w H0 s.heap := fun b u z => by
    rcases only b u z with ⟨hb, rfl⟩ | ⟨rfl, _, rfl⟩
    · exact (hTm b hb).1
    · exact ⟨ha, hl', vs, _, rv, ha⟩
  have clear : ∀ {b : Addr} {o : Obj}, s.heap.get? b = some o → (∀ us n, o.data ≠ .seq us n) → o.data ≠ .fields #[] → H0 b = none := fun {b o} e d1 d2 => by
    cases z : H0 b with
    | none => rfl
    | some u =>
      rcases only b u z with ⟨hb, _⟩ | ⟨rfl, _, _⟩
      · rw [(hTm b hb).1] at e
        cases e
        exact absurd rfl d2
      · rw [ha] at e
        cases e
        exact absurd rfl (d1 _ _)
  have get : ∀ {b : Addr} {o : Obj}, s.heap.get? b = some o → H0 b = none → (hidT s.heap H0).get? b = some o := fun e n => hidT_get e n
  have nsUp : ∀ {b : Addr} {m : Str → Option Value}, s.heap.Ns b m → (hidT s.heap H0).Ns b m := fun {b m} ⟨o, es, ep, e, d, r⟩ => ⟨o, es, ep, get e (clear e (fun us n z => by rw [d] at z; cases z) fun z => by rw [d] at z; cases z), d, r⟩
  have kIn : K.In (hidT s.heap H0) := fun b o e => get (KX b o e) (by
    cases z : H0 b with
    | none => rfl
    | some u =>
      rcases only b u z with ⟨hb, _⟩ | ⟨rfl, n, _⟩
      · rw [(hTm b hb).2] at e; cases e
      · rw [n] at e; cases e)
  have md : L2.Mod K mg (hidT s.heap H0) := ⟨kIn, nsUp hG, ⟨mb, nsUp hB, hbb⟩, let ⟨mc, h1, h2⟩ := hlim; ⟨mc, nsUp h1, h2⟩⟩
  have tb : ∀ p ∈ ts, TabB (hidT s.heap H0) mg p.1 p.2 := fun p hp => by
    obtain ⟨o, us, file, tf, flags, tg, inF, text, tt, e1, r1, r2, r3, r4, r5, r6, r7, r8, hne⟩ := C p hp
    obtain ⟨bm, ob, b1, b2, b3, b4, b5, b6⟩ := hbm
    obtain ⟨og, es, ep, eg, dg, _⟩ := hG
    have ng : bm ≠ mainGlobals := fun q => by
      rw [q, eg] at b3
      cases b3
      rw [dg] at b6
      cases b6
    have nt : bm ≠ p.2 := fun q => by
      rw [q, hT p hp] at b3
      cases b3
      cases b6
    refine ⟨⟨o, us, file, tf, flags, tg, inF, text, tt, get e1 (clear e1 (fun us n z => ?_) fun z => ?_), r1, r2, r3, r4, r5, r6, r7, r8, hne⟩, ⟨bm, ob, b1, b2, ng, nt, get b3 (clear b3 (fun us n z => ?_) fun z => ?_), b4, b5, b6⟩, fun z => ?_⟩
    · rw [r2] at z
      cases z
    · rw [r2] at z
      cases z
      simp at r3
    · rw [b6] at z
      cases z
    · rw [b6] at z
      cases z
    · rw [z, hT p hp] at eg
      cases eg
      cases dg
  have e0 : Env0 P w K mg (hidT s.heap H0) callerA [] s H0 := ⟨rfl, md, fun b o e => of_hidT e, Nat.le_of_eq (hidT_size _ _), trivial, fun b z => absurd (show b ∈ ([] : List Addr) from z) (by simp), hok, .of_eq hg⟩
  refine codeAny_mono ((F _ kIn (nsUp hG) tb).run callerA [] s H0 ⟨[.ref a], []⟩ [.ref a] [.ref a] _ _ hr e0 (hbind s (.ref a)) (.cons rfl .nil) (hsp H0 atT scr)) fun r s' h => ?_
  cases r with
  | error e => exact False.elim h
  | ok fl =>
    cases fl with
    | next => exact False.elim h
    | brk => exact False.elim h
    | cont => exact False.elim h
    | ret u =>
      obtain ⟨v, H', os, bare, un, hok', r', rfl⟩ := h
      obtain rfl : u = Value.bool true := r'
      have kept : ∀ b o, b ∉ ts.map (·.2) → s.heap.get? b = some o → s'.heap.get? b = some o := fun b o nb e => by
        cases z : H0 b with
        | none => exact un.keep b o e z (fun z => absurd (show b ∈ ([] : List Addr) from z) (by simp)) (by simp)
        | some u =>
          rcases only b u z with ⟨q, _⟩ | ⟨rfl, n, rfl⟩
          · exact absurd q nb
          · obtain ⟨e2, _⟩ := hok' _ _ (un.frzs _ _ _ z)
            rw [ha] at e
            cases e
            exact e2
      have grown : ∀ b, b ∈ ts.map (·.2) → ∃ c more, (c, b) ∈ ts ∧ s'.heap.get? b = some { cls := .none, data := .fields (#[] ++ more) } := fun b hb => by
        obtain ⟨p, hp, rfl⟩ := List.mem_map.mp hb
        obtain ⟨more, hm⟩ := un.tbls p.2 #[] (atT p hp)
        exact ⟨p.1, more, hp, hok' p.2 _ hm⟩
      refine ⟨rfl, ⟨fun b o e => ?_, fun b o e => ?_⟩, os, bare⟩
      · by_cases hb : b ∈ ts.map (·.2)
        · obtain ⟨c, more, hp, hgr⟩ := grown b hb
          rw [(hTm b hb).1] at e
          cases e
          exact .inr (.inl ⟨((C _ hp).tab (hT _ hp)).isCodeTable, rfl, #[], more, rfl, hgr⟩)
        · exact .inl (kept b o hb e)
      · by_cases hb : b ∈ ts.map (·.2)
        · obtain ⟨c, more, hp, hgr⟩ := grown b hb
          exact ⟨_, hgr⟩
        · exact ⟨o, kept b o hb e⟩
/-- what is known of the law's promise at the head's heap h -/
def LawAtLs (l : PySem.W.OpenLaw) (w : World) (K : PySem.W.Frag) (k n : Nat) (x : Str) (mg : Str → Option Value) (fa : Addr) (h : Heap) : Prop :=
  ∃ (fd : FuncData) (ts : List (Addr × Addr)) (sp : Sp), (∀ p ∈ ts, h.get? p.2 = some { cls := .none, data := .fields #[] } ∧ K.lookup p.2 = none ∧ PySem.W.CodeHd h p.1 p.2) ∧ (∀ (s : Shared) (u : Value), BindsTo s fd ⟨[u], []⟩ [(x, u)]) ∧
    (∀ (H : Hp) (a : Addr) (ns : List Int), ns.length ≤ n → (∀ p ∈ ts, H p.2 = some (.tbl #[])) → ScrF K H a (ns.map V.int) → sp [.ref a] H (fun v _ => v = .bl true) fun _ _ _ => False) ∧
    ∀ base : Heap, K.In base → base.Ns mainGlobals mg → (∀ p ∈ ts, TabB base mg p.1 p.2) → FnOk l.prog w K mg base L2.CX0 k fa fd [x] sp
theorem walk_lams {l : PySem.W.OpenLaw} {n k : Nat} {q : Program} {loose : List Str} {XP : (Str → Option Value) → Heap → Prop} {YP : World → Heap → Prop} {d : DefRec} {x : Str}
    (hn : l.most = some n) (hn2 : n ≤ sizeLine) (hdf : d.params.defaults = []) (hr : Room k callerA)
    (F : ∀ (w : World) (mg : Str → Option Value) (fa : Addr) (h : Heap), YP w h → h.Ns mainGlobals mg → mg d.name = some (.ref fa) → ∃ K : PySem.W.Frag, K.In h ∧ LawAtLs l w K k n x mg fa h) :
    PySem.W.WalkO q loose XP YP l.row.toRowW d [] (fun f vs => PySem.call f vs) := by
  refine Att.attach_callB hn hdf fun w s₀ s₁ mg mb fa o pm cd doc a vs ns G Y ho hd hcd hmg hobj hints hlen hbits hg => ?_
  obtain ⟨K, KX, fd, ts, sp, hts, hb, hsp, hF⟩ := F w mg fa _ Y G.T.g hmg
  exact law_lams KX G.T.g G.T.b G.T.builtins G.T.nolimit hg (fun p hp => (hts p hp).1) (fun p hp => (hts p hp).2.1) (fun p hp => (hts p hp).2.2) G.T.bmain hobj hints (Nat.le_trans hlen hn2) hr hF hb fun H hH hS => hsp H a ns hlen hH hS
end
/-! ### the Hook: facts of the heap without empty tables, and the tables of these defs -/
def SaysLs (fas : List Gp.FB) (fn : List He5.DefA) (dfs : List He.Defn) (h : Heap) (K : PySem.W.Frag) : Prop := Gp.SaysP fas fn K ∧ ∀ d ∈ dfs, PySem.W.codeHdIn K (He.cT K d).1 (He.cT K d).2 = true ∧ K.lookup (He.cT K d).2 = none ∧ h.get? (He.cT K d).2 = some { cls := .none, data := .fields #[] }
def obsLs (n : Nat) (fas : List Gp.FB) (fn : List He5.DefA) (dfs : List He.Defn) (g : Addr → Option Obj) : AlL := (Gp.obsP fas fn (He.frT g (He5.asA g n)), He.tabsB g dfs (He.frT g (He5.asA g n)))
theorem saysLs_of {n : Nat} {fas : List Gp.FB} {fn : List He5.DefA} {dfs : List He.Defn} {h : Heap} (e : obsLs n fas fn dfs h.get? = (He5.valA fn, true)) : SaysLs fas fn dfs h (He.frT h.get? (He5.asA h.get? n)) := by
  have e1 : Gp.obsP fas fn (He.frT h.get? (He5.asA h.get? n)) = He5.valA fn := congrArg (fun z : AlL => z.1) e
  have e2 : He.tabsB h.get? dfs (He.frT h.get? (He5.asA h.get? n)) = true := congrArg (fun z : AlL => z.2) e
  refine ⟨e1, fun d hd => ?_⟩
  obtain ⟨h3, h4⟩ := He.ba (List.all_eq_true.mp e2 d hd)
  cases q : h.get? (He.cT (He.frT h.get? (He5.asA h.get? n)) d).2 with
  | none =>
    rw [q] at h4
    cases h4
  | some o =>
    rw [q] at h4
    exact ⟨h3, He.frT_none q h4, by rw [He.emptyTab_eq h4]⟩
def hookLs (n : Nat) (fas : List Gp.FB) (fn : List He5.DefA) (dfs : List He.Defn) : PySem.W.Hook where
  α := AlL
  obs := fun s => obsLs n fas fn dfs s.heap.get?
  val := fun _ => (He5.valA fn, true)
  says := fun _ h => ∃ K : PySem.W.Frag, K.In h ∧ SaysLs fas fn dfs h K
  of := fun _ _ e => ⟨_, He.frT_in, saysLs_of e⟩
  keeps := fun _ _ _ ⟨K, hK, c1, c2⟩ k => ⟨K, PySem.W.Frag.In.keeps hK k, c1, fun d hd => ⟨(c2 d hd).1, (c2 d hd).2.1, k _ _ (c2 d hd).2.2⟩⟩
theorem obsLs_eq {n : Nat} {fas : List Gp.FB} {fn : List He5.DefA} {dfs : List He.Defn} {g : Addr → Option Obj} {s : Shared} (h : ∀ a, g a = s.heap.get? a) : obsLs n fas fn dfs g = (hookLs n fas fn dfs).obs s := by
  have e : g = s.heap.get? := funext h
  rw [e] <;> rfl
/-! ### a def below the law whose own text makes lambdas -/
abbrev BodyTd (P : Program) (w : World) (K : PySem.W.Frag) (mg : Str → Option Value) (base : Heap) (x : Str) (N : List Str) (st : Stmt) (k : Nat) (sp : Sp) : Prop :=
  ∀ (f : Addr) (A : Around) (outer : List Env) (s : Shared) (H : Hp) (vs : List V) (Q : VK) (E : XK), TabB base mg (He.cT K (x, none)).1 (He.cT K (x, none)).2 → Room k (A.deeper (envOfC x (defScope st) s.heap.objs.size f (.ref (He.cT K (x, none)).1))) → sp vs H Q E →
      ∃ t, PSs (cxOf (L2.CX P w) P w K mg base N x (defScope st) f (.ref (He.cT K (x, none)).1) A outer s H E) (defBody st) t ∧ t { nx := fun _ H' => Q .non H', rt := Q } (start N vs) H
theorem Df.lam {P : Program} {w : World} {K : PySem.W.Frag} {mg : Str → Option Value} {base : Heap} {x : Str} {st : Stmt} {fd : FuncData} {N ps : List Str} {k : Nat} {sp : Sp} (hm : mg x = some (.ref (He.ga K x))) (F : Fun K x x st (He.ga K x) fd) (S : FnScope N ps (defScope st)) (hb : BindL x x st ps)
    (len : ∀ vs H Q E, sp vs H Q E → vs.length = ps.length) (body : BodyTd P w K mg base x N st k sp) (TB : TabB base mg (He.cT K (x, none)).1 (He.cT K (x, none)).2) : Df P w K mg base (k + 1) x ps sp := by
  refine ⟨_, fd, hm, F.kp, F.binds hb, ?_⟩
  obtain ⟨oc, od, kV, doc, pm, an, cdv, ct, osl, rfl, lk, hcd⟩ := F.ex
  obtain ⟨c0, rfl⟩ := He.codeIn_ref hcd
  have e : He.codeOf K (x, none) = c0 := He.codeOf_eq (p := (x, none)) lk rfl
  subst e
  exact fn_of lk hcd S len fun A outer s H vs Q E hr hsp => body _ A outer s H vs Q E TB hr hsp
/-! ### two tables, told side by side -/
abbrev tabOf (K : PySem.W.Frag) (x : Str) : Addr × Str := ((He.cT K (x, none)).2, (x ++ ".<locals>.") ++ "<lambda>")
abbrev twoTs (K : PySem.W.Frag) (x y : Str) : List (Addr × Str) := [tabOf K x, tabOf K y]
section
variable {K : PySem.W.Frag} {x y : Str} {H : Hp}
theorem two_m1 : ((He.cT K (x, none)).2, ((x ++ ".<locals>.") ++ "<lambda>" : Str)) ∈ twoTs K x y := List.mem_cons_self
theorem two_m2 : ((He.cT K (y, none)).2, ((y ++ ".<locals>.") ++ "<lambda>" : Str)) ∈ twoTs K x y := List.mem_cons_of_mem _ List.mem_cons_self
theorem two_u1 (ne : (He.cT K (x, none)).2 ≠ (He.cT K (y, none)).2) : ∀ p ∈ twoTs K x y, p.1 = (He.cT K (x, none)).2 → p.2 = ((x ++ ".<locals>.") ++ "<lambda>" : Str) := fun p hp e => by
  rcases List.mem_cons.mp hp with rfl | hp
  · rfl
  · rw [List.mem_singleton.mp hp] at e
    exact absurd e.symm ne
theorem two_u2 (ne : (He.cT K (x, none)).2 ≠ (He.cT K (y, none)).2) : ∀ p ∈ twoTs K x y, p.1 = (He.cT K (y, none)).2 → p.2 = ((y ++ ".<locals>.") ++ "<lambda>" : Str) := fun p hp e => by
  rcases List.mem_cons.mp hp with rfl | hp
  · exact absurd e ne
  · rw [List.mem_singleton.mp hp]
theorem twoTs_0 (h1 : H (He.cT K (x, none)).2 = some (.tbl #[])) (h2 : H (He.cT K (y, none)).2 = some (.tbl #[])) : LamX.Tabs (twoTs K x y) H := fun p hp => by
  rcases List.mem_cons.mp hp with rfl | hp
  · exact LamX.TabS.nil h1
  · rw [List.mem_singleton.mp hp]
    exact LamX.TabS.nil h2
end
/-! ### a tuple times an int of at least one -/
theorem tuple_mulW1 (l : Addr) (items : Array Value) (n : Nat) (sl : Array (Option Value)) (u : Tok) :
    Meets (Builtin.«tuple.__mul__» ⟨[.ref l, .int 1 u], []⟩) (fun _ R s => (∃ dd, s.heap.get? l = some { cls := .type "tuple", dict := dd, data := .seq items n, slots := sl }) ∧ R (.ok (.ret (Value.ref l))) s) :=
  .of_wp fun prog w A R s h => by
    obtain ⟨hp, g, d, tk, os⟩ := s
    obtain ⟨⟨dd, hl⟩, h⟩ := h
    have f1 := AutoSeq1.idx_int
    have c1 : (items.isEmpty || (1 : Int) == 1) = true := by rw [Bool.or_comm]; rfl
    wp_walk using wpAny_loadPart' hl
    repeat (first
      | (refine wpAny_ite_false (by decide) ?_; wp_walk using wpAny_loadPart' hl)
      | (refine wpAny_ite_true (decide_eq_true c1) ?_; wp_walk using wpAny_loadPart' hl))
    exact ⟨_, rfl, h⟩
def rRepU (K : PySem.W.Frag) : R2 := fun x y H Q => (∃ l xs, x = .ref l ∧ y = .int 1 ∧ SqT K H l xs ∧ Q (.ref l) H) ∨ rRepT K x y H Q
theorem op_repU {X : Cx} : OpR X (binaryOp .Mult) (rRepU X.K) := by
  intro pins s σ H x y v u Q I rx ry h
  rcases h with ⟨l, xs, rfl, rfl, hT, q⟩ | h
  · cases rx
    obtain ⟨t, rfl⟩ := ry
    obtain ⟨its, r, ⟨⟨cls, dd, data, sl⟩, ho, hc, n, hd⟩, hs⟩ := I.tuple hT
    simp only at hc hd
    subst hc hd
    exact wpAny_binaryOp_repeat_ref (T := "tuple") (U := "int") (by decide) ⟨_, ho, rfl⟩ (fun s' => typeIs_int s' 1 t) noFill_tuple_mul F.fills_int_mul F.slot_int_rmul repeat_tuple F.slot_int_index.lookup
      (call_meets F.slot_int_rmul (typeIs_int s 1 t) F.entry_int_rmul (F.args_int_rmul_2 _ _) (int_rmul_tuple 1 t l its.toArray n dd sl)
        ⟨ho, rfl, ⟨_, ho, rfl⟩, call_meets F.slot_tuple_mul ⟨_, ho, rfl⟩ F.entry_tuple_mul (F.args_tuple_mul_2 _ _) (tuple_mulW1 l its.toArray n sl t) ⟨⟨dd, ho⟩, .ref l, H, I, rfl, q⟩⟩)
  · exact op_repT pins s σ H x y v u Q I rx ry h
theorem g_repU {K : PySem.W.Frag} {H : Hp} {Q : VK} {l : Addr} {xs : List V} {k : Nat} (h : SqT K H l xs) (hn : xs ≠ []) (hl : xs.length ≤ 1000) (h1 : 1 ≤ k) (h2 : k ≤ 1000) (q : ∀ p H2, Ex H H2 → SqT K H2 p (List.replicate k xs).flatten → Q (.ref p) H2) : rRepU K (.ref l) (.int (k : Int)) H Q := by
  by_cases z : k = 1
  · subst z
    exact .inl ⟨l, xs, rfl, rfl, h, q l H (Ex.refl _) (by rw [show (List.replicate 1 xs).flatten = xs by simp]; exact h)⟩
  · exact .inr ⟨l, k, xs, rfl, rfl, h, hn, by omega, by omega, hl, fun p hp => q p _ (Ex.new hp) (SqT.of upd_same)⟩
/-! ### facts that a head tells of own classes -/
/-- what a head must tell of a class whose instances stand left of >> with an int -/
structure ShrC (K : PySem.W.Frag) (C : Addr) : Prop where
  hc : PySem.W.selfFirst K C = true
  hr : PySem.W.findIn K (.ref C) (dunderR (Operator.info .RShift).2) = some none
  h1 : ∃ fo, PySem.W.findIn K (.type "int") (PySem.dunder (Operator.info .RShift).2) = some fo
  h2 : ∃ ro, PySem.W.findIn K (.type "int") (dunderR (Operator.info .RShift).2) = some ro
  hsub : PySem.W.subIn K (.type "int") (.ref C) = some false
def shrB (K : PySem.W.Frag) (C : Addr) : Bool := PySem.W.selfFirst K C && (decide (PySem.W.findIn K (.ref C) (dunderR (Operator.info .RShift).2) = some none) && ((PySem.W.findIn K (.type "int") (PySem.dunder (Operator.info .RShift).2)).isSome &&
  ((PySem.W.findIn K (.type "int") (dunderR (Operator.info .RShift).2)).isSome && decide (PySem.W.subIn K (.type "int") (.ref C) = some false))))
theorem shr_ok {K : PySem.W.Frag} {C : Addr} (h : shrB K C = true) : ShrC K C := by
  obtain ⟨h1, h⟩ := He.ba h
  obtain ⟨h2, h⟩ := He.ba h
  obtain ⟨h3, h⟩ := He.ba h
  obtain ⟨h4, h5⟩ := He.ba h
  exact ⟨h1, of_decide_eq_true h2, Option.isSome_iff_exists.mp h3, Option.isSome_iff_exists.mp h4, of_decide_eq_true h5⟩
def shrT : List String := ["NoneType", "bool", "int", "str"]
structure ShrV (K : PySem.W.Frag) (C : Addr) : Prop where
  hc : PySem.W.selfFirst K C = true
  hr : PySem.W.findIn K (.ref C) (dunderR (Operator.info .RShift).2) = some none
  hT : ∀ T ∈ shrT, (∃ fo, PySem.W.findIn K (.type T) (PySem.dunder (Operator.info .RShift).2) = some fo) ∧ (∃ ro, PySem.W.findIn K (.type T) (dunderR (Operator.info .RShift).2) = some ro) ∧ PySem.W.subIn K (.type T) (.ref C) = some false
def shrvB (K : PySem.W.Frag) (C : Addr) : Bool := PySem.W.selfFirst K C && (decide (PySem.W.findIn K (.ref C) (dunderR (Operator.info .RShift).2) = some none) && shrT.all fun T => (PySem.W.findIn K (.type T) (PySem.dunder (Operator.info .RShift).2)).isSome &&
  ((PySem.W.findIn K (.type T) (dunderR (Operator.info .RShift).2)).isSome && decide (PySem.W.subIn K (.type T) (.ref C) = some false)))
theorem shrv_ok {K : PySem.W.Frag} {C : Addr} (h : shrvB K C = true) : ShrV K C := by
  obtain ⟨h1, h⟩ := He.ba h
  obtain ⟨h2, h⟩ := He.ba h
  refine ⟨h1, of_decide_eq_true h2, fun T hT => ?_⟩
  have := List.all_eq_true.mp h T hT
  obtain ⟨h3, h⟩ := He.ba this
  obtain ⟨h4, h5⟩ := He.ba h
  exact ⟨Option.isSome_iff_exists.mp h3, Option.isSome_iff_exists.mp h4, of_decide_eq_true h5⟩
structure EqtC (K : PySem.W.Frag) (C : Addr) : Prop where
  nf : PySem.W.notFirst K C (.type "tuple") = true
  ki : PySem.W.kitOne K (.type "tuple") (.ref C) = some false
def eqtB (K : PySem.W.Frag) (C : Addr) : Bool := PySem.W.notFirst K C (.type "tuple") && decide (PySem.W.kitOne K (.type "tuple") (.ref C) = some false)
theorem eqt_ok {K : PySem.W.Frag} {C : Addr} (h : eqtB K C = true) : EqtC K C := by
  obtain ⟨h1, h2⟩ := He.ba h
  exact ⟨h1, of_decide_eq_true h2⟩
/-- where the class method's def stands -/
abbrev cmA (K : PySem.W.Frag) (C : Addr) (m : Str) : Addr := He5.wf K C "classmethod" m
structure CmC (K : PySem.W.Frag) (C : Addr) (m : Str) : Prop where
  rd : ClX.CRead K C (.type "type")
  wr : PySem.W.findCls K (.ref C) (.type "type") m = some (.get (.builtin "classmethod.__get__") (.ref (He.ma K C m)) .none (.ref C)) ∧ ∃ rest, PySem.W.recIn K (He.ma K C m) "classmethod" = some (.ref (cmA K C m) :: rest)
def cmB (K : PySem.W.Frag) (C : Addr) (m : Str) : Bool := PySem.W.readsIn K C (.type "type") && He5.wrapB K C "classmethod" "classmethod.__get__" m
theorem cm_ok {K : PySem.W.Frag} {C : Addr} {m : Str} (h : cmB K C m = true) : CmC K C m := by
  obtain ⟨h0, hw⟩ := He.ba h
  refine ⟨⟨h0, ?_⟩, He5.wrapB_ok hw⟩
  have h := h0
  unfold PySem.W.readsIn at h
  obtain ⟨h, _⟩ := He.ba h
  obtain ⟨h, _⟩ := He.ba h
  obtain ⟨h, h3⟩ := He.ba h
  obtain ⟨_, h2⟩ := He.ba h
  unfold PySem.W.specialIn
  rw [beq_iff_eq.mp h2, Option.bind_some]
  exact beq_iff_eq.mp h3
end G48
namespace G48
open PySem PySem.Spec PyProof.Rows L2 Evl
open PpSet
/-! ### {e for ..}: a set of ints (turned from the library's set of truth values) -/
section
variable {X : Cx}
theorem addI_ok {pins : List (Addr × Obj)} {σ : L2.St} {H : Hp} {s : Shared} {E : Value → Shared → Prop} {D : Addr} {S : Int → Bool} {n : Nat} {y : Int} {tk : Tok} {Q : Value → Shared → Prop} (I : Inv X pins σ H s) (hD : H D = some (SetO X.w D S n)) (room : n + 1 < scanBound)
    (h : ∀ s', Inv X pins σ (upd H D (SetO X.w D (fun j => S j || decide (j = y)) (if S y = true then n else n + 1))) s' → Q .none s') : wpAny (model X.prog X.w) X.A (call (.builtin "set.add") [.ref D, .int y tk]) Q E s := by
  refine setR_add (setO_get I hD) room fun h' sb new => ?_
  have he : ∃ u, h'.get? D = some u := by
    have ⟨o, _, _, _, ho, _⟩ := new
    exact ⟨o, ho⟩
  exact h _ (I.write (e := D) (t' := s.toks + 1) (by rw [hD]; trivial) (.inl rfl) (fun b u hb hu => (sb.2 b hb).trans hu) he (setO_new new))
/-- {elt for target in iter if ..}, elt an int: D the new set -/
def tScI (w : World) (wi : TI) (g : TG) (tt : TT) (te : TE) (vs : List Nat) : TE := fun σ H Q => wi σ H fun J H1 => ∀ D, H1 D = none → ∃ W : Nat → Nat → Hp → Prop, (∃ m, W 0 m (upd H1 D (SetO w D (fun _ => false) 0))) ∧ ∀ i m H, W i m H →
  (J.stop i H ∧ Q (.ref D) H) ∨ (J.go i H ∧ ∃ Nx : Hp → Prop, (∀ H', Nx H' → ∃ m', m' < m ∧ W (i + 1) m' H') ∧ ∀ x H', J.yld i H x H' → g x (wipe σ vs) H' fun σ2 H2 => wipe σ2 vs = wipe σ vs ∧ tt σ2 H2 fun b H3 =>
    if b = true then te σ2 H3 fun y H4 => ∃ (c : Int) (S : Int → Bool) (n : Nat), y = .int c ∧ H4 D = some (SetO w D S n) ∧ n + 1 < scanBound ∧ Nx (upd H4 D (SetO w D (fun j => S j || decide (j = c)) (if S c = true then n else n + 1))) else Nx H3)
theorem scI_core {pins : List (Addr × Obj)} {s : Shared} {σ : L2.St} {H : Hp} {Q : VK} {elt tg iter : Expr} {ifs : List Expr} {scope : Scope} {own : List (PySem.Str × Nat)} {pos pos' : Pos} {wi : TI} {g : TG} {tt : TT} {te : TE} {use : Option (Value → Sem Unit)} {Qf : Value → Shared → Prop}
    (hc : X.calm = true) (hN : X.N.Nodup) (I : Inv X pins σ H s) (hi : PI X tg iter wi) (ok : BlkOk X.N X.env.scope scope own)
    (hg : ∀ (s : Shared) (H : Hp) (C : Addr) (cl : List (PySem.Str × Addr)) (fp : List Addr), PG (X.blk s H scope (compEnvC scope cl C X.env) fp) tg g) (ht : ∀ (s : Shared) (H : Hp) (C : Addr) (cl : List (PySem.Str × Addr)) (fp : List Addr), PTs (X.blk s H scope (compEnvC scope cl C X.env) fp) ifs tt)
    (he : ∀ (s : Shared) (H : Hp) (C : Addr) (cl : List (PySem.Str × Addr)) (fp : List Addr), PE (X.blk s H scope (compEnvC scope cl C X.env) fp) elt te) (hs : ∀ x, foldedSetIterable iter X.env x = pure x)
    (h : tScI X.w wi g tt te (own.map (·.2)) σ H Q)
    (hRR : ∀ D C s' m H', Inv X pins σ H' s' → Q (.ref D) H' → s'.heap.Ns C m → FpOk X pins H' C → compPost (model X.prog X.w) X.A X.xe use Qf (.ref D) C (.ok .next) s') :
    wpAny (model X.prog X.w) X.A (comprehension (.SetComp elt [⟨tg, iter, ifs, 0⟩] scope pos) scope X.env pos' (newSet (.type "set")) false (eval iter X.env) use) Qf X.xe s := by
  have hfree : ∀ y ∈ scope.names, y.2 = .free → ∃ c, X.env.cells.lookup y.1 = some c := fun y hy e => by
    rcases ok.free y hy e with k | k
    · exact I.ok.has _ (.inl k)
    · exact I.ok.has _ (.inr k)
  refine wpAny_comprehension_free (use := use) rfl hs (closure_ok hfree) ok.kind (fun y hy e => by rw [ok.uniq y hy, e])
    (thn (hi.run pins s σ H _ I h) fun xv s1 hx => thn hx fun itv s2 h2 => ?_)
  obtain ⟨it, fp, tn, J, H2, e, I2, T, st2, f2, q⟩ := h2
  subst e
  refine newSet_ok (newEnv_comp ?_)
  generalize hD : s2.heap.objs.size = D
  have hDn : H2 D = none := I2.hok.fresh (Nat.le_of_eq hD)
  obtain ⟨W, ⟨m0, w0⟩, turn⟩ := q D hDn
  -- the new list
  generalize hs3 : ({ s2 with heap := s2.heap.push { cls := .type "set", dict := none, data := .set #[] 0 (.fresh 0 0 (!X.w.params.followText "set-order")) } } : Shared) = s3
  have I3 : Inv X pins σ (upd H2 D (SetO X.w D (fun _ => false) 0)) s3 := by
    rw [← hs3]
    refine I2.laid (t' := s2.toks) (fun b o e => Heap.get?_push_of_some _ e) (Nat.le_of_eq hD) ?_
    rw [← hD]
    exact setO_new (setR_fresh X.w)
  have h3 : s3.heap = s2.heap.push { cls := .type "set", dict := none, data := .set #[] 0 (.fresh 0 0 (!X.w.params.followText "set-order")) } := by rw [← hs3]
  have sz : ∀ b ∈ fp, b < s2.heap.objs.size := fun b hb => by
    obtain ⟨o, e, _⟩ := T.obj _ _ st2 b hb
    exact Heap.lt_size e
  have f3 : ∀ b ∈ fp, FpOk X pins (upd H2 D (SetO X.w D (fun _ => false) 0)) b ∧ b < s3.heap.objs.size := fun b hb => by
    have hlt := sz b hb
    refine ⟨⟨?_, (f2 b hb).2⟩, by rw [h3, Heap.size_push]; exact Nat.lt_succ_of_lt hlt⟩
    rw [upd_ne (by rw [← hD]; exact Nat.ne_of_lt hlt)]
    exact (f2 b hb).1
  have st3 : tn 0 s3.heap := T.keep _ _ _ st2 fun b _ o e => by rw [h3]; exact Heap.get?_push_of_some _ e
  have I4 := block_start I3 ok hN f3
  have pg := hg s3 (upd H2 D (SetO X.w D (fun _ => false) 0)) s3.heap.objs.size (cellsFrom (s3.heap.objs.size + 1) scope.names (cloFrom X.env.cells scope.names [])) fp
  have pt := ht s3 (upd H2 D (SetO X.w D (fun _ => false) 0)) s3.heap.objs.size (cellsFrom (s3.heap.objs.size + 1) scope.names (cloFrom X.env.cells scope.names [])) fp
  have pe := he s3 (upd H2 D (SetO X.w D (fun _ => false) 0)) s3.heap.objs.size (cellsFrom (s3.heap.objs.size + 1) scope.names (cloFrom X.env.cells scope.names [])) fp
  show codeAny _ _ (.compStart (.SetComp elt [⟨tg, iter, ifs, 0⟩] scope pos) 0 (.ref it) (.ref D) (compEnvC scope (cellsFrom (s3.heap.objs.size + 1) scope.names (cloFrom X.env.cells scope.names [])) s3.heap.objs.size X.env)) (compPost (model X.prog X.w) X.A X.xe use Qf (.ref D) s3.heap.objs.size) { s3 with heap := pushCells (s3.heap.push { cls := .type "dict", data := .dict #[] }) scope.names }
  have nfp : ∀ b ∈ fp, (upd H2 D (SetO X.w D (fun _ => false) 0)) b = none := fun b hb => (f3 b hb).1.1
  generalize hce : compEnvC scope (cellsFrom (s3.heap.objs.size + 1) scope.names (cloFrom X.env.cells scope.names [])) s3.heap.objs.size X.env = ce at I4 pg pt pe ⊢
  have cL : ce.locals = s3.heap.objs.size := by subst hce; rfl
  generalize hH3 : upd H2 D (SetO X.w D (fun _ => false) 0) = H3 at I3 I4 pg pt pe w0 nfp f3
  generalize hs4 : ({ s3 with heap := pushCells (s3.heap.push { cls := .type "dict", data := .dict #[] }) scope.names } : Shared) = s4 at I4 ⊢
  have st4 : tn 0 s4.heap := T.keep _ _ _ st3 fun b _ o e => by rw [← hs4]; exact pushCells_keeps _ _ _ _ (Heap.get?_push_of_some _ e)
  have stat : ∀ {σ' : L2.St} {H' : Hp} {s' : Shared}, Inv (X.blk s3 H3 scope ce fp) [] σ' H' s' → (∀ b ∈ fp, H' b = none) → ∀ b ∈ fp, FpOk (X.blk s3 H3 scope ce fp) [] H' b := fun {σ' H' s'} I' hn b hb =>
    ⟨hn b hb, (I'.ok.exf b hb).1, I'.ok.exfs b hb, .inl hb, fun x c e => (I'.ok.exf b hb).2 x c e, fun p hp => absurd (show p ∈ ([] : List (Addr × Obj)) ++ [] from hp) (by simp)⟩
  have loop : codeAny (model X.prog X.w) X.A (.compLoop (.SetComp elt [⟨tg, iter, ifs, 0⟩] scope pos) 0 (.ref it) (.ref D) ce) (compPost (model X.prog X.w) X.A X.xe use Qf (.ref D) s3.heap.objs.size) s4 := by
    refine compLoopS_any (fun n s' => ∃ i H', Inv (X.blk s3 H3 scope ce fp) [] (wipe σ (own.map (·.2))) H' s' ∧ tn i s'.heap ∧ (∀ b ∈ fp, H' b = none) ∧ W i n H') ?_ m0 ⟨0, H3, I4, st4, nfp, w0⟩
    rintro n s5 ⟨i, H5, I5, st5, n5, w5⟩
    rcases turn i n H5 w5 with ⟨stop, qq⟩ | ⟨go, Nx, hNx, step⟩
    · have td := T.done (X.blk s3 H3 scope ce fp) rfl rfl rfl hc i [] s5 _ H5 (fun _ _ => False) I5 (stat I5 n5) st5 stop
      refine thnF td fun r s6 ⟨hr, I6⟩ => ?_
      subst hr
      -- back in the def's context
      have I7 : Inv X pins σ H5 s6 := I3.call' (ch := fp) I6.os I6.base I6.hok I6.bare fun b hb => ⟨(f3 b hb).1.2.2.2.1, (f3 b hb).1.2.1, (f3 b hb).1.2.2.2.2.1, (f3 b hb).1.2.2.2.2.2⟩
      have nC : H5 s3.heap.objs.size = none := by
        have z : H5 ce.locals = none := I6.free
        rw [cL] at z
        exact z
      obtain ⟨m, hn, _⟩ := I6.loc
      have hn : s6.heap.Ns ce.locals m := hn
      rw [cL] at hn
      exact hRR D s3.heap.objs.size s6 m H5 I7 qq hn (I3.fpOk (Nat.le_refl _) nC)
    · have ti := T.item (X.blk s3 H3 scope ce fp) rfl rfl rfl hc i [] s5 _ H5 (fun _ _ => False) I5 (stat I5 n5) st5 go
      refine thnF ti fun r s6 ⟨u, hr, h6⟩ => ?_
      subst hr
      refine thnF h6 fun _ s7 ⟨x, H7, I7, r7, y7, st7, n7⟩ => ?_
      have I7' := I7.pinned (stat I7 n7) (T.obj _ _ st7)
      refine thnF (pg.run _ s7 _ H7 x u _ I7' r7 (step x H7 y7)) fun _ s8 ⟨σ8, H8, I8, hw8, q8⟩ => ?_
      refine thnF (pt.run _ s8 σ8 H8 _ I8 q8) fun b s9 ⟨H9, I9, q9⟩ => ?_
      -- the turn's end
      have fin : ∀ {s' : Shared} {H' : Hp}, Inv (X.blk s3 H3 scope ce fp) ([] ++ pinsAt fp s7.heap) σ8 H' s' → Nx H' → ∃ m, m < n ∧ ∃ i H', Inv (X.blk s3 H3 scope ce fp) [] (wipe σ (own.map (·.2))) H' s' ∧ tn i s'.heap ∧ (∀ b ∈ fp, H' b = none) ∧ W i m H' := fun {s' H'} I' nx => by
        obtain ⟨m', hm, w'⟩ := hNx H' nx
        have pin' : ∀ b ∈ fp, ∀ o, s7.heap.get? b = some o → s'.heap.get? b = some o ∧ H' b = none := fun b hb o e =>
          let z := I'.pin (b, o) (List.mem_append_right _ (List.mem_append_right _ (mem_pinsAt hb e)))
          ⟨z.1, z.2.1⟩
        have hl : (wipe σ (own.map (·.2))).length = σ8.length := by rw [← hw8, wipe_length]
        refine ⟨m', hm, i + 1, H', (I'.unpinned (pins := [])).weak hl (fun j v e => ?_), T.keep _ _ _ st7 fun b hb o e => (pin' b hb o e).1, fun b hb => ?_, w'⟩
        · rw [← hw8] at e
          exact (wipe_some e).1
        · obtain ⟨o, e, _⟩ := T.obj _ _ st7 b hb
          exact (pin' b hb o e).2
      cases b with
      | false =>
        simp only [Bool.false_eq_true, if_false] at q9 ⊢
        exact fin I9 q9
      | true =>
        simp only [if_true] at q9 ⊢
        refine thnF (pe.run _ s9 σ8 H9 _ I9 q9) fun z s10 ⟨yv, H10, I10, r10, cb, S0, n0, ey, hD10, hz10, nx⟩ => ?_
        subst ey
        obtain ⟨tk, rfl⟩ := r10
        exact addI_ok (X := X.blk s3 H3 scope ce fp) I10 hD10 hz10 fun s11 I11 => fin I11 nx
  exact codeAny_compStart_set loop (T.self X.A 0 _ _ _ st4 loop)
/-- as a value -/
theorem pe_scI {elt tg iter : Expr} {ifs : List Expr} {scope : Scope} {own : List (PySem.Str × Nat)} {pos : Pos} {wi : TI} {g : TG} {tt : TT} {te : TE} (hc : X.calm = true) (hN : X.N.Nodup) (hi : PI X tg iter wi) (ok : BlkOk X.N X.env.scope scope own)
    (hg : ∀ (s : Shared) (H : Hp) (C : Addr) (cl : List (PySem.Str × Addr)) (fp : List Addr), PG (X.blk s H scope (compEnvC scope cl C X.env) fp) tg g) (ht : ∀ (s : Shared) (H : Hp) (C : Addr) (cl : List (PySem.Str × Addr)) (fp : List Addr), PTs (X.blk s H scope (compEnvC scope cl C X.env) fp) ifs tt)
    (he : ∀ (s : Shared) (H : Hp) (C : Addr) (cl : List (PySem.Str × Addr)) (fp : List Addr), PE (X.blk s H scope (compEnvC scope cl C X.env) fp) elt te) (hs : ∀ x, foldedSetIterable iter X.env x = pure x := by intro _; rfl) :
    PE X (.SetComp elt [⟨tg, iter, ifs, 0⟩] scope pos) (tScI X.w wi g tt te (own.map (·.2))) := by
  refine ⟨fun pins s σ H Q I h => ?_⟩
  rw [eval_SetComp]
  refine scI_core hc hN I hi ok hg ht he hs h fun D C s' m H' I' q hn f => ⟨m, hn, fun h'' sb => ?_⟩
  obtain ⟨f0, f1, f2, f3, f4, f5⟩ := f
  exact ⟨.ref D, H', I'.turned (t' := s'.toks) (fun b o hb e => (sb.2 b hb).trans e) f0 f1 f3 f4 f5, rfl, q⟩
end
/-! ### set(xs) of a list of ints -/
section
variable {P : Program} {w : World} {A : Around} {E : Value → Shared → Prop} {s : Shared}
set_option maxRecDepth 100000 in
set_option maxHeartbeats 3200000 in
theorem call_set_lstI {l : Addr} {items : Array Value} (ns : List Int) {Q : Value → Shared → Prop} (hh : A.handled = none) (hl : s.heap.IsList l items) (hit : IntsAre items.toList ns) (hb : ns.length + 1 < scanBound)
    (h : ∀ (h' : Heap) (tk c : Nat), SetR w h' s.heap.objs.size (fun j => decide (j ∈ ns)) c → c ≤ ns.length → (∀ b o, s.heap.get? b = some o → h'.get? b = some o) → Q (.ref s.heap.objs.size) { s with heap := h', toks := tk }) :
    wpAny (model P w) A (call (.type "set") [.ref l]) Q E s := by
  have hisz : items.size = ns.length := by
    have q := IntsAre.length hit
    rw [Array.length_toList] at q
    exact q
  obtain ⟨c, tl, hmro⟩ := F.called_set.mro
  have hmade := F.called_set.made
  have hsub := F.called_set.sub
  refine wpAny_call (codeAny_of_tree ?_)
  show wpAny _ _ (callAny (.type "set") _) _ _ _
  refine wpAny_pure ⟨Code.quiet_builtin _ (by decide +kernel), codeAny_builtin F.entry_type_call ?_⟩
  rw [Around.under_plain (weight_type_call_type "set" [.ref l] []) rfl]
  have h1 := F.called_set.notType
  have h2 := F.called_set.canCreate
  have hct := F.typeCall_set_1 (.ref l)
  repeat (any_goals (first | assumption | wp_step))

  refine codeAny_mono (code_set_led1 (.ref l) (E := E) (Q₁ := fun obj s₁ => obj = .ref s.heap.objs.size ∧ s₁ = { s with heap := s.heap.push { cls := .type "set", dict := none, data := .set #[] 0 (.fresh 0 0 (!w.params.followText "set-order")) } }) ⟨rfl, rfl⟩) fun r s₁ hr => ?_
  cases r with
  | error e => exact hr
  | ok fl =>
    cases fl with
    | ret obj =>
      obtain ⟨rfl, rfl⟩ := hr
      have hS : (s.heap.push { cls := .type "set", dict := none, data := .set #[] 0 (.fresh 0 0 (!w.params.followText "set-order")) }).get? s.heap.objs.size = some { cls := .type "set", dict := none, data := .set #[] 0 (.fresh 0 0 (!w.params.followText "set-order")) } := Heap.get?_push_size _ rfl
      have hT : Shared.TypeIs { s with heap := s.heap.push { cls := .type "set", dict := none, data := .set #[] 0 (.fresh 0 0 (!w.params.followText "set-order")) } } (.ref s.heap.objs.size) "set" := ⟨_, hS, rfl⟩
      have hli := F.called_set.init.lookup
      have hbi := F.called_set.init.bind (.ref s.heap.objs.size)
      repeat (any_goals (first | assumption | wp_step))

      refine codeAny_mono (codeAny_call_builtin (R := wants (fun r s₂ => r = .none ∧ ∃ h' tk c, s₂ = { s with heap := h', toks := tk } ∧ SetR w h' s.heap.objs.size (fun j => decide (j ∈ ns)) c ∧ c ≤ ns.length ∧
          (∀ b o, s.heap.get? b = some o → h'.get? b = some o)) E) F.called_set.init.plain F.entry_set_init (check_set_init_1 hT ?_)) fun r₂ s₂ hr₂ => ?_
      · obtain ⟨ol, hol, hcl, nl, hdl⟩ := hl
        obtain ⟨ocls, odict, odata, oslots⟩ := ol
        simp only at hcl hdl
        subst hcl; subst hdl
        have hol' : (s.heap.push { cls := .type "set", dict := none, data := .set #[] 0 (.fresh 0 0 (!w.params.followText "set-order")) }).get? l = some { cls := .type "list", dict := odict, data := .seq items nl, slots := oslots } := Heap.get?_push_of_some _ hol
        have hsls := PySem.F.sub_list_set
        have hslf := PySem.F.sub_list_frozenset
        have hne : (Value.type "list" == Value.type "dict") = false := by decide
        have hl1 : (s.heap.push { cls := .type "set", dict := none, data := .set #[] 0 (.fresh 0 0 (!w.params.followText "set-order")) }).IsList l items := ⟨_, hol', rfl, nl, rfl⟩
        unfold Builtin.«set.__init__» noKeywords Builtin.Frozenset.updateFrom
        generalize hPI : pyIter = PI
        wp_walk
        subst hPI

        refine wpAny_pyIter_list hl1 ?_
        refine wpAny_bind (wpAny_runValue ?_)
        have hlS : l < s.heap.objs.size := Heap.lt_size hol
        have hh3 : A.in1.in1.in1.handled = none := by simp [hh]
        have hz1 : (s.heap.push { cls := .type "set", dict := none, data := .set #[] 0 (.fresh 0 0 (!w.params.followText "set-order")) }).objs.size = s.heap.objs.size + 1 := Heap.size_push ..
        have hneI : l ≠ (s.heap.push { cls := .type "set", dict := none, data := .set #[] 0 (.fresh 0 0 (!w.params.followText "set-order")) }).objs.size := by
          rw [Heap.size_push]; exact Nat.ne_of_lt (Nat.lt_succ_of_lt hlS)
        have hSf : s.heap.objs.size ∉ [(s.heap.push { cls := .type "set", dict := none, data := .set #[] 0 (.fresh 0 0 (!w.params.followText "set-order")) }).objs.size, l] := by
          rw [Heap.size_push]; simp only [List.mem_cons, List.mem_singleton, List.not_mem_nil, or_false, not_or]
          exact ⟨Nat.ne_of_lt (Nat.lt_succ_self _), Nat.ne_of_gt hlS⟩
        have hval : ∀ (i : Nat) (v : Value), items[i]? = some v → ∃ k t, ns[i]? = some k ∧ v = .int k t := fun i v hv => by
          have hi : i < ns.length := by rw [← hisz]; exact (Array.getElem?_eq_some_iff.mp hv).1
          obtain ⟨t, e⟩ := PyProof.Rows.IntsAre.int_at hit i v (by rw [Array.getElem?_toList]; exact hv)
          refine ⟨ns[i], t, List.getElem?_eq_getElem hi, ?_⟩
          rw [e, List.getD_eq_getElem?_getD, List.getElem?_eq_getElem hi] <;> rfl
        refine set_update_ints ((Walks.list hh3 _ l hneI items).toS) s.heap.objs.size
          hSf ns hisz hb hval (items.size - 0) 0 _ (by omega) (Nat.zero_le _)
          ⟨⟨_, Heap.get?_push_size _ rfl, rfl, rfl⟩, (hl1.push _)⟩ ?hS0 ?hR
        case hS0 =>
          have hget : ((s.heap.push { cls := .type "set", dict := none, data := .set #[] 0 (.fresh 0 0 (!w.params.followText "set-order")) }).push { cls := .type "list_iterator", data := .fields #[.ref l, .int 0 0] }).get? s.heap.objs.size
              = some { cls := .type "set", dict := none, data := .set #[] 0 (.fresh 0 0 (!w.params.followText "set-order")) } := Heap.get?_push_of_some _ hS
          exact ⟨0, Nat.le_refl 0, setR_new_at hget⟩
        case hR =>
          intro s' c' hm hc' hS'
          obtain ⟨h', g2, d', tk', os'⟩ := s'
          have eg : g2 = s.gens := hm.gens
          have ed : d' = s.drawn := hm.drawn
          have eo : os' = s.os := hm.os
          subst eg; subst ed; subst eo
          show wpAny _ _ _ _ _ _
          refine wpAny_pure ?_
          show wpAny _ _ (ret Value.none) _ _ _
          rw [hisz] at hc'
          refine wpAny_pure ⟨rfl, h', tk', c', rfl, hS', hc', fun b o e => ?_⟩
          have hb0 : b < s.heap.objs.size := Heap.lt_size e
          have hb1 : b ≠ s.heap.objs.size := Nat.ne_of_lt hb0
          have hb2 : b ≠ (s.heap.push { cls := .type "set", dict := none, data := .set #[] 0 (.fresh 0 0 (!w.params.followText "set-order")) }).objs.size := by
            rw [Heap.size_push]; exact Nat.ne_of_lt (Nat.lt_succ_of_lt hb0)
          exact hm.heap b o (by simp only [List.mem_cons, List.mem_singleton, List.not_mem_nil, or_false, not_or]; exact ⟨hb1, hb2⟩) (Heap.get?_push_of_some _ (Heap.get?_push_of_some _ e))

      · cases r₂ with
        | error e => exact hr₂
        | ok fl₂ =>
          cases fl₂ with
          | ret r =>
            obtain ⟨rfl, h', tk, c', rfl, hS', hc', hk'⟩ := hr₂
            repeat (any_goals (first | assumption | wp_step))
            exact h _ _ _ hS' hc' hk'
          | _ => exact hr₂.elim
    | _ => exact hr.elim

end
end G48
namespace G48
open PySem PySem.Spec PyProof.Rows L2 Evl
/-! ### set(xs), len(set) -/
def rSetL (K : PySem.W.Frag) (w : World) : List V → Hp → VK → Prop := fun xs H Q => ∃ (l : Addr) (ns : List Int), xs = [.ref l] ∧ SqL K H l (ns.map V.int) ∧ ns.length ≤ 60 ∧ ∀ p c, H p = none → c ≤ ns.length → Q (.ref p) (upd H p (SetO w p (fun j => decide (j ∈ ns)) c))
section
variable {X : Cx}
theorem cr_setL (hc : X.calm = true) : CallR X (.type "set") (rSetL X.K X.w) := by
  intro pins s σ H xs us Q I r h
  obtain ⟨l, ns, rfl, hl, hz, q⟩ := h
  rw [Vals.ref1 r]
  obtain ⟨its, rv, pl, hzz⟩ := I.list hl
  have hi : IntsAre its ns := intsAre_of rv
  refine call_set_lstI (items := its.toArray) ns (I.ok.hd hc) pl.isList (by simpa using hi) (by unfold scanBound; omega) fun h' tk c R hcn k => ?_
  have hn : H s.heap.objs.size = none := I.hok.fresh (Nat.le_refl _)
  exact ⟨.ref _, upd H s.heap.objs.size (SetO X.w s.heap.objs.size (fun j => decide (j ∈ ns)) c), I.laid (t' := tk) (fun b u e => k b u e) (Nat.le_refl _) (setO_new R), rfl, q _ c hn hcn⟩
theorem cr_setLK (K : PySem.W.Frag) (hc : X.calm = true) (h : X.K = K := by rfl) : CallR X (.type "set") (rSetL K X.w) := by subst h; exact cr_setL hc
end
/-- len(s), s a set of ints: as many as it has members -/
def rLenS (w : World) : List V → Hp → VK → Prop := fun xs H Q => ∃ (a : Addr) (S : Int → Bool) (n : Nat), xs = [.ref a] ∧ H a = some (SetO w a S n) ∧ n ≤ 1000 ∧ ∀ ks : List Int, ks.Nodup → ks.length = n → (∀ k, k ∈ ks ↔ S k = true) → Q (.int (n : Nat)) H
theorem c_lenS {X : Cx} : CallR X (.builtin "len") (rLenS X.w) := by
  intro pins s σ H xs us Q I r h
  obtain ⟨a, S, n, rfl, ha, hn, q⟩ := h
  rw [Vals.ref1 r]
  obtain ⟨o, es, ep, t, ho, hx, hd, g, nd, hm, hb, hf, hs, _⟩ := setO_get I ha
  have q := q (es.toList.map keyOf) nd (by rw [List.length_map, Array.length_toList]; exact hs) (fun k => (hm k).symm)
  refine call_len_set ho hx hd hf (by omega) ⟨.int (n : Nat), H, I.tok _, ⟨_, by rw [hs]⟩, q⟩
/-! ### d == {} -/
def rEqD0 : R2 := fun x y H Q => ∃ a b ks, x = .ref a ∧ y = .ref b ∧ H a = some (.dK ks) ∧ H b = some (.dK []) ∧ Q (.bl ks.isEmpty) H
theorem op_eqD0 {X : Cx} (hu : X.A.units < cLine) : OpR X (compareOp .Eq) rEqD0 := by
  intro pins s σ H x y v u Q I rx ry h
  obtain ⟨a, b, ks, rfl, rfl, ea, eb, q⟩ := h
  obtain rfl : v = Value.ref a := rx
  obtain rfl : u = Value.ref b := ry
  obtain ⟨_, ya, va, ra, da⟩ := (show ObjOk X.prog X.w H s.heap a (.dK ks) from I.hok a _ ea)
  obtain ⟨_, yb, vb, rb, db⟩ := (show ObjOk X.prog X.w H s.heap b (.dK []) from I.hok b _ eb)
  cases rb
  have hl := ra.length
  refine PySem.W.keq_eq (knd := mixKind X.prog X.w) (r := true) ya yb da db hu (fun hlen => ?_) ?_
  · have : va = [] := List.length_eq_zero_iff.mp hlen
    subst this
    exact .nil
  · refine fin_bl I q ?_
    cases ks with
    | nil =>
      have : va = [] := List.length_eq_zero_iff.mp hl.symm
      subst this
      rfl
    | cons k ks =>
      cases va with
      | nil => cases hl
      | cons v va => rfl
/-! ### a told name, outside of comprehensions -/
theorem pe_toldN {X : Cx} {Ng : List Str} {x a : Str} {k j : Nat} {TT : (XK → Hp → VK → Prop) → Hp → VK → Prop} {st : Stmt} {ta : TA} {e : Expr} {p pos : Pos} (hr : Room j X.A)
    (G : GFun X.K X.mg x st) (Sg : FnScope Ng [a] (defScope st)) (hb : BindL x x st [a]) (hG : GivesL X.prog X.w X.K X.mg X.base Ng x st a (k + 1) TT) (hNg : Ng[0]? = some a) (hva : Vis (defScope st) a) (ha : PA X [e] ta) (hk : k + 2 ≤ j := by decide) (hg : Gl X x := by rfl)
    (hdb : (x == ("__debug__" : Str)) = false := by decide) (hd : (a == ("__debug__" : Str)) = false := by decide) (hcd : (a == ("__classdict__" : Str)) = false := by decide)
    (hst : starEach [e] X.env = (false, eval e X.env) :: starEach [] X.env := by rfl) (hpl : (backTo pos (starEach [] X.env)).any (·.1) = false := by rfl) :
    PE X (.Call (.Name x p) [e] [] pos) (fun σ H Q => tToldT (lamM X) k ta σ TT σ H Q) := by
  refine ⟨fun pins s σ H Q I h => ?_⟩
  have L := pe_told (Y := X) (N := X.N) (sg := fun τ => τ) (sc := X.env.scope) (cells := X.env.cells) (qual := X.env.qual ++ "<lambda>") (LO := LamOk X.prog X.w X.K X.mg X.base X.N X.env.scope X.env.cells (X.env.qual ++ "<lambda>") k) (p := p) (pos := pos)
    (fun pins' s' σ' H' J => ⟨CellsOk.of J, J.len⟩) (fun l hl => hl) hr G Sg hb hG hNg hva ha hk hg hdb hd hcd hst hpl
  refine L.run pins s σ H Q I ?_
  have e : (fun (vs : List V) (H1 : Hp) => ∃ f t, vs = [.ref f] ∧ LamTo (lamM X) k H1 f t ∧ TT (fun E H' Q' => t E σ H' Q') H1 Q) = fun vs H1 => ∃ f l, vs = [.ref f] ∧ LamOk X.prog X.w X.K X.mg X.base X.N X.env.scope X.env.cells (X.env.qual ++ "<lambda>") k l ∧ LamD.at_ l H1 f (X.env.qual ++ "<lambda>") X.env.cells ∧ TT (fun E H' Q' => l.t E σ H' Q') H1 Q := by
    funext vs H1
    refine propext ⟨?_, ?_⟩
    · rintro ⟨f, t, e1, ⟨l, a1, a2, rfl⟩, q⟩
      exact ⟨f, l, e1, a1, a2, q⟩
    · rintro ⟨f, l, e1, a1, a2, q⟩
      exact ⟨f, l.t, e1, ⟨l, a1, a2, rfl⟩, q⟩
  show ta σ H _
  rw [← e]
  exact h
/-! ### dict and set comprehensions, loops over a locked dict: readings -/
section
variable {tt : TT} {tk tv te : TE} {vs : List Nat} {g : TG} {Q : VK} {H H1 : Hp}
def kDcV (y : V) (D : Addr) (Nx : Hp → Prop) : VK := fun z H5 => ∃ kvs k, y = kV k ∧ H5 D = some (.dK kvs) ∧ kvs.length < sizeLine ∧ Nx (upd H5 D (.dK (putK kvs k z)))
def kDcK (tv : TE) (σ2 : L2.St) (D : Addr) (Nx : Hp → Prop) : VK := fun y H4 => tv σ2 H4 (kDcV y D Nx)
def kDcT (tk tv : TE) (σ2 : L2.St) (D : Addr) (Nx : Hp → Prop) : Bool → Hp → Prop := fun b H3 => if b = true then tk σ2 H3 (kDcK tv σ2 D Nx) else Nx H3
def kDcG (tt : TT) (tk tv : TE) (vs : List Nat) (σ : L2.St) (D : Addr) (Nx : Hp → Prop) : L2.St → Hp → Prop := fun σ2 H2 => wipe σ2 vs = wipe σ vs ∧ tt σ2 H2 (kDcT tk tv σ2 D Nx)
theorem g_kDcG {σ σ2 : L2.St} {D : Addr} {Nx : Hp → Prop} (e : wipe σ2 vs = wipe σ vs) (q : tt σ2 H (kDcT tk tv σ2 D Nx)) : kDcG tt tk tv vs σ D Nx σ2 H := ⟨e, q⟩
theorem g_kDcTt {σ2 : L2.St} {D : Addr} {Nx : Hp → Prop} (q : tk σ2 H (kDcK tv σ2 D Nx)) : kDcT tk tv σ2 D Nx true H := q
theorem g_kDcTf {σ2 : L2.St} {D : Addr} {Nx : Hp → Prop} (q : Nx H) : kDcT tk tv σ2 D Nx false H := q
theorem g_kDcK {σ2 : L2.St} {D : Addr} {Nx : Hp → Prop} {y : V} (q : tv σ2 H (kDcV y D Nx)) : kDcK tv σ2 D Nx y H := q
theorem g_kDcV {D : Addr} {Nx : Hp → Prop} {i : Int} {z : V} {kvs : List (Key × V)} (h : H D = some (.dK kvs)) (hl : kvs.length < sizeLine) (q : Nx (upd H D (.dK (putK kvs (.inl i) z)))) : kDcV (.int i) D Nx z H := ⟨kvs, .inl i, rfl, h, hl, q⟩
theorem dc_gen {J : It} {σ : L2.St} {D : Addr} {Qd : Hp → Prop} (n : Nat) (Pv : Nat → Hp → Prop) (h0 : Pv 0 (upd H1 D (.dK []))) (hg : ∀ i H, i ≤ n → Pv i H → (i < n → J.go i H) ∧ (i = n → J.stop i H))
    (hs : ∀ i H x H', i < n → Pv i H → J.yld i H x H' → g x (wipe σ vs) H' (kDcG tt tk tv vs σ D (Pv (i + 1)))) (hd : ∀ H, Pv n H → Qd H) :
    ∃ W : Nat → Nat → Hp → Prop, (∃ m, W 0 m (upd H1 D (.dK []))) ∧ ∀ i m H, W i m H →
      (J.stop i H ∧ Qd H) ∨ (J.go i H ∧ ∃ Nx : Hp → Prop, (∀ H', Nx H' → ∃ m', m' < m ∧ W (i + 1) m' H') ∧ ∀ x H', J.yld i H x H' → g x (wipe σ vs) H' fun σ2 H2 => wipe σ2 vs = wipe σ vs ∧ tt σ2 H2 fun b H3 =>
        if b = true then tk σ2 H3 fun y H4 => tv σ2 H4 fun z H5 => ∃ kvs k, y = kV k ∧ H5 D = some (.dK kvs) ∧ kvs.length < sizeLine ∧ Nx (upd H5 D (.dK (putK kvs k z))) else Nx H3) := by
  refine ⟨fun i m H => m = n - i ∧ i ≤ n ∧ Pv i H, ⟨n, by simp, Nat.zero_le _, h0⟩, ?_⟩
  rintro i m H ⟨rfl, hi, p⟩
  by_cases hlt : i < n
  · exact .inr ⟨(hg i H hi p).1 hlt, Pv (i + 1), fun H' p' => ⟨n - (i + 1), by omega, rfl, hlt, p'⟩, fun x H' y => hs i H x H' hlt p y⟩
  · have e : i = n := by omega
    subst e
    exact .inl ⟨(hg i H hi p).2 rfl, hd H p⟩
/-- over range(lo, n) -/
def kDcR2 (g : TG) (tt : TT) (tk tv : TE) (vs : List Nat) (σ : L2.St) (Q : VK) : List V → Hp → Prop := fun xs H1 => tDc (iRng2 fun _ H R => R xs H) g tt tk tv vs σ H1 Q
theorem g_dcR2 {tr : TA} {σ : L2.St} (q : tr σ H (kDcR2 g tt tk tv vs σ Q)) : tDc (iRng2 tr) g tt tk tv vs σ H Q := q
theorem g_kDcR2 {σ : L2.St} {lo n : Int} (hn : -(2 ^ 62) ≤ lo ∧ lo < 2 ^ 62 ∧ -(2 ^ 62) ≤ n ∧ n < 2 ^ 62) (Pv : Addr → Nat → Hp → Prop) (h0 : ∀ D, H D = none → Pv D 0 (upd H D (.dK [])))
    (hs : ∀ D (i : Nat) H2, H D = none → lo + (i : Int) < n → Pv D i H2 → g (.int (lo + (i : Int))) (wipe σ vs) H2 (kDcG tt tk tv vs σ D (Pv D (i + 1)))) (hd : ∀ D H2, H D = none → Pv D (n - lo).toNat H2 → Q (.ref D) H2) : kDcR2 g tt tk tv vs σ Q [.int lo, .int n] H :=
  ⟨lo, n, rfl, hn, fun D hD => dc_gen (n - lo).toNat (Pv D) (h0 D hD) (fun i H _ _ => ⟨fun h => h, fun h => by subst h; exact Nat.le_refl _⟩) (fun i H x H' hi p y => by
    obtain ⟨rfl, rfl⟩ := y
    exact hs D i _ hD (by omega) p) (fun H2 p => hd D H2 hD p)⟩
/-- over the pairs of a locked dict -/
def kDcI (g : TG) (tt : TT) (tk tv : TE) (vs : List Nat) (σ : L2.St) (Q : VK) : VK := fun x H1 => tDc (iItems fun _ H R => R x H) g tt tk tv vs σ H1 Q
theorem g_dcI {td : TE} {σ : L2.St} (q : td σ H (kDcI g tt tk tv vs σ Q)) : tDc (iItems td) g tt tk tv vs σ H Q := q
theorem g_kDcI {σ : L2.St} {d : Addr} {o : Obj} {kvs : List (Key × V)} (h : H d = some (.frz o (.dK kvs))) (Pv : Addr → Nat → Hp → Prop) (h0 : ∀ D, H D = none → Pv D 0 (upd H D (.dK []))) (hf : ∀ D i H2, H D = none → Pv D i H2 → H2 d = some (.frz o (.dK kvs)))
    (hs : ∀ D (i : Nat) k v T H2, H D = none → kvs[i]? = some (k, v) → H2 T = none → Pv D i H2 → g (.ref T) (wipe σ vs) (upd H2 T (.tup [kV k, v])) (kDcG tt tk tv vs σ D (Pv D (i + 1)))) (hd : ∀ D H2, H D = none → Pv D kvs.length H2 → Q (.ref D) H2) : kDcI g tt tk tv vs σ Q (.ref d) H :=
  ⟨d, o, kvs, rfl, h, fun D hD => dc_gen kvs.length (Pv D) (h0 D hD) (fun i H2 _ p => ⟨fun hi => ⟨hf D i H2 hD p, hi⟩, fun hi => ⟨hf D i H2 hD p, by omega⟩⟩) (fun i H2 x H' hi p y => by
    obtain ⟨T, k, v, e, rfl, hT, rfl⟩ := y
    exact hs D i k v T _ hD e hT p) (fun H2 p => hd D H2 hD p)⟩
/-- for .. in d.items(), d locked -/
def kForI (g : TG) (tb : TS) (D : Ends) (σ : L2.St) : VK := fun x H1 => tFor (iItems fun _ H R => R x H) g tb D σ H1
theorem g_forI {td : TE} {σ : L2.St} {tb : TS} {D : Ends} (q : td σ H (kForI g tb D σ)) : tFor (iItems td) g tb D σ H := q
theorem g_kForI {σ : L2.St} {tb : TS} {D : Ends} {d : Addr} {o : Obj} {kvs : List (Key × V)} (h : H d = some (.frz o (.dK kvs))) (Pv : Nat → L2.St → Hp → Prop) (h0 : Pv 0 σ H) (hf : ∀ i σ H2, Pv i σ H2 → H2 d = some (.frz o (.dK kvs)))
    (hs : ∀ (i : Nat) k v T σ H2, kvs[i]? = some (k, v) → H2 T = none → Pv i σ H2 → g (.ref T) σ (upd H2 T (.tup [kV k, v])) fun σ2 H3 => tb { D with nx := Pv (i + 1), ct := Pv (i + 1), bk := D.nx } σ2 H3) (hd : ∀ σ H2, Pv kvs.length σ H2 → D.nx σ H2) : kForI g tb D σ (.ref d) H := by
  refine ⟨d, o, kvs, rfl, h, fun i m σ H => m = kvs.length - i ∧ i ≤ kvs.length ∧ Pv i σ H, ⟨kvs.length, by simp, Nat.zero_le _, h0⟩, ?_⟩
  rintro i m σ H ⟨rfl, hi, p⟩
  have f := hf i σ H p
  by_cases hlt : i < kvs.length
  · refine .inr ⟨⟨f, hlt⟩, Pv (i + 1), fun σ' H' p' => ⟨kvs.length - (i + 1), by omega, rfl, hlt, p'⟩, fun x H' y => ?_⟩
    obtain ⟨T, k, v, e, rfl, hT, rfl⟩ := y
    exact hs i k v T σ _ e hT p
  · have e : i = kvs.length := by omega
    subst e
    exact .inl ⟨⟨f, Nat.le_refl _⟩, hd σ H p⟩
/-- a set of ints over the values of a locked dict -/
def kScV (w : World) (D : Addr) (Nx : Hp → Prop) : VK := fun y H4 => ∃ (c : Int) (S : Int → Bool) (n : Nat), y = .int c ∧ H4 D = some (SetO w D S n) ∧ n + 1 < scanBound ∧ Nx (upd H4 D (SetO w D (fun j => S j || decide (j = c)) (if S c = true then n else n + 1)))
def kScT (w : World) (te : TE) (σ2 : L2.St) (D : Addr) (Nx : Hp → Prop) : Bool → Hp → Prop := fun b H3 => if b = true then te σ2 H3 (kScV w D Nx) else Nx H3
def kScG (w : World) (tt : TT) (te : TE) (vs : List Nat) (σ : L2.St) (D : Addr) (Nx : Hp → Prop) : L2.St → Hp → Prop := fun σ2 H2 => wipe σ2 vs = wipe σ vs ∧ tt σ2 H2 (kScT w te σ2 D Nx)
variable {w : World}
theorem g_kScG {σ σ2 : L2.St} {D : Addr} {Nx : Hp → Prop} (e : wipe σ2 vs = wipe σ vs) (q : tt σ2 H (kScT w te σ2 D Nx)) : kScG w tt te vs σ D Nx σ2 H := ⟨e, q⟩
theorem g_kScTt {σ2 : L2.St} {D : Addr} {Nx : Hp → Prop} (q : te σ2 H (kScV w D Nx)) : kScT w te σ2 D Nx true H := q
theorem g_kScV {D : Addr} {Nx : Hp → Prop} {c : Int} {S : Int → Bool} {n : Nat} (h : H D = some (SetO w D S n)) (hl : n ≤ 100) (q : Nx (upd H D (SetO w D (fun j => S j || decide (j = c)) (if S c = true then n else n + 1)))) : kScV w D Nx (.int c) H := ⟨c, S, n, rfl, h, by unfold scanBound; omega, q⟩
def kScD (w : World) (g : TG) (tt : TT) (te : TE) (vs : List Nat) (σ : L2.St) (Q : VK) : VK := fun x H1 => tScI w (iVals fun _ H R => R x H) g tt te vs σ H1 Q
theorem g_scD {td : TE} {σ : L2.St} (q : td σ H (kScD w g tt te vs σ Q)) : tScI w (iVals td) g tt te vs σ H Q := q
theorem g_kScD {σ : L2.St} {d : Addr} {o : Obj} {kvs : List (Key × V)} (h : H d = some (.frz o (.dK kvs))) (Pv : Addr → Nat → Hp → Prop) (h0 : ∀ D, H D = none → Pv D 0 (upd H D (SetO w D (fun _ => false) 0))) (hf : ∀ D i H2, H D = none → Pv D i H2 → H2 d = some (.frz o (.dK kvs)))
    (hs : ∀ D (i : Nat) k v H2, H D = none → kvs[i]? = some (k, v) → Pv D i H2 → g v (wipe σ vs) H2 (kScG w tt te vs σ D (Pv D (i + 1)))) (hd : ∀ D H2, H D = none → Pv D kvs.length H2 → Q (.ref D) H2) : kScD w g tt te vs σ Q (.ref d) H := by
  refine ⟨d, o, kvs, rfl, h, fun D hD => ⟨fun i m H => m = kvs.length - i ∧ i ≤ kvs.length ∧ Pv D i H, ⟨kvs.length, by simp, Nat.zero_le _, h0 D hD⟩, ?_⟩⟩
  rintro i m H ⟨rfl, hi, p⟩
  have f := hf D i H hD p
  by_cases hlt : i < kvs.length
  · refine .inr ⟨⟨f, hlt⟩, Pv D (i + 1), fun H' p' => ⟨kvs.length - (i + 1), by omega, rfl, hlt, p'⟩, fun x H' y => ?_⟩
    obtain ⟨rfl, k, e⟩ := y
    exact hs D i k x _ hD e p
  · have e : i = kvs.length := by omega
    subst e
    exact .inl ⟨⟨f, Nat.le_refl _⟩, hd D H hD p⟩
/-- the lock -/
theorem g_lockE {t : TE} {σ : L2.St} {d : Addr} {u : HO} (h : H d = some u) (m : Mut (some u)) (q : ∀ od, t σ (upd H d (.frz od u)) fun v H' => H' d = some (.frz od u) ∧ Q v (upd H' d u)) : tLockE t σ H Q := ⟨d, u, h, m, q⟩
theorem g_lock {t : TS} {σ : L2.St} {D : Ends} {d : Addr} {u : HO} (h : H d = some u) (m : Mut (some u)) (q : ∀ od, t ⟨fun σ' H' => H' d = some (.frz od u) ∧ D.nx σ' (upd H' d u), fun v H' => H' d = some (.frz od u) ∧ D.rt v (upd H' d u), fun σ' H' => H' d = some (.frz od u) ∧ D.bk σ' (upd H' d u), fun σ' H' => H' d = some (.frz od u) ∧ D.ct σ' (upd H' d u)⟩ σ (upd H d (.frz od u))) : tLock t D σ H := ⟨d, u, h, m, q⟩
end
/-! ### len(d), list(d), new dicts, star displays -/
def rLenD : List V → Hp → VK → Prop := fun xs H Q => ∃ a kvs, xs = [V.ref a] ∧ H a = some (.dK kvs) ∧ Q (.int kvs.length) H
theorem c_lenD {X : Cx} : CallR X (.builtin "len") rLenD := call_lenD
section
variable {K : PySem.W.Frag} {H : Hp} {Q : VK} {a : Addr} {kvs : List (Key × V)}
theorem g_lenD (h : H a = some (.dK kvs)) (q : Q (.int kvs.length) H) : rLenD [.ref a] H Q := ⟨a, kvs, rfl, h, q⟩
theorem g_listD (h : H a = some (.dK kvs)) (q : ∀ p H2, H p = none → Ex H H2 → H2 p = some (.lst (kvs.map fun kv => kV kv.1)) → Q (.ref p) H2) : rListD [.ref a] H Q := ⟨a, kvs, rfl, h, fun p hp => q p _ hp (Ex.new hp) upd_same⟩
theorem g_dnew {σ : L2.St} (q : ∀ p H2, H p = none → Ex H H2 → H2 p = some (.dK []) → Q (.ref p) H2) : tDNewK σ H Q := fun p hp => q p _ hp (Ex.new hp) upd_same
theorem g_eqD0 {b : Addr} (h1 : H a = some (.dK kvs)) (h2 : H b = some (.dK [])) (q : Q (.bl kvs.isEmpty) H) : rEqD0 (.ref a) (.ref b) H Q := ⟨a, b, kvs, rfl, rfl, h1, h2, q⟩
end
/-! ### an error without fields, told by `_law_raised` -/
def erNames : List Str := ["BeingRead", "InvalidNumber", "UnknownBook", "Contradiction", "InvalidOperation", "DiaryError"]
def erNm (j : Nat) : Str := erNames.getD j "other"
def erWord (j : Nat) : Str := (["read", "number", "book", "contradiction"] : List Str).getD j "other"
structure ExcR (K : PySem.W.Frag) (D : Addr) (j : Nat) : Prop where
  ex : PySem.W.excIn K D He.veBase "ValueError.__new__" = true
  kp : PySem.W.keepIn K (.ref D) = true
  sb : PySem.W.subIn K (.ref D) (.type "BaseException") = some true
  ty : PySem.W.typeIn K (.ref D) = some (.type "type")
  c : ExcC K D
  is_ : ∀ i, i < 6 → PySem.W.kitOne K (.ref D) (.ref (He.ga K (erNm i))) = some (decide (i = j))
  ve : PySem.W.kitOne K (.ref D) (.type "ValueError") = some true
  re : PySem.W.exmOne K (.ref D) (.ref (He.ga K "ReadingError")) = some true
def excRB (K : PySem.W.Frag) (D : Addr) (j : Nat) : Bool := PySem.W.excIn K D He.veBase "ValueError.__new__" && (PySem.W.keepIn K (.ref D) && (decide (PySem.W.subIn K (.ref D) (.type "BaseException") = some true) && (decide (PySem.W.typeIn K (.ref D) = some (.type "type")) && (excCB K D &&
  ((List.range 6).all (fun i => decide (PySem.W.kitOne K (.ref D) (.ref (He.ga K (erNm i))) = some (decide (i = j)))) && (decide (PySem.W.kitOne K (.ref D) (.type "ValueError") = some true) && decide (PySem.W.exmOne K (.ref D) (.ref (He.ga K "ReadingError")) = some true)))))))
theorem excR_ok {K : PySem.W.Frag} {D : Addr} {j : Nat} (h : excRB K D j = true) : ExcR K D j := by
  obtain ⟨h1, h⟩ := He.ba h
  obtain ⟨h2, h⟩ := He.ba h
  obtain ⟨h3, h⟩ := He.ba h
  obtain ⟨h4, h⟩ := He.ba h
  obtain ⟨h5, h⟩ := He.ba h
  obtain ⟨h6, h⟩ := He.ba h
  obtain ⟨h7, h8⟩ := He.ba h
  exact ⟨h1, h2, of_decide_eq_true h3, of_decide_eq_true h4, excC_ok h5, fun i hi => of_decide_eq_true (List.all_eq_true.mp h6 i (List.mem_range.mpr hi)), of_decide_eq_true h7, of_decide_eq_true h8⟩
/-! ### y = {k: v for ..} -/
theorem ps_setDc {X : Cx} {i : Nat} {y : Str} {py : Pos} {kx vx tg iter : Expr} {ifs : List Expr} {scope : Scope} {own : List (Str × Nat)} {pos spos : Pos} {wi : TI} {g : TG} {tt : TT} {tk tv : TE} (hc : X.calm = true) (hN : X.N.Nodup) (hy : X.N[i]? = some y) (hyl : X.env.scope.names.lookup y = some .local)
    (hsw : swapsWith (.DictComp kx vx [⟨tg, iter, ifs, 0⟩] scope pos) (some (.Name y py)) spos.line X.env = pure true) (hi : PI X tg iter wi) (ok : BlkOk X.N X.env.scope scope own)
    (hg : ∀ (s : Shared) (H : Hp) (C : Addr) (cl : List (Str × Addr)) (fp : List Addr), PG (X.blk s H scope (compEnvC scope cl C X.env) fp) tg g) (ht : ∀ (s : Shared) (H : Hp) (C : Addr) (cl : List (Str × Addr)) (fp : List Addr), PTs (X.blk s H scope (compEnvC scope cl C X.env) fp) ifs tt)
    (hk : ∀ (s : Shared) (H : Hp) (C : Addr) (cl : List (Str × Addr)) (fp : List Addr), PE (X.blk s H scope (compEnvC scope cl C X.env) fp) kx tk)
    (he : ∀ (s : Shared) (H : Hp) (C : Addr) (cl : List (Str × Addr)) (fp : List Addr), PE (X.blk s H scope (compEnvC scope cl C X.env) fp) vx tv) (hs : ∀ x, foldedSetIterable iter X.env x = pure x := by intro _; rfl) :
    PS X (.Assign [.Name y py] (.DictComp kx vx [⟨tg, iter, ifs, 0⟩] scope pos) spos) (tAsg (tDc wi g tt tk tv (own.map (·.2))) (gName i)) := by
  refine ⟨fun pins s σ H D I h => ?_⟩
  rw [exec_Assign_Name_used _ _ _ _ hsw]
  refine wpAny_bind (wpAny_standAt (wpAny_bind ?_))
  show wpAny _ X.A (do let _ ← comprehension (.DictComp kx vx [⟨tg, iter, ifs, 0⟩] scope pos) scope X.env (firstIterPos [⟨tg, iter, ifs, 0⟩] pos) newDict false (eval iter X.env) (some (assign (.Name y py) X.env))) _ _ s
  have h : tDc wi g tt tk tv (own.map (·.2)) σ H (fun x H1 => gName i x σ H1 D.nx) := h
  refine wpAny_bind (thn (dc_core (Qf := fun _ s' => SP X pins D .next s') hc hN I hi ok hg ht hk he hs h fun L C s' m H' I' q hn f => ?_) fun _ s' hq => wpAny_pure (wpAny_pure hq))
  show wpAny _ _ (assign (.Name y py) X.env (.ref L)) _ _ _
  refine wpAny_assign_Name (store_ok2 (v := V.ref L) I' hN hy (.inl hyl) rfl (fun s2 I2 ⟨a, sb, ha⟩ => ?_) (.inr hyl))
  obtain ⟨f0, f1, f2, f3, f4, f5⟩ := f
  have haC : C ≠ a := by
    rcases ha with z | z
    · rw [z]; exact f1
    · exact fun e => f4 y a z e.symm
  refine ⟨m, hn.sameBut sb haC, fun h3 sb3 => ?_⟩
  exact ⟨_, H', I2.turned (t' := s2.toks) (fun b o hb e => (sb3.2 b hb).trans e) f0 f1 f3 f4 f5, q⟩
theorem sw_trueD {kx vx : Expr} {gs : List Comprehension} {scope : Scope} {pos py : Pos} {y : Str} {l : Nat} {env : Env} (hk : env.scope.kind = .function) (hy : env.scope.names.lookup y = some .local) (hl : (py.line == pos.line) = true)
    (ha : (scope.names.any fun (n, k) => n == y && (k == .local || k == .cell)) = false) : swapsWith (.DictComp kx vx gs scope pos) (some (.Name y py)) l env = pure true := by
  have ky : env.kindOf y = some .local := hy
  have hb : env.blockKind = .function := by unfold Env.blockKind; rw [hk]; rfl
  unfold swapsWith
  simp only [hb, ky, ha, Expr.pos, hl]
  rfl
/-! ### if a if c else b: as a test -/
def tIfT (tc ta tb : TT) : TT := fun σ H Q => tc σ H fun c H1 => if c = true then ta σ H1 Q else tb σ H1 Q
def kIfT (ta tb : TT) (σ : L2.St) (Q : Bool → Hp → Prop) : Bool → Hp → Prop := fun c H1 => if c = true then ta σ H1 Q else tb σ H1 Q
theorem pt_ifExp {X : Cx} {a b c : Expr} {tc ta tb : TT} {pos : Pos} (hc : PT X c tc) (ha : PT X a ta) (hb : PT X b tb) : PT X (.IfExp c a b pos) (tIfT tc ta tb) := by
  refine ⟨fun pins s σ H Q I h => ?_⟩
  show wpAny (model X.prog X.w) X.A (isTrue c X.env (eval c X.env) >>= fun d => if d = true then isTrue a X.env (eval a X.env) else isTrue b X.env (eval b X.env)) (TP X pins σ Q) X.xe s
  refine wpAny_bind (thn (hc.run pins s σ H _ I h) fun d s1 ⟨H1, I1, q1⟩ => ?_)
  cases d with
  | true => exact ha.run pins s1 σ H1 Q I1 q1
  | false => exact hb.run pins s1 σ H1 Q I1 q1
theorem g_ifT {tc ta tb : TT} {σ : L2.St} {H : Hp} {Q : Bool → Hp → Prop} (q : tc σ H (kIfT ta tb σ Q)) : tIfT tc ta tb σ H Q := q
theorem g_kIfTt {ta tb : TT} {σ : L2.St} {H : Hp} {Q : Bool → Hp → Prop} (q : ta σ H Q) : kIfT ta tb σ Q true H := q
theorem g_kIfTf {ta tb : TT} {σ : L2.St} {H : Hp} {Q : Bool → Hp → Prop} (q : tb σ H Q) : kIfT ta tb σ Q false H := q
theorem cr_setLw {X : Cx} (K : PySem.W.Frag) (w : World) (hc : X.calm = true) (h : X.K = K := by rfl) (h2 : X.w = w := by rfl) : CallR X (.type "set") (rSetL K w) := by subst h; subst h2; exact cr_setL hc
theorem c_lenSw {X : Cx} (w : World) (h2 : X.w = w := by rfl) : CallR X (.builtin "len") (rLenS w) := by subst h2; exact c_lenS
end G48
namespace G48
open PySem PySem.Spec PyProof.Rows L2 Evl
def top (i : Nat) : Stmt := PySem.Challenge.pw_readingring_k58_whole_observers_by_all_d.main.body.getD i (.Pass ⟨0, 0, 0, 0⟩)

end G48
namespace G48
open PySem PySem.Spec PyProof.Rows L2 Evl
def gd (x : Str) (st : Stmt) : He5.DefA := ⟨fun K => He.ga K x, x, x, defArgs st, defBody st, defScope st, [], []⟩
def md (C x q : Str) (st : Stmt) : He5.DefA := ⟨fun K => He.ma K (He.ga K C) x, x, q, defArgs st, defBody st, defScope st, [], []⟩
def prd (C x q : Str) (st : Stmt) : He5.DefA := ⟨fun K => Gp.pga K (He.ga K C) x, x, q, defArgs st, defBody st, defScope st, [], []⟩
def cmd (C x q : Str) (st : Stmt) : He5.DefA := ⟨fun K => cmA K (He.ga K C) x, x, q, defArgs st, defBody st, defScope st, [], []⟩
abbrev s_is_integer : Stmt := top 16
abbrev s_check_number : Stmt := top 17
abbrev s_check_days : Stmt := top 18
abbrev s_check_starts : Stmt := top 19
abbrev s_Ring___init__ : Stmt := inClass (top 20) 0
abbrev s_Ring_books : Stmt := inClass (top 20) 4
abbrev s_Ring___len__ : Stmt := inClass (top 20) 6
abbrev s_Ring_need_reader : Stmt := inClass (top 20) 12
abbrev s_Ring_with_days : Stmt := inClass (top 20) 13
abbrev s__law_taken : Stmt := top 26
abbrev s__law_parts : Stmt := top 27
abbrev s_Course_next_row : Stmt := inClass (top 21) 1
abbrev s_Course_is_shifted : Stmt := inClass (top 21) 2
abbrev s_Course_is_settled : Stmt := inClass (top 21) 3
abbrev s_Course___init__ : Stmt := inClass (top 21) 0
abbrev s_Course_end : Stmt := inClass (top 21) 4
abbrev s_Ring_days : Stmt := inClass (top 20) 2
abbrev s_Ring_starts : Stmt := inClass (top 20) 3
abbrev s_Ring___getitem__ : Stmt := inClass (top 20) 7
abbrev s_Ring___call__ : Stmt := inClass (top 20) 11
abbrev s__law_raised : Stmt := top 28
abbrev s_DaysObserver_accept : Stmt := inClass (top 24) 3
abbrev s_DaysObserver_see_open : Stmt := inClass (top 24) 2
abbrev s_DaysObserver_see_end : Stmt := inClass (top 24) 1
abbrev s_DaysObserver___init__ : Stmt := inClass (top 24) 0
abbrev s_DaysObserver_possible_days : Stmt := inClass (top 24) 5
abbrev s_DaysObserver_observations : Stmt := inClass (top 24) 6
abbrev s_DaysObserver_possible_ends : Stmt := inClass (top 24) 7
abbrev s_DaysObserver_telling_number : Stmt := inClass (top 24) 8
abbrev s_DaysObserver_from_log : Stmt := inClass (top 24) 4
abbrev s_law : Stmt := top 29
def fnL : List He5.DefA := [gd "is_integer" s_is_integer, gd "check_number" s_check_number, gd "check_days" s_check_days, gd "check_starts" s_check_starts, md "Ring" "__init__" "Ring.__init__" s_Ring___init__, prd "Ring" "books" "Ring.books" s_Ring_books, md "Ring" "__len__" "Ring.__len__" s_Ring___len__, md "Ring" "need_reader" "Ring.need_reader" s_Ring_need_reader, md "Ring" "with_days" "Ring.with_days" s_Ring_with_days, gd "_law_taken" s__law_taken, gd "_law_parts" s__law_parts, md "Course" "next_row" "Course.next_row" s_Course_next_row, md "Course" "is_shifted" "Course.is_shifted" s_Course_is_shifted, md "Course" "is_settled" "Course.is_settled" s_Course_is_settled, md "Course" "__init__" "Course.__init__" s_Course___init__, md "Course" "end" "Course.end" s_Course_end, prd "Ring" "days" "Ring.days" s_Ring_days, prd "Ring" "starts" "Ring.starts" s_Ring_starts, md "Ring" "__getitem__" "Ring.__getitem__" s_Ring___getitem__, md "Ring" "__call__" "Ring.__call__" s_Ring___call__, gd "_law_raised" s__law_raised, md "DaysObserver" "accept" "DaysObserver.accept" s_DaysObserver_accept, md "DaysObserver" "see_open" "DaysObserver.see_open" s_DaysObserver_see_open, md "DaysObserver" "see_end" "DaysObserver.see_end" s_DaysObserver_see_end, md "DaysObserver" "__init__" "DaysObserver.__init__" s_DaysObserver___init__, prd "DaysObserver" "possible_days" "DaysObserver.possible_days" s_DaysObserver_possible_days, prd "DaysObserver" "observations" "DaysObserver.observations" s_DaysObserver_observations, md "DaysObserver" "possible_ends" "DaysObserver.possible_ends" s_DaysObserver_possible_ends, md "DaysObserver" "telling_number" "DaysObserver.telling_number" s_DaysObserver_telling_number, cmd "DaysObserver" "from_log" "DaysObserver.from_log" s_DaysObserver_from_log, gd "law" s_law]
def fasL : List Gp.FB := [fun K => (He.Fa.free "len").ok K,
  fun K => (He.Fa.free "isinstance").ok K,
  fun K => (He.Fa.free "int").ok K,
  fun K => (He.Fa.free "bool").ok K,
  fun K => (He.Fa.free "tuple").ok K,
  fun K => (He.Fa.free "list").ok K,
  fun K => (He.Fa.free "max").ok K,
  fun K => (He.Fa.free "min").ok K,
  fun K => (He.Fa.free "sum").ok K,
  fun K => (He.Fa.free "range").ok K,
  fun K => (He.Fa.free "enumerate").ok K,
  fun K => (He.Fa.free "zip").ok K,
  fun K => (He.Fa.free "all").ok K,
  fun K => (He.Fa.free "any").ok K,
  fun K => (He.Fa.free "sorted").ok K,
  fun K => (He.Fa.free "str").ok K,
  fun K => (He.Fa.free "set").ok K,
  fun K => (He.Fa.free "abs").ok K,
  fun K => (He.Fa.free "divmod").ok K,
  fun K => (He.Fa.free "bytes").ok K,
  fun K => (He.Fa.free "dict").ok K,
  fun K => (He.Fa.free "ValueError").ok K,
  fun K => (He.Fa.glo "is_integer").ok K,
  fun K => (He.Fa.glo "check_number").ok K,
  fun K => (He.Fa.glo "check_days").ok K,
  fun K => (He.Fa.glo "check_starts").ok K,
  fun K => (He.Fa.mkr "Ring").ok K,
  fun K => (He.Fa.glo "Ring").ok K,
  fun K => Gp.ppB K (He.ga K "Ring") "books",
  fun K => (He.Fa.meth "Ring" "__len__").ok K,
  fun K => (He.Fa.meth "Ring" "need_reader").ok K,
  fun K => (He.Fa.meth "Ring" "with_days").ok K,
  fun K => (He.Fa.glo "_law_taken").ok K,
  fun K => (He.Fa.glo "_law_parts").ok K,
  fun K => (He.Fa.meth "Course" "next_row").ok K,
  fun K => (He.Fa.meth "Course" "is_shifted").ok K,
  fun K => (He.Fa.meth "Course" "is_settled").ok K,
  fun K => (He.Fa.mkr "Course").ok K,
  fun K => (He.Fa.glo "Course").ok K,
  fun K => (He.Fa.meth "Course" "end").ok K,
  fun K => Gp.ppB K (He.ga K "Ring") "days",
  fun K => Gp.ppB K (He.ga K "Ring") "starts",
  fun K => (He.Fa.meth "Ring" "__getitem__").ok K,
  fun K => (He.Fa.meth "Ring" "__call__").ok K,
  fun K => (He.Fa.glo "_law_raised").ok K,
  fun K => (He.Fa.meth "DaysObserver" "accept").ok K,
  fun K => (He.Fa.meth "DaysObserver" "see_open").ok K,
  fun K => (He.Fa.meth "DaysObserver" "see_end").ok K,
  fun K => (He.Fa.mkr "DaysObserver").ok K,
  fun K => (He.Fa.glo "DaysObserver").ok K,
  fun K => Gp.ppB K (He.ga K "DaysObserver") "possible_days",
  fun K => Gp.ppB K (He.ga K "DaysObserver") "observations",
  fun K => (He.Fa.meth "DaysObserver" "possible_ends").ok K,
  fun K => (He.Fa.meth "DaysObserver" "telling_number").ok K,
  fun K => cmB K (He.ga K "DaysObserver") "from_log",
  fun K => (He.Fa.glo "law").ok K,
  fun K => (He.Fa.cls "Ring").ok K,
  fun K => (He.Fa.noat "Ring" "spans").ok K,
  fun K => (He.Fa.noat "Ring" "heaps").ok K,
  fun K => (He.Fa.noat "Ring" "total").ok K,
  fun K => (He.Fa.cls "Course").ok K,
  fun K => (He.Fa.noat "Course" "ring").ok K,
  fun K => (He.Fa.noat "Course" "size").ok K,
  fun K => (He.Fa.noat "Course" "every").ok K,
  fun K => (He.Fa.noat "Course" "shift").ok K,
  fun K => (He.Fa.noat "Course" "rows").ok K,
  fun K => (He.Fa.noat "Course" "first").ok K,
  fun K => (He.Fa.cls "DaysObserver").ok K,
  fun K => (He.Fa.noat "DaysObserver" "courses").ok K,
  fun K => (He.Fa.noat "DaysObserver" "sample").ok K,
  fun K => (He.Fa.noat "DaysObserver" "seen").ok K,
  fun K => (He.Fa.int "MAX_READERS" 8).ok K,
  fun K => (He.Fa.int "MAX_DAYS" 30).ok K,
  fun K => (He.Fa.int "MAX_BOOKS" 12).ok K,
  fun K => (He.Fa.int "MAX_NUMBER" 1000000000000000000).ok K,
  fun K => (He.Fa.glo "ReadingError").ok K,
  fun K => (He.Fa.glo "BeingRead").ok K,
  fun K => (He.Fa.glo "InvalidNumber").ok K,
  fun K => (He.Fa.glo "UnknownBook").ok K,
  fun K => (He.Fa.glo "Contradiction").ok K,
  fun K => (He.Fa.glo "InvalidOperation").ok K,
  fun K => (He.Fa.glo "DiaryError").ok K,
  fun K => excRB K (He.ga K "Contradiction") 3,
  fun K => (He.Fa.int "MAX_ENTRIES" 500).ok K]
abbrev RW := PySem.Challenge.rw_readingring_k58_whole_observers_by_all_d
abbrev hk : PySem.W.Hook := hookL 6 fasL fnL
def ob (s : PySem.W.SharedT) : AlL := obsL 6 fasL fnL (HandSHeadRun.getT s)
theorem ob_eq (s : PySem.W.SharedT) : ob s = hk.obs s.abs := obsL_eq (HandSHeadRun.getT_eq s)
abbrev RR : PySem.W.OpenRow := PySem.W.OpenLaw.row RW
def loose : List Str := [("_wall" : Str), ("ReadingError" : Str), ("InvalidRing" : Str), ("UnknownReader" : Str), ("UnknownBook" : Str), ("InvalidNumber" : Str), ("BeingRead" : Str), ("InvalidOperation" : Str), ("DiaryError" : Str), ("Contradiction" : Str), ("MAX_READERS" : Str), ("MAX_DAYS" : Str), ("MAX_BOOKS" : Str), ("MAX_NUMBER" : Str), ("is_integer" : Str), ("check_number" : Str), ("check_days" : Str), ("check_starts" : Str), ("Ring" : Str), ("Course" : Str), ("MAX_ENTRIES" : Str), ("DaysObserver" : Str), ("_law_taken" : Str), ("_law_parts" : Str), ("_law_raised" : Str)]
set_option maxHeartbeats 0 in
theorem run (w : World) : HandSHeadRun.RunEq RR (PySem.W.view RR.prog [29]) hk ob 40000 loose w := by
  intro os
  kernel_rfl
end G48
namespace G48
open PySem PySem.Spec PyProof.Rows L2 Evl
abbrev N_is_integer : List Str := ["value", "low", "high"]
theorem sc_is_integer : FnScope N_is_integer ["value", "low", "high"] (defScope s_is_integer) := ⟨rfl, rfl, rfl, by decide +kernel, rfl, by decide +kernel, by decide +kernel⟩
theorem b_is_integer : BindL "is_integer" "is_integer" s_is_integer ["value", "low", "high"] := fun _ _ _ _ _ _ us hl => match us, hl with | [_, _, _], _ => rfl
abbrev N_check_number : List Str := ["number", "low", "high"]
theorem sc_check_number : FnScope N_check_number ["number", "low", "high"] (defScope s_check_number) := ⟨rfl, rfl, rfl, by decide +kernel, rfl, by decide +kernel, by decide +kernel⟩
theorem b_check_number : BindL "check_number" "check_number" s_check_number ["number", "low", "high"] := fun _ _ _ _ _ _ us hl => match us, hl with | [_, _, _], _ => rfl
abbrev N_check_days : List Str := ["days", "index", "number"]
theorem sc_check_days : FnScope N_check_days ["days"] (defScope s_check_days) := ⟨rfl, rfl, rfl, by decide +kernel, rfl, by decide +kernel, by decide +kernel⟩
theorem b_check_days : BindL "check_days" "check_days" s_check_days ["days"] := fun _ _ _ _ _ _ us hl => match us, hl with | [_], _ => rfl
abbrev N_check_starts : List Str := ["days", "starts", "index", "number"]
theorem sc_check_starts : FnScope N_check_starts ["days", "starts"] (defScope s_check_starts) := ⟨rfl, rfl, rfl, by decide +kernel, rfl, by decide +kernel, by decide +kernel⟩
theorem b_check_starts : BindL "check_starts" "check_starts" s_check_starts ["days", "starts"] := fun _ _ _ _ _ _ us hl => match us, hl with | [_, _], _ => rfl
abbrev N_Ring___init__ : List Str := ["self", "days", "starts"]
theorem sc_Ring___init__ : FnScope N_Ring___init__ ["self", "days", "starts"] (defScope s_Ring___init__) := ⟨rfl, rfl, rfl, by decide +kernel, rfl, by decide +kernel, by decide +kernel⟩
theorem b_Ring___init__ : BindL "Ring.__init__" "__init__" s_Ring___init__ ["self", "days", "starts"] := fun _ _ _ _ _ _ us hl => match us, hl with | [_, _, _], _ => rfl
abbrev N_Ring_books : List Str := ["self"]
theorem sc_Ring_books : FnScope N_Ring_books ["self"] (defScope s_Ring_books) := ⟨rfl, rfl, rfl, by decide +kernel, rfl, by decide +kernel, by decide +kernel⟩
theorem b_Ring_books : BindL "Ring.books" "books" s_Ring_books ["self"] := fun _ _ _ _ _ _ us hl => match us, hl with | [_], _ => rfl
abbrev N_Ring___len__ : List Str := ["self"]
theorem sc_Ring___len__ : FnScope N_Ring___len__ ["self"] (defScope s_Ring___len__) := ⟨rfl, rfl, rfl, by decide +kernel, rfl, by decide +kernel, by decide +kernel⟩
theorem b_Ring___len__ : BindL "Ring.__len__" "__len__" s_Ring___len__ ["self"] := fun _ _ _ _ _ _ us hl => match us, hl with | [_], _ => rfl
abbrev N_Ring_need_reader : List Str := ["self", "reader"]
theorem sc_Ring_need_reader : FnScope N_Ring_need_reader ["self", "reader"] (defScope s_Ring_need_reader) := ⟨rfl, rfl, rfl, by decide +kernel, rfl, by decide +kernel, by decide +kernel⟩
theorem b_Ring_need_reader : BindL "Ring.need_reader" "need_reader" s_Ring_need_reader ["self", "reader"] := fun _ _ _ _ _ _ us hl => match us, hl with | [_, _], _ => rfl
abbrev N_Ring_with_days : List Str := ["self", "reader", "days"]
theorem sc_Ring_with_days : FnScope N_Ring_with_days ["self", "reader", "days"] (defScope s_Ring_with_days) := ⟨rfl, rfl, rfl, by decide +kernel, rfl, by decide +kernel, by decide +kernel⟩
theorem b_Ring_with_days : BindL "Ring.with_days" "with_days" s_Ring_with_days ["self", "reader", "days"] := fun _ _ _ _ _ _ us hl => match us, hl with | [_, _, _], _ => rfl
end G48
/-! the ring's own defs -/
namespace G48
open PySem PySem.Spec PyProof.Rows L2 Evl
/-! the steps -/
local macro_rules | `(tactic| walk_at "as") => `(tactic| with_reducible assumption)
local macro_rules | `(tactic| walk_at "hp") => `(tactic| first
  | with_reducible assumption
  | ((with_reducible apply SqT.of); walk_at "as")
  | ((with_reducible apply SqL.of); walk_at "as")
  | ((with_reducible apply ex_at); (focus walk_at "as"); walk_at "hp")
  | ((with_reducible apply ex_t); (focus walk_at "as"); walk_at "hp")
  | ((with_reducible apply ex_l); (focus walk_at "as"); walk_at "hp")
  | ((with_reducible apply exb_ins); (focus walk_at "as"); (focus walk_at "hp"); walk_at "hp")
  | ((with_reducible apply exb_t); (focus walk_at "as"); (focus walk_at "hp"); walk_at "hp")
  | ((with_reducible apply exb_at); (focus walk_at "as"); (focus walk_at "ne"); walk_at "hp")
  | ((with_reducible apply exb_l); (focus walk_at "as"); (focus walk_at "ne"); walk_at "hp"))
local macro_rules | `(tactic| walk_at "ne") => `(tactic| first
  | with_reducible assumption
  | exact Ne.symm (by with_reducible assumption)
  | exact ne_of_none (by with_reducible assumption) (by with_reducible assumption)
  | exact Ne.symm (ne_of_none (by with_reducible assumption) (by with_reducible assumption)))
local macro_rules | `(tactic| walk_at "tr") => `(tactic| first
  | rfl
  | with_reducible assumption
  | exact decide_eq_true (by first | with_reducible assumption | omega)
  | exact decide_eq_false (by first | with_reducible assumption | omega)
  | (rw [Bool.not_eq_true']; exact decide_eq_false (by first | with_reducible assumption | omega))
  | (rw [Bool.not_eq_false']; exact decide_eq_true (by first | with_reducible assumption | omega)))
local macro_rules | `(tactic| walk_at "nn") => `(tactic| first | with_reducible assumption | (exact List.cons_ne_nil _ _))
local macro_rules | `(tactic| walk_at "sz") => `(tactic| first | (exact sz1000 (Nat.le_of_ble_eq_true rfl)) | (refine sz1000 ?_; simp only [List.length_map, List.length_cons, List.length_nil, List.length_append]; omega) | with_reducible assumption)
local macro_rules | `(tactic| walk_at "sl") => `(tactic| first | with_reducible assumption | (refine lt1000 ?_; simp only [List.length_map, List.length_cons, List.length_nil, List.length_append]; omega) | (refine lt1000 ?_; omega))
local macro_rules | `(tactic| walk_at "ix") => `(tactic| first | rfl | with_reducible assumption)
local macro_rules | `(tactic| walk_at "rg") => `(tactic| exact RgOk.of_le (by omega) (by omega) (by omega) (by omega))
local macro_rules | `(tactic| walk_at "sp") => `(tactic| fail "sp")
local macro_rules | `(tactic| walk_at "cl") => `(tactic| with_reducible assumption)
local macro_rules | `(tactic| walk_at "lk") => `(tactic| with_reducible assumption)
local macro_rules | `(tactic| walk_at "it") => `(tactic| first | rfl | with_reducible assumption | exact atI_nat (by with_reducible assumption))
local macro_rules | `(tactic| walk_at "g1") => `(tactic| first
  | (with_reducible apply g_var); (focus rfl)
  | with_reducible apply g_c
  | with_reducible apply g_seq
  | with_reducible apply g_asg
  | with_reducible apply gg_name
  | with_reducible apply g_op
  | with_reducible apply g_cons
  | with_reducible apply g_nil
  | with_reducible apply g_cb
  | with_reducible apply g_fld
  | ((with_reducible apply g_kFld); (focus walk_at "hp"); (focus walk_at "cl"); (focus walk_at "cl"); (focus walk_at "lk"))
  | with_reducible apply g_call
  | walk_at "sp"
  | with_reducible apply g_ret
  | with_reducible apply g_drop
  | with_reducible apply g_test
  | with_reducible apply g_B
  | with_reducible apply g_kTest
  | with_reducible apply g_ifS
  | with_reducible apply g_kIfST
  | with_reducible apply g_kIfSF
  | with_reducible apply g_add
  | with_reducible apply g_sub
  | with_reducible apply g_lt
  | with_reducible apply g_le
  | with_reducible apply g_gt
  | with_reducible apply g_ge
  | with_reducible apply g_eqI
  | with_reducible apply g_neI
  | ((with_reducible apply g_mod); (focus first | decide | omega))
  | ((with_reducible apply g_mul); (focus first | (left; constructor <;> omega) | (right; constructor <;> omega)))
  | ((with_reducible apply g_fdiv); (focus (constructor <;> omega)))
  | ((with_reducible apply g_ixT); (focus walk_at "hp"); (focus walk_at "it"))
  | ((with_reducible apply g_ixL); (focus walk_at "hp"); (focus walk_at "it"))
  | with_reducible apply g_and
  | with_reducible apply g_or
  | with_reducible apply g_not
  | with_reducible apply g_kNotT
  | with_reducible apply g_kNotF
  | with_reducible apply g_if
  | with_reducible apply g_kAndT
  | with_reducible apply g_kAndF
  | with_reducible apply g_kOrT
  | with_reducible apply g_kOrF
  | with_reducible apply g_kIfT
  | with_reducible apply g_kIfF
  | with_reducible apply g_next
  | with_reducible apply g_andV
  | with_reducible apply g_orV
  | with_reducible apply g_notV
  | with_reducible apply g_kNotV
  | with_reducible apply g_kAndVT
  | with_reducible apply g_kAndVF
  | with_reducible apply g_chain
  | with_reducible apply g_kChainT
  | with_reducible apply g_kChainF
  | with_reducible apply g_tup
  | with_reducible apply g_lst
  | ((with_reducible apply g_kT); (focus walk_at "sz"); intro _ _ _ _ _)
  | ((with_reducible apply g_kL); (focus walk_at "sz"); intro _ _ _ _ _)
  | with_reducible apply g_un
  | with_reducible apply g_neg
  | with_reducible apply g_meth
  | ((with_reducible apply g_kMeth); (focus walk_at "hp"); (focus walk_at "lk"))
  | with_reducible apply g_prop
  | ((with_reducible apply g_kProp); (focus walk_at "hp"))
  | with_reducible apply g_make
  | with_reducible apply g_par
  | with_reducible apply g_kPar
  | ((with_reducible apply g_lenLM); (focus walk_at "hp"))
  | ((with_reducible apply g_lenTM); (focus walk_at "hp"))
  | ((with_reducible apply g_lenL); (focus walk_at "hp"))
  | ((with_reducible apply g_lenT); (focus walk_at "hp"))
  | with_reducible apply g_int1
  | with_reducible apply g_max2
  | with_reducible apply g_min2
  | ((with_reducible apply g_listL); (focus walk_at "hp"); intro _ _ _ _ _)
  | ((with_reducible apply g_listT); (focus walk_at "hp"); intro _ _ _ _ _)
  | ((with_reducible apply g_tupL); (focus walk_at "hp"); intro _ _ _ _ _)
  | ((with_reducible apply g_sum); (focus walk_at "hp"))
  | with_reducible apply g_sfld
  | with_reducible apply g_sl
  | with_reducible apply g_nopart
  | with_reducible apply g_part
  | with_reducible apply g_kPart
  | with_reducible apply g_lstRg
  | with_reducible apply g_rg1
  | with_reducible apply g_kRg1
  | with_reducible apply g_bm
  | with_reducible apply gg_sub
  | ((with_reducible apply gg_tup); (focus walk_at "hp"); (focus rfl))
  | with_reducible apply gg_cons
  | with_reducible apply gg_nil
  | with_reducible apply g_forL
  | with_reducible apply g_forT
  | with_reducible apply g_forR1
  | with_reducible apply g_forR2
  | with_reducible apply g_forE
  | with_reducible apply g_forEL
  | ((with_reducible apply g_maxT); (focus walk_at "hp"); (focus walk_at "nn"))
  | ((with_reducible apply g_maxL); (focus walk_at "hp"); (focus walk_at "nn"))
  | ((with_reducible apply g_catA); (focus walk_at "hp"); (focus walk_at "hp"); (focus walk_at "sz"); intro _ _ _ _)
  | ((with_reducible apply g_slA); (focus walk_at "hp"); intro _ _ _ _)
  | ((with_reducible apply g_tupD); (focus walk_at "hp"); intro _ _ _ _ _)
  | ((with_reducible apply g_setL); (focus walk_at "hp"); (focus walk_at "ix"); intro _ _ _)
  | ((with_reducible apply g_append); (focus walk_at "hp"); (focus walk_at "sl"); intro _ _ _)
  | ((with_reducible apply g_aug); (focus rfl))
  | with_reducible apply g_ipI
  | with_reducible apply g_retN
  | with_reducible apply g_lcR1
  | with_reducible apply g_lcR2
  | with_reducible apply g_lcL
  | with_reducible apply g_lcU
  | with_reducible apply g_lcN
  | ((with_reducible apply g_kLcG); (focus rfl))
  | with_reducible apply g_yes
  | with_reducible apply g_kLcTT
  | with_reducible apply g_kLcTF
  | ((with_reducible apply g_kLcE); (focus walk_at "hp"); (focus walk_at "sl"); intro _ _ _)
  | ((with_reducible apply g_pow); (focus (constructor <;> (try constructor) <;> decide)))
  | ((with_reducible apply g_kLRg); (focus walk_at "rg"); intro _ _ _ _ _)
  | ((with_reducible apply g_cat); (focus walk_at "hp"); (focus walk_at "hp"); (focus walk_at "sz"); intro _ _ _ _ _)
  | ((with_reducible apply g_slL); (focus walk_at "hp"); intro _ _ _ _ _)
  | with_reducible apply g_bmT
  | with_reducible apply g_break
  | with_reducible apply g_cont)
local macro_rules | `(tactic| walk_at "g0") => `(tactic| try dsimp only [L2.cxOf, L2.Cx.nox, L2.Cx.wish])
local macro_rules | `(tactic| walk_at "yn") => `(tactic| first
  | ((with_reducible apply y_kIfS); (focus walk_at "tr"))
  | ((with_reducible apply n_kIfS); (focus walk_at "tr"))
  | ((with_reducible apply y_kOr); (focus walk_at "tr"))
  | ((with_reducible apply n_kOr); (focus walk_at "tr"))
  | ((with_reducible apply y_kAnd); (focus walk_at "tr"))
  | ((with_reducible apply n_kAnd); (focus walk_at "tr"))
  | ((with_reducible apply y_kNot); (focus walk_at "tr"))
  | ((with_reducible apply n_kNot); (focus walk_at "tr"))
  | ((with_reducible apply y_kIf); (focus walk_at "tr"))
  | ((with_reducible apply n_kIf); (focus walk_at "tr"))
  | ((with_reducible apply y_kAndV); (focus walk_at "tr"))
  | ((with_reducible apply n_kAndV); (focus walk_at "tr"))
  | ((with_reducible apply y_kOrV); (focus walk_at "tr"))
  | ((with_reducible apply n_kOrV); (focus walk_at "tr"))
  | ((with_reducible apply y_kChain); (focus walk_at "tr"))
  | ((with_reducible apply n_kChain); (focus walk_at "tr"))
  | ((with_reducible apply y_kLcT); (focus walk_at "tr"))
  | ((with_reducible apply n_kLcT); (focus walk_at "tr"))
  | ((with_reducible apply y_kWh); (focus walk_at "tr"))
  | ((with_reducible apply n_kWh); (focus walk_at "tr")))
local macro_rules | `(tactic| walk_at "go") => `(tactic| repeat (first | walk_at "g1" | walk_at "yn"))

/-! ### rings as data -/
structure RingOk (ds hs : List Int) : Prop where
  two : 2 ≤ ds.length
  eight : ds.length ≤ 8
  len : hs.length = ds.length
  dd : ∀ d ∈ ds, 1 ≤ d ∧ d ≤ 30
  hh : ∀ h ∈ hs, 0 ≤ h ∧ h ≤ 12
  one : 1 ≤ hs.sum
  twelve : hs.sum ≤ 12
def rf (a b : Addr) (B : Int) : List (Str × V) := [("spans", .ref a), ("heaps", .ref b), ("total", .int B)]
theorem s_sh : ¬ ("spans" : Str) = "heaps" := by decide +kernel
theorem s_st : ¬ ("spans" : Str) = "total" := by decide +kernel
theorem s_ht : ¬ ("heaps" : Str) = "total" := by decide +kernel
theorem s_hs : ¬ ("heaps" : Str) = "spans" := by decide +kernel
theorem rf_eq (a b : Addr) (B : Int) : putF "total" (.int B) (putF "heaps" (.ref b) (putF "spans" (.ref a) [])) = rf a b B := by
  show (if ("spans" : Str) = "total" then _ else _) = _
  unfold rf
  have e1 : putF "heaps" (.ref b) [(("spans" : Str), V.ref a)] = [(("spans" : Str), V.ref a), (("heaps" : Str), V.ref b)] := by
    show (if ("spans" : Str) = "heaps" then _ else _) = _
    rw [if_neg s_sh]
    rfl
  show putF "total" (.int B) (putF "heaps" (.ref b) [(("spans" : Str), V.ref a)]) = _
  rw [e1]
  show (if ("spans" : Str) = "total" then _ else (("spans" : Str), V.ref a) :: (if ("heaps" : Str) = "total" then _ else _)) = _
  rw [if_neg s_st, if_neg s_ht]
  rfl
theorem rf_look (a b : Addr) (B : Int) (f : Str) : (rf a b B).lookup f = if f = "total" then some (.int B) else if f = "heaps" then some (.ref b) else if f = "spans" then some (.ref a) else none := by
  rw [← rf_eq, lookup_putF, lookup_putF, lookup_putF]
  rfl
theorem rf_spans {a b : Addr} {B : Int} : (rf a b B).lookup ("spans" : Str) = some (.ref a) := by rw [rf_look, if_neg s_st, if_neg s_sh, if_pos rfl]
theorem rf_heaps {a b : Addr} {B : Int} : (rf a b B).lookup ("heaps" : Str) = some (.ref b) := by rw [rf_look, if_neg s_ht, if_pos rfl]
theorem rf_total {a b : Addr} {B : Int} : (rf a b B).lookup ("total" : Str) = some (.int B) := by rw [rf_look, if_pos rfl]
theorem rf_no {a b : Addr} {B : Int} {f : Str} (h1 : ¬ f = "total") (h2 : ¬ f = "heaps") (h3 : ¬ f = "spans") : (rf a b B).lookup f = none := by rw [rf_look, if_neg h1, if_neg h2, if_neg h3]
theorem rf_nr {a b : Addr} {B : Int} : (rf a b B).lookup ("need_reader" : Str) = none := rf_no (by decide +kernel) (by decide +kernel) (by decide +kernel)
theorem rf_wd {a b : Addr} {B : Int} : (rf a b B).lookup ("with_days" : Str) = none := rf_no (by decide +kernel) (by decide +kernel) (by decide +kernel)
structure RingC (K : PySem.W.Frag) (C : Addr) : Prop where
  cl : Cls K C
  nS : NoAttr K C "spans"
  nH : NoAttr K C "heaps"
  nT : NoAttr K C "total"
/-- the ring at r -/
structure RingIn (K : PySem.W.Frag) (C : Addr) (H : Hp) (r a b : Addr) (ds hs : List Int) : Prop where
  obj : ∃ dx, H r = some (.ins C dx (rf a b hs.sum))
  sp : SqT K H a (ds.map V.int)
  hp : SqT K H b (hs.map V.int)
  ok : RingOk ds hs
def RingAt (K : PySem.W.Frag) (C : Addr) (H : Hp) (r : Addr) (ds hs : List Int) : Prop := ∃ a b, RingIn K C H r a b ds hs
section
variable {K : PySem.W.Frag} {C : Addr} {H H' : Hp} {r a b l : Addr} {ds hs : List Int} {ys : List V}
theorem RingIn.ex (e : Ex H H') (R : RingIn K C H r a b ds hs) : RingIn K C H' r a b ds hs :=
  ⟨let ⟨dx, h⟩ := R.obj; ⟨dx, e _ _ h⟩, ex_t e R.sp, ex_t e R.hp, R.ok⟩
theorem RingIn.exb (e : Exb l H H') (hl : H l = some (.lst ys)) (R : RingIn K C H r a b ds hs) : RingIn K C H' r a b ds hs :=
  ⟨let ⟨dx, h⟩ := R.obj; ⟨dx, exb_ins e hl h⟩, exb_t e hl R.sp, exb_t e hl R.hp, R.ok⟩
theorem RingAt.ex (e : Ex H H') (R : RingAt K C H r ds hs) : RingAt K C H' r ds hs := let ⟨a, b, R⟩ := R; ⟨a, b, R.ex e⟩
theorem RingAt.exb (e : Exb l H H') (hl : H l = some (.lst ys)) (R : RingAt K C H r ds hs) : RingAt K C H' r ds hs := let ⟨a, b, R⟩ := R; ⟨a, b, R.exb e hl⟩
end
local macro_rules | `(tactic| walk_at "hp") => `(tactic| first
  | ((with_reducible apply RingIn.ex); (focus walk_at "as"); walk_at "hp")
  | ((with_reducible apply RingAt.ex); (focus walk_at "as"); walk_at "hp")
  | ((with_reducible apply RingIn.exb); (focus walk_at "as"); (focus walk_at "hp"); walk_at "hp")
  | ((with_reducible apply RingAt.exb); (focus walk_at "as"); (focus walk_at "hp"); walk_at "hp"))
local macro_rules | `(tactic| walk_at "lk") => `(tactic| first | with_reducible exact rf_spans | with_reducible exact rf_heaps | with_reducible exact rf_total | with_reducible exact rf_nr | with_reducible exact rf_wd)
/-! ### what isinstance says of plain values -/
def isI : V → Bool
  | .int _ => true
  | .bl _ => true
  | _ => false
def isB : V → Bool
  | .bl _ => true
  | _ => false
def inB (lo hi : Int) : V → Bool
  | .int i => decide (lo ≤ i) && decide (i ≤ hi)
  | _ => false
inductive Pl (K : PySem.W.Frag) (H : Hp) : V → Prop where
  | non : Pl K H .non
  | bl (b : Bool) : Pl K H (.bl b)
  | int (i : Int) : Pl K H (.int i)
  | str (x : Str) : Pl K H (.str x)
  | lst {a : Addr} {xs : List V} (h : H a = some (.lst xs)) : Pl K H (.ref a)
  | tup {a : Addr} {xs : List V} (h : H a = some (.tup xs)) : Pl K H (.ref a)
theorem kit_ii : kitB "int" "int" = some true := by decide +kernel
theorem kit_ib : kitB "int" "bool" = some false := by decide +kernel
theorem kit_bi : kitB "bool" "int" = some true := by decide +kernel
theorem kit_bb : kitB "bool" "bool" = some true := by decide +kernel
theorem kit_si : kitB "str" "int" = some false := by decide +kernel
theorem kit_sb : kitB "str" "bool" = some false := by decide +kernel
theorem kit_ni : kitB "NoneType" "int" = some false := by decide +kernel
theorem kit_nb : kitB "NoneType" "bool" = some false := by decide +kernel
theorem kit_li : kitB "list" "int" = some false := by decide +kernel
theorem kit_lb : kitB "list" "bool" = some false := by decide +kernel
theorem kit_ti : kitB "tuple" "int" = some false := by decide +kernel
theorem kit_tb : kitB "tuple" "bool" = some false := by decide +kernel
theorem kit_tt : kitB "tuple" "tuple" = some true := by decide +kernel
theorem kit_ll : kitB "list" "list" = some true := by decide +kernel
theorem Pl.ty {K : PySem.W.Frag} {H : Hp} {v : V} (h : Pl K H v) : ∃ u, TyX K H v u ∧ PySem.W.kitOne K u (.type "int") = some (isI v) ∧ PySem.W.kitOne K u (.type "bool") = some (isB v) := by
  cases h with
  | non => exact ⟨_, .base .non, kit_ty kit_ni, kit_ty kit_nb⟩
  | bl b => exact ⟨_, .base (.bl b), kit_ty kit_bi, kit_ty kit_bb⟩
  | int i => exact ⟨_, .base (.int i), kit_ty kit_ii, kit_ty kit_ib⟩
  | str x => exact ⟨_, .base (.str x), kit_ty kit_si, kit_ty kit_sb⟩
  | lst h => exact ⟨_, .base (.lst h), kit_ty kit_li, kit_ty kit_lb⟩
  | tup h => exact ⟨_, .base (.tup h), kit_ty kit_ti, kit_ty kit_tb⟩
theorem sqT_ty {K : PySem.W.Frag} {H : Hp} {a : Addr} {xs : List V} (h : SqT K H a xs) : TyX K H (.ref a) (.type "tuple") := by
  rcases h with (h | ⟨o, h⟩) | ⟨o, its, n, h, hc, _⟩
  · exact .base (.tup h)
  · exact .fTuple h
  · exact .kTuple h hc
theorem sqL_ty {K : PySem.W.Frag} {H : Hp} {a : Addr} {xs : List V} (h : SqL K H a xs) : TyX K H (.ref a) (.type "list") := by
  rcases h with (h | ⟨o, h⟩) | ⟨o, its, n, h, hc, _⟩
  · exact .base (.lst h)
  · exact .base (.frz h)
  · exact .kList h hc
theorem g_isiTup {K : PySem.W.Frag} {H : Hp} {a : Addr} {xs : List V} {Q : VK} (h : SqT K H a xs) (q : Q (.bl true) H) : rIsi K [.ref a, .ty "tuple"] H Q := g_isi (.ty _) (sqT_ty h) (kit_ty kit_tt) q
theorem g_isiLst {K : PySem.W.Frag} {H : Hp} {a : Addr} {xs : List V} {Q : VK} (h : SqL K H a xs) (q : Q (.bl true) H) : rIsi K [.ref a, .ty "list"] H Q := g_isi (.ty _) (sqL_ty h) (kit_ty kit_ll) q
local macro_rules | `(tactic| walk_at "sp") => `(tactic| first
  | ((with_reducible apply g_isiTup); (focus walk_at "hp"))
  | ((with_reducible apply g_isiLst); (focus walk_at "hp")))
section
variable {P : Program} {w : World} {K : PySem.W.Frag} {mg : Str → Option Value} {base : Heap} {C : Addr}
/-! ### is_integer, check_number -/
def sp_is_integer (K : PySem.W.Frag) : Sp := fun vs H Q _ => ∃ v lo hi, vs = [v, .int lo, .int hi] ∧ Pl K H v ∧ Q (.bl (inB lo hi v)) H
theorem ok_is_integer (Z : Blt mg) (G : GFun K mg "is_integer" s_is_integer) : Df P w K mg base 1 "is_integer" ["value", "low", "high"] (sp_is_integer K) := by
  refine Df.of G sc_is_integer b_is_integer (fun vs H Q E h => ?_) (fun f cdv A outer s H vs Q E hr h => ?_)
  · obtain ⟨v, lo, hi, rfl, _⟩ := h
    rfl
  · obtain ⟨v, lo, hi, rfl, hp, q⟩ := h
    obtain ⟨u, ty, k1, k2⟩ := hp.ty
    refine ⟨_, PSs.nox (pss_one (ps_ret (pe_and (pe_callB call_isi (by rfl) Z.zisinstance (by decide +kernel) (pa_cons (pv 0) (pa_cons (pe_bltn rfl Z.zint (v := .ty "int") (by decide +kernel) rfl) pa_nil))) (pe_and (pe_not (pe_callB call_isi (by rfl) Z.zisinstance (by decide +kernel) (pa_cons (pv 0) (pa_cons (pe_bltn rfl Z.zbool (v := .ty "bool") (by decide +kernel) rfl) pa_nil)))) (pe_one (pe_chain op_le op_le (pv 1) (pv 0) (pv 2))))))), ?_⟩
    walk_at "g0"
    walk_at "go"
    refine g_isi (.ty _) ty k1 ?_
    cases v with
    | int i =>
      refine g_kAndVT ?_
      walk_at "go"
      refine g_isi (.ty _) ty k2 ?_
      walk_at "go"
      refine g_kChain (fun h2 => ?_) (fun h2 => ?_)
      · walk_at "go"
        show Q _ _
        have e : inB lo hi (.int i) = decide (i ≤ hi) := by simp [inB, h2]
        rw [e] at q
        exact q
      · have e : inB lo hi (.int i) = false := by simp [inB, h2]
        rw [e] at q
        exact q
    | bl b =>
      refine g_kAndVT ?_
      walk_at "go"
      refine g_isi (.ty _) ty k2 ?_
      walk_at "go"
      exact q
    | _ => exact g_kAndVF q
theorem g_isint {H : Hp} {Q : VK} {E : XK} {i lo hi : Int} (h1 : lo ≤ i) (h2 : i ≤ hi) (q : Q (.bl true) H) : sp_is_integer K [.int i, .int lo, .int hi] H Q E :=
  ⟨_, lo, hi, rfl, .int i, by
    show Q (.bl (decide (lo ≤ i) && decide (i ≤ hi))) H
    rw [decide_eq_true h1, decide_eq_true h2]
    exact q⟩
local macro_rules | `(tactic| walk_at "sp") => `(tactic| ((with_reducible apply g_isint); (focus omega); (focus omega)))
def sp_check_number : Sp := fun vs H Q _ => ∃ i lo hi, vs = [.int i, .int lo, .int hi] ∧ (lo ≤ i ∧ i ≤ hi) ∧ Q .non H
theorem ok_check_number (Z : Blt mg) (D_is_integer : Df P w K mg base 1 "is_integer" ["value", "low", "high"] (sp_is_integer K)) (G : GFun K mg "check_number" s_check_number) : Df P w K mg base 2 "check_number" ["number", "low", "high"] sp_check_number := by
  refine Df.of G sc_check_number b_check_number (fun vs H Q E h => ?_) (fun f cdv A outer s H vs Q E hr h => ?_)
  · obtain ⟨i, lo, hi, rfl, _⟩ := h
    rfl
  · obtain ⟨i, lo, hi, rfl, ⟨h1, h2⟩, q⟩ := h
    refine ⟨_, PSs.nox (pss_one (ps_if (pt_not (pt_val (pg D_is_integer hr (pa_cons (pv 0) (pa_cons (pv 1) (pa_cons (pv 2) pa_nil)))))) (pss_one ps_never) pss_nil)), ?_⟩
    walk_at "g0"
    walk_at "go"
    exact q
theorem g_checkn {H : Hp} {Q : VK} {E : XK} {i lo hi : Int} (h1 : lo ≤ i) (h2 : i ≤ hi) (q : Q .non H) : sp_check_number [.int i, .int lo, .int hi] H Q E := ⟨i, lo, hi, rfl, ⟨h1, h2⟩, q⟩
local macro_rules | `(tactic| walk_at "sp") => `(tactic| ((with_reducible apply g_checkn); (focus omega); (focus omega)))
/-! ### check_days, check_starts -/
def sp_check_days (K : PySem.W.Frag) : Sp := fun vs H Q _ => ∃ (a : Addr) (ds : List Int), vs = [.ref a] ∧ SqT K H a (ds.map V.int) ∧ (2 ≤ ds.length ∧ ds.length ≤ 8) ∧ (∀ d ∈ ds, 1 ≤ d ∧ d ≤ 30) ∧ ∀ H', Ex H H' → Q .non H'
theorem at_int {ns : List Int} {i : Nat} {x : V} (h : (ns.map V.int)[i]? = some x) : ∃ n, x = .int n ∧ ns[i]? = some n ∧ n ∈ ns ∧ i < ns.length := by
  rw [List.getElem?_map] at h
  cases e : ns[i]? with
  | none => rw [e] at h; cases h
  | some n =>
    rw [e] at h
    exact ⟨n, (Option.some.inj h).symm, rfl, List.mem_of_getElem? e, (List.getElem?_eq_some_iff.mp e).1⟩
theorem ok_check_days (Z : Blt mg) (c_MAX_READERS : ∃ t, mg "MAX_READERS" = some (.int 8 t)) (c_MAX_DAYS : ∃ t, mg "MAX_DAYS" = some (.int 30 t))
    (D_is_integer : Df P w K mg base 1 "is_integer" ["value", "low", "high"] (sp_is_integer K)) (G : GFun K mg "check_days" s_check_days) : Df P w K mg base 2 "check_days" ["days"] (sp_check_days K) := by
  refine Df.of G sc_check_days b_check_days (fun vs H Q E h => ?_) (fun f cdv A outer s H vs Q E hr h => ?_)
  · obtain ⟨a, ds, rfl, _⟩ := h
    rfl
  · obtain ⟨a, ds, rfl, hS, ⟨h2, h8⟩, hd, q⟩ := h
    refine ⟨_, PSs.nox (pss_cons (ps_if (pt_not (pt_val (pe_callB call_isi (by rfl) Z.zisinstance (by decide +kernel) (pa_cons (pv 0) (pa_cons (pe_bltn rfl Z.ztuple (v := .ty "tuple") (by decide +kernel) rfl) pa_nil))))) (pss_one ps_never) pss_nil)
      (pss_cons (ps_for PassesOwn.never rfl (pi_enumT (by rfl) Z.zenumerate (pa_cons (pv 0) pa_nil)) (pg_tup (by rfl) (pgs_cons (pg_name (i := 1) sc_check_days.nd rfl (by first | exact Or.inl rfl | exact Or.inr rfl)) (pgs_cons (pg_name (i := 2) sc_check_days.nd rfl (by first | exact Or.inl rfl | exact Or.inr rfl)) pgs_nil))) (pss_one (ps_if (PW.pt (pw_or (pt_cmpR op_eq (pv 1) (pint c_MAX_READERS) (nomark _)) (pw_or1 (pt_not (pt_val (pg D_is_integer hr (pa_cons (pv 2) (pa_cons pe_int (pa_cons (pint c_MAX_DAYS) pa_nil))))))))) (pss_one ps_never) pss_nil)))
      (pss_one (ps_if (pt_cmpR op_lt (pe_callB c_len (by rfl) Z.zlen PySem.boot_len (pa_cons (pv 0) pa_nil)) pe_int (nomark _)) (pss_one ps_never) pss_nil)))), ?_⟩
    walk_at "g0"
    walk_at "go"
    refine g_kForE hS (fun i σ H' => ∃ v1 v2, σ = [some (.ref a), v1, v2] ∧ Ex H H') ⟨none, none, rfl, Ex.refl _⟩ (fun i σ H' _ ⟨_, _, _, e⟩ => ex_t e hS) ?_ ?_
    · rintro i x σ H' T H2 hx ⟨v1, v2, rfl, e1⟩ e2 nT hT
      obtain ⟨n, rfl, hn, hm, hi⟩ := at_int hx
      have := hd n hm
      walk_at "go"
      exact ⟨_, _, rfl, e1.trans e2⟩
    · rintro σ H' ⟨v1, v2, rfl, e1⟩
      walk_at "go"
      exact q _ e1
theorem g_checkd {H : Hp} {Q : VK} {E : XK} {a : Addr} {ds : List Int} (h : SqT K H a (ds.map V.int)) (h2 : 2 ≤ ds.length) (h8 : ds.length ≤ 8) (hd : ∀ d ∈ ds, 1 ≤ d ∧ d ≤ 30) (q : ∀ H', Ex H H' → Q .non H') : sp_check_days K [.ref a] H Q E := ⟨a, ds, rfl, h, ⟨h2, h8⟩, hd, q⟩
def sp_check_starts (K : PySem.W.Frag) : Sp := fun vs H Q _ => ∃ (a b : Addr) (ds hs : List Int), vs = [.ref a, .ref b] ∧ SqT K H a (ds.map V.int) ∧ SqT K H b (hs.map V.int) ∧ RingOk ds hs ∧ ∀ H', Ex H H' → Q .non H'
theorem ok_check_starts (Z : Blt mg) (c_MAX_BOOKS : ∃ t, mg "MAX_BOOKS" = some (.int 12 t))
    (D_is_integer : Df P w K mg base 1 "is_integer" ["value", "low", "high"] (sp_is_integer K)) (G : GFun K mg "check_starts" s_check_starts) : Df P w K mg base 2 "check_starts" ["days", "starts"] (sp_check_starts K) := by
  refine Df.of G sc_check_starts b_check_starts (fun vs H Q E h => ?_) (fun f cdv A outer s H vs Q E hr h => ?_)
  · obtain ⟨a, b, ds, hs, rfl, _⟩ := h
    rfl
  · obtain ⟨a, b, ds, hs, rfl, hS, hT, R, q⟩ := h
    have r1 := R.len
    have r2 := R.one
    have r3 := R.twelve
    refine ⟨_, PSs.nox (pss_cons (ps_if (pt_not (pt_val (pe_callB call_isi (by rfl) Z.zisinstance (by decide +kernel) (pa_cons (pv 1) (pa_cons (pe_bltn rfl Z.ztuple (v := .ty "tuple") (by decide +kernel) rfl) pa_nil))))) (pss_one ps_never) pss_nil)
      (pss_cons (ps_for PassesOwn.never rfl (pi_enumT (by rfl) Z.zenumerate (pa_cons (pv 1) pa_nil)) (pg_tup (by rfl) (pgs_cons (pg_name (i := 2) sc_check_starts.nd rfl (by first | exact Or.inl rfl | exact Or.inr rfl)) (pgs_cons (pg_name (i := 3) sc_check_starts.nd rfl (by first | exact Or.inl rfl | exact Or.inr rfl)) pgs_nil))) (pss_one (ps_if (PW.pt (pw_or (pt_cmpR op_eq (pv 2) (pe_callB c_len (by rfl) Z.zlen PySem.boot_len (pa_cons (pv 0) pa_nil)) (nomark _)) (pw_or1 (pt_not (pt_val (pg D_is_integer hr (pa_cons (pv 3) (pa_cons pe_int (pa_cons (pint c_MAX_BOOKS) pa_nil))))))))) (pss_one ps_never) pss_nil)))
      (pss_cons (ps_if (pt_cmpR op_lt (pe_callB c_len (by rfl) Z.zlen PySem.boot_len (pa_cons (pv 1) pa_nil)) (pe_callB c_len (by rfl) Z.zlen PySem.boot_len (pa_cons (pv 0) pa_nil)) (nomark _)) (pss_one ps_never) pss_nil)
      (pss_one (ps_if (pt_not (pt_chain op_le op_le pe_int (pe_callB (cr_sum rfl) (by rfl) Z.zsum (by decide +kernel) (pa_cons (pe_callTy c_list_of (by rfl) Z.zlist (by decide +kernel) (pa_cons (pv 1) pa_nil)) pa_nil)) (pint c_MAX_BOOKS))) (pss_one ps_never) pss_nil))))), ?_⟩
    walk_at "g0"
    walk_at "go"
    refine g_kForE hT (fun i σ H' => ∃ v1 v2, σ = [some (.ref a), some (.ref b), v1, v2] ∧ Ex H H') ⟨none, none, rfl, Ex.refl _⟩ (fun i σ H' _ ⟨_, _, _, e⟩ => ex_t e hT) ?_ ?_
    · rintro i x σ H' T H2 hx ⟨v1, v2, rfl, e1⟩ e2 nT hT2
      obtain ⟨n, rfl, hn, hm, hi⟩ := at_int hx
      have := R.hh n hm
      walk_at "go"
      exact ⟨_, _, rfl, e1.trans e2⟩
    · rintro σ H' ⟨v1, v2, rfl, e1⟩
      walk_at "go"
      rename_i e3 _
      exact q _ (e1.trans e3)
theorem g_checks {H : Hp} {Q : VK} {E : XK} {a b : Addr} {ds hs : List Int} (h : SqT K H a (ds.map V.int)) (h2 : SqT K H b (hs.map V.int)) (R : RingOk ds hs) (q : ∀ H', Ex H H' → Q .non H') : sp_check_starts K [.ref a, .ref b] H Q E := ⟨a, b, ds, hs, rfl, h, h2, R, q⟩
/-! ### lowest_terms, pace_of -/
/-- a fraction in lowest terms -/
def low (a b : Int) : Int × Int := (a / (Int.gcd a b : Int), b / (Int.gcd a b : Int))
def RTup (K : PySem.W.Frag) (H : Hp) (xs : List V) (Q : VK) : Prop := ∀ p H', Ex H H' → SqT K H' p xs → Q (.ref p) H'
def sp_lowest_terms (K : PySem.W.Frag) : Sp := fun vs H Q _ => ∃ a b : Int, vs = [.int a, .int b] ∧ (0 < a ∧ 0 < b ∧ b < 1073741824) ∧ RTup K H [.int (low a b).1, .int (low a b).2] Q
theorem gcd_step (a b : Int) : Int.gcd b (a % b) = Int.gcd a b := by
  rw [Int.gcd_comm a b, Int.emod_def, Int.gcd_sub_mul_left_right]
theorem g_lowest {H : Hp} {Q : VK} {E : XK} {a b : Int} (h1 : 0 < a) (h2 : 0 < b) (h3 : b < 1073741824) (q : RTup K H [.int (low a b).1, .int (low a b).2] Q) : sp_lowest_terms K [.int a, .int b] H Q E := ⟨a, b, rfl, ⟨h1, h2, h3⟩, q⟩
/-- the pace -/
def paceN (ds : List Int) (B : Int) : Int × Int := if ds.sum ≤ mx ds * B then (mx ds, 1) else low ds.sum B
def PaceV (ds : List Int) (B : Int) : List V := [.int (paceN ds B).1, .int (paceN ds B).2]
structure DaysOk (ds : List Int) : Prop where
  two : 2 ≤ ds.length
  eight : ds.length ≤ 8
  dd : ∀ d ∈ ds, 1 ≤ d ∧ d ≤ 30
theorem DaysOk.ne {ds : List Int} (h : DaysOk ds) : ds ≠ [] := fun e => by
  have := h.two
  rw [e] at this
  simp at this
theorem DaysOk.mx {ds : List Int} (h : DaysOk ds) : 1 ≤ mx ds ∧ mx ds ≤ 30 := h.dd _ (mx_mem h.ne)
theorem sum_le {ds : List Int} {lo hi : Int} (h : ∀ d ∈ ds, lo ≤ d ∧ d ≤ hi) : lo * ds.length ≤ ds.sum ∧ ds.sum ≤ hi * ds.length := by
  induction ds with
  | nil => simp
  | cons x r ih =>
    have h1 := h x List.mem_cons_self
    have h2 := ih fun d hd => h d (List.mem_cons_of_mem _ hd)
    rw [List.sum_cons, List.length_cons]
    have e1 : lo * ((r.length + 1 : Nat) : Int) = lo * r.length + lo := by
      rw [Int.natCast_add, Int.mul_add]
      simp
    have e2 : hi * ((r.length + 1 : Nat) : Int) = hi * r.length + hi := by
      rw [Int.natCast_add, Int.mul_add]
      simp
    omega
theorem DaysOk.sum {ds : List Int} (h : DaysOk ds) : 2 ≤ ds.sum ∧ ds.sum ≤ 240 := by
  have h1 := sum_le h.dd
  have h2 := h.two
  have h3 := h.eight
  omega
theorem RingOk.days {ds hs : List Int} (h : RingOk ds hs) : DaysOk ds := ⟨h.two, h.eight, h.dd⟩
def sp_pace_of (K : PySem.W.Frag) : Sp := fun vs H Q _ => ∃ (a : Addr) (ds : List Int) (B : Int), vs = [.ref a, .int B] ∧ SqT K H a (ds.map V.int) ∧ DaysOk ds ∧ (1 ≤ B ∧ B ≤ 1000) ∧ RTup K H (PaceV ds B) Q
theorem g_paceof {H : Hp} {Q : VK} {E : XK} {a : Addr} {ds : List Int} {B : Int} (h : SqT K H a (ds.map V.int)) (hd : DaysOk ds) (hb : 1 ≤ B ∧ B ≤ 1000) (q : ∀ p H', Ex H H' → SqT K H' p (PaceV ds B) → Q (.ref p) H') : sp_pace_of K [.ref a, .int B] H Q E := ⟨a, ds, B, rfl, h, hd, hb, q⟩
/-! ### Ring -/
def sp_Ring_init (K : PySem.W.Frag) (C : Addr) : Sp := fun vs H Q _ => ∃ (x a b dx : Addr) (ds hs : List Int), vs = [.ref x, .ref a, .ref b] ∧ H x = some (.ins C dx []) ∧ SqT K H a (ds.map V.int) ∧ SqT K H b (hs.map V.int) ∧ RingOk ds hs ∧
  ∀ H', Exb x H H' → RingIn K C H' x a b ds hs → Q .non H'
theorem exb_ti {K : PySem.W.Frag} {H H' : Hp} {l a C dx : Addr} {xs : List V} {fs : List (Str × V)} (e : Exb l H H') (hl : H l = some (.ins C dx fs)) (h : SqT K H a xs) : SqT K H' a xs := by
  rcases h with (h | ⟨o, h⟩) | h
  · exact .inl (.inl (e _ _ (ne_of h hl (by intro z; cases z)) h))
  · exact .inl (.inr ⟨o, e _ _ (ne_of h hl (by intro z; cases z)) h⟩)
  · exact .inr h
theorem ok_Ring_init (Z : Blt mg) (R : RingC K C) (D_check_days : Df P w K mg base 2 "check_days" ["days"] (sp_check_days K)) (D_check_starts : Df P w K mg base 2 "check_starts" ["days", "starts"] (sp_check_starts K))
    (G : IFun K mg "Ring" C "Ring.__init__" s_Ring___init__) : If P w K mg base "Ring" C 3 ["self", "days", "starts"] (sp_Ring_init K C) := by
  refine If.of G sc_Ring___init__ b_Ring___init__ (fun vs H Q E h => ?_) (fun f cdv A outer s H vs Q E hr h => ?_)
  · obtain ⟨x, a, b, dx, ds, hs, rfl, _⟩ := h
    rfl
  · obtain ⟨x, a, b, dx, ds, hs, rfl, hx, hS, hT, O, q⟩ := h
    obtain ⟨cl_Ring, nS, nH, nT⟩ := R
    refine ⟨_, PSs.nox (pss_cons (ps_expr (pg D_check_days hr (pa_cons (pv 1) pa_nil)))
      (pss_cons (ps_expr (pg D_check_starts hr (pa_cons (pv 1) (pa_cons (pv 2) pa_nil))))
      (pss_cons (ps_fld (pv 0) (pv 1) rfl)
      (pss_cons (ps_fld (pv 0) (pv 2) rfl)
      (pss_one (ps_fld (pv 0) (pe_callB (cr_sum rfl) (by rfl) Z.zsum (by decide +kernel) (pa_cons (pe_callTy c_list_of (by rfl) Z.zlist (by decide +kernel) (pa_cons (pv 2) pa_nil)) pa_nil)) rfl)))))), ?_⟩
    walk_at "g0"
    walk_at "go"
    refine g_checkd hS O.two O.eight O.dd fun H1 e1 => ?_
    walk_at "go"
    refine g_checks (ex_t e1 hS) (ex_t e1 hT) O fun H2 e2 => ?_
    have hx2 : H2 x = some (.ins C dx []) := e2 _ _ (e1 _ _ hx)
    have hS2 := ex_t (e1.trans e2) hS
    have hT2 := ex_t (e1.trans e2) hT
    walk_at "go"
    refine g_kSFld hx2 cl_Ring nS (by decide) fun H3 e3 hx3 => ?_
    have hS3 := exb_ti e3 hx2 hS2
    have hT3 := exb_ti e3 hx2 hT2
    walk_at "go"
    refine g_kSFld hx3 cl_Ring nH (Nat.lt_of_le_of_lt (length_putF _ _ _) (by decide)) fun H4 e4 hx4 => ?_
    have hS4 := exb_ti e4 hx3 hS3
    have hT4 := exb_ti e4 hx3 hT3
    walk_at "go"
    rename_i l H5 _ e5 hl
    refine g_kSFld (e5 _ _ hx4) cl_Ring nT (Nat.lt_of_le_of_lt (length_putF _ _ _) (Nat.lt_of_le_of_lt (Nat.succ_le_succ (length_putF _ _ _)) (by decide))) fun H6 e6 hx6 => ?_
    have hS6 := exb_ti e6 (e5 _ _ hx4) (ex_t e5 hS4)
    have hT6 := exb_ti e6 (e5 _ _ hx4) (ex_t e5 hT4)
    refine q H6 ?_ ⟨⟨dx, by rw [hx6, ← rf_eq]⟩, hS6, hT6, O⟩
    exact ((((Exb.of (e1.trans e2)).trans e3).trans e4).trans (Exb.of e5)).trans e6
/-- Ring(a, b) -/
theorem g_mkRing {H : Hp} {Q : VK} {E : XK} {a b : Addr} {ds hs : List Int} (hS : SqT K H a (ds.map V.int)) (hT : SqT K H b (hs.map V.int)) (O : RingOk ds hs) (q : ∀ r H', H r = none → Ex H H' → RingIn K C H' r a b ds hs → Q (.ref r) H') :
    kMake C (sp_Ring_init K C) E Q [.ref a, .ref b] H := by
  intro x dx nx ndx ne
  have e1 : Ex H (upd (upd H dx (.own x)) x (.ins C dx [])) := fun c o h => by
    rw [upd_ne (ne_of_none h nx), upd_ne (ne_of_none h ndx)]
    exact h
  exact ⟨x, a, b, dx, ds, hs, rfl, upd_same, ex_t e1 hS, ex_t e1 hT, O, fun H' e2 R => ⟨rfl, q x H' nx (Exb.ex nx e1 e2) R⟩⟩
/-- properties -/
def sp_Ring_days (K : PySem.W.Frag) (C : Addr) : Sp := fun vs H Q _ => ∃ (r a b : Addr) (ds hs : List Int), vs = [.ref r] ∧ RingIn K C H r a b ds hs ∧ Q (.ref a) H
def sp_Ring_starts (K : PySem.W.Frag) (C : Addr) : Sp := fun vs H Q _ => ∃ (r a b : Addr) (ds hs : List Int), vs = [.ref r] ∧ RingIn K C H r a b ds hs ∧ Q (.ref b) H
def sp_Ring_books (K : PySem.W.Frag) (C : Addr) : Sp := fun vs H Q _ => ∃ (r a b : Addr) (ds hs : List Int), vs = [.ref r] ∧ RingIn K C H r a b ds hs ∧ Q (.int hs.sum) H
def sp_Ring_pace (K : PySem.W.Frag) (C : Addr) : Sp := fun vs H Q _ => ∃ (r a b : Addr) (ds hs : List Int), vs = [.ref r] ∧ RingIn K C H r a b ds hs ∧ RTup K H (PaceV ds hs.sum) Q
def sp_Ring_len (K : PySem.W.Frag) (C : Addr) : Sp := fun vs H Q _ => ∃ (r a b : Addr) (ds hs : List Int), vs = [.ref r] ∧ RingIn K C H r a b ds hs ∧ Q (.int (ds.length : Int)) H
theorem ok_Ring_books (Z : Blt mg) (R : RingC K C) (G : PFun K C "books" "Ring.books" s_Ring_books) : Pf P w K mg base C 1 "books" ["self"] (sp_Ring_books K C) := by
  refine Pf.of G sc_Ring_books b_Ring_books (fun vs H Q E h => ?_) (fun f cdv A outer s H vs Q E hr h => ?_)
  · obtain ⟨r, a, b, ds, hs, rfl, _⟩ := h
    rfl
  · obtain ⟨r, a, b, ds, hs, rfl, ⟨⟨dx, ho⟩, hS, hT, O⟩, q⟩ := h
    obtain ⟨cl_Ring, nS, nH, nT⟩ := R
    refine ⟨_, PSs.nox (pss_one (ps_ret (pe_fld (pv 0) rfl))), ?_⟩
    walk_at "g0"
    walk_at "go"
    exact q
theorem ok_Ring_len (Z : Blt mg) (R : RingC K C) (G : CFun K C "__len__" "Ring.__len__" s_Ring___len__) : Mf P w K mg base C 1 "__len__" ["self"] (sp_Ring_len K C) := by
  refine Mf.of G sc_Ring___len__ b_Ring___len__ (fun vs H Q E h => ?_) (fun f cdv A outer s H vs Q E hr h => ?_)
  · obtain ⟨r, a, b, ds, hs, rfl, _⟩ := h
    rfl
  · obtain ⟨r, a, b, ds, hs, rfl, ⟨⟨dx, ho⟩, hS, hT, O⟩, q⟩ := h
    obtain ⟨cl_Ring, nS, nH, nT⟩ := R
    refine ⟨_, PSs.nox (pss_one (ps_ret (pe_callB c_len (by rfl) Z.zlen PySem.boot_len (pa_cons (pe_fld (pv 0) rfl) pa_nil)))), ?_⟩
    walk_at "g0"
    walk_at "go"
    exact q
def sp_Ring_need (K : PySem.W.Frag) (C : Addr) : Sp := fun vs H Q _ => ∃ (r a b : Addr) (ds hs : List Int) (k : Nat), vs = [.ref r, .int (k : Int)] ∧ RingIn K C H r a b ds hs ∧ k < ds.length ∧ Q .non H
theorem ok_Ring_need (Z : Blt mg) (R : RingC K C) (D_is_integer : Df P w K mg base 1 "is_integer" ["value", "low", "high"] (sp_is_integer K)) (G : CFun K C "need_reader" "Ring.need_reader" s_Ring_need_reader) : Mf P w K mg base C 2 "need_reader" ["self", "reader"] (sp_Ring_need K C) := by
  refine Mf.of G sc_Ring_need_reader b_Ring_need_reader (fun vs H Q E h => ?_) (fun f cdv A outer s H vs Q E hr h => ?_)
  · obtain ⟨r, a, b, ds, hs, k, rfl, _⟩ := h
    rfl
  · obtain ⟨r, a, b, ds, hs, k, rfl, ⟨⟨dx, ho⟩, hS, hT, O⟩, hk, q⟩ := h
    obtain ⟨cl_Ring, nS, nH, nT⟩ := R
    refine ⟨_, PSs.nox (pss_one (ps_if (pt_not (pt_val (pg D_is_integer hr (pa_cons (pv 1) (pa_cons pe_int (pa_cons (pe_op op_sub (pe_callB c_len (by rfl) Z.zlen PySem.boot_len (pa_cons (pe_fld (pv 0) rfl) pa_nil)) pe_int) pa_nil)))))) (pss_one ps_never) pss_nil)), ?_⟩
    walk_at "g0"
    walk_at "go"
    exact q
/-! with_days -/
theorem cut_lo (ds : List Int) (k : Nat) (hk : k ≤ ds.length) : cutV (ds.map V.int) none (some (k : Int)) = (ds.take k).map V.int := by
  unfold cutV
  rw [HT.sIx_none, HT.sIx_nat, List.length_map, List.drop_zero, Nat.sub_zero, Nat.min_eq_left hk, List.map_take]
theorem cut_hi (ds : List Int) (k : Nat) (hk : k ≤ ds.length) : cutV (ds.map V.int) (some (k : Int)) none = (ds.drop k).map V.int := by
  unfold cutV
  rw [HT.sIx_none, HT.sIx_nat, List.length_map, Nat.min_eq_left hk, List.map_drop]
  refine List.take_of_length_le ?_
  rw [List.length_drop, List.length_map]
  exact Nat.le_refl _
theorem set_split {α : Type} (ds : List α) (k : Nat) (n : α) (hk : k < ds.length) : ds.take k ++ [n] ++ ds.drop (k + 1) = ds.set k n := by
  rw [List.set_eq_take_append_cons_drop, if_pos hk, List.append_assoc]
  rfl
theorem RingOk.set {ds hs : List Int} (O : RingOk ds hs) (k : Nat) {n : Int} (h : 1 ≤ n ∧ n ≤ 30) : RingOk (ds.set k n) hs :=
  ⟨by rw [List.length_set]; exact O.two, by rw [List.length_set]; exact O.eight, by rw [List.length_set]; exact O.len, fun d hd => by
    rcases List.mem_or_eq_of_mem_set hd with h1 | h1
    · exact O.dd d h1
    · rw [h1]; exact h, O.hh, O.one, O.twelve⟩
def sp_Ring_with (K : PySem.W.Frag) (C : Addr) : Sp := fun vs H Q _ => ∃ (r a b : Addr) (ds hs : List Int) (k : Nat) (n : Int), vs = [.ref r, .int (k : Int), .int n] ∧ RingIn K C H r a b ds hs ∧ k < ds.length ∧ (1 ≤ n ∧ n ≤ 30) ∧
  ∀ r' a' H', H r' = none → Ex H H' → RingIn K C H' r' a' b (ds.set k n) hs → Q (.ref r') H'
theorem ok_Ring_with (Z : Blt mg) (R : RingC K C) (M_Ring_need_reader : Mf P w K mg base C 2 "need_reader" ["self", "reader"] (sp_Ring_need K C)) (I_Ring : If P w K mg base "Ring" C 3 ["self", "days", "starts"] (sp_Ring_init K C))
    (G : CFun K C "with_days" "Ring.with_days" s_Ring_with_days) : Mf P w K mg base C 5 "with_days" ["self", "reader", "days"] (sp_Ring_with K C) := by
  refine Mf.of G sc_Ring_with_days b_Ring_with_days (fun vs H Q E h => ?_) (fun f cdv A outer s H vs Q E hr h => ?_)
  · obtain ⟨r, a, b, ds, hs, k, n, rfl, _⟩ := h
    rfl
  · obtain ⟨r, a, b, ds, hs, k, n, rfl, RI, hk, hn, q⟩ := h
    obtain ⟨⟨dx, ho⟩, hS, hT, O⟩ := id RI
    obtain ⟨cl_Ring, nS, nH, nT⟩ := R
    have h8 := O.eight
    refine ⟨_, PSs.nox (pss_cons (ps_expr (pm (pv 0) cl_Ring M_Ring_need_reader hr (pa_cons (pv 1) pa_nil)))
      (pss_one (ps_ret (pk I_Ring hr (pa_cons (pe_op op_catA (pe_op op_catA (pe_slice sl_tupA (pe_fld (pv 0) rfl) po_none (po_some (pv 1))) (pe_tup (pa_cons (pv 2) pa_nil))) (pe_slice sl_tupA (pe_fld (pv 0) rfl) (po_some (pe_op op_add (pv 1) pe_int)) po_none)) (pa_cons (pe_fld (pv 0) rfl) pa_nil)))))), ?_⟩
    walk_at "g0"
    walk_at "go"
    refine ⟨r, a, b, ds, hs, k, rfl, RI, hk, ?_⟩
    walk_at "go"
    rename_i p1 H1 e1 s1 p2 H2 _ e2 hp2
    refine g_catA (xs := (ds.take k).map V.int) (ys := [V.int n]) (by rw [← cut_lo ds k (by omega)]; exact ex_t e2 s1) (SqT.of hp2) (by rw [List.length_map, List.length_take]; exact sz1000 (by simp; omega)) fun p3 H3 e3 s3 => ?_
    have ho3 := e3 _ _ (e2 _ _ (e1 _ _ ho))
    have hS3 := ex_t e3 (ex_t e2 (ex_t e1 hS))
    walk_at "go"
    rename_i p4 H4 e4 s4
    have s4' : SqT K H4 p4 ((ds.drop (k + 1)).map V.int) := by
      rw [← cut_hi ds (k + 1) (by omega)]
      exact s4
    refine g_catA (ex_t e4 s3) s4' (by simp only [List.length_append, List.length_map, List.length_take, List.length_drop]; exact sz1000 (by simp; omega)) fun p5 H5 e5 s5 => ?_
    have s5' : SqT K H5 p5 ((ds.set k n).map V.int) := by
      rw [← set_split ds k n hk, List.map_append, List.map_append]
      exact s5
    have e05 := (((e1.trans e2).trans e3).trans e4).trans e5
    have ho5 := e05 _ _ ho
    walk_at "go"
    exact g_mkRing s5' (ex_t e05 hT) (O.set k hn) fun r' H6 n6 e6 R6 => q r' p5 H6 (fresh_back e05 n6) (e05.trans e6) R6
/-! ### the promises as steps -/
theorem RingIn.obj1 {H : Hp} {r a b : Addr} {ds hs : List Int} (R : RingIn K C H r a b ds hs) : ∃ dx, H r = some (.ins C dx (rf a b hs.sum)) := R.obj
theorem g_rbooks {H : Hp} {Q : VK} {E : XK} {r a b : Addr} {ds hs : List Int} (R : RingIn K C H r a b ds hs) (q : Q (.int hs.sum) H) : kProp C (sp_Ring_books K C) E Q (.ref r) H :=
  let ⟨dx, ho⟩ := R.obj; ⟨r, dx, _, rfl, ho, r, a, b, ds, hs, rfl, R, q⟩
theorem g_rpace {H : Hp} {Q : VK} {E : XK} {r a b : Addr} {ds hs : List Int} (R : RingIn K C H r a b ds hs) (q : ∀ p H', Ex H H' → SqT K H' p (PaceV ds hs.sum) → Q (.ref p) H') : kProp C (sp_Ring_pace K C) E Q (.ref r) H :=
  let ⟨dx, ho⟩ := R.obj; ⟨r, dx, _, rfl, ho, r, a, b, ds, hs, rfl, R, q⟩
theorem g_rlen {H : Hp} {Q : VK} {E : XK} {r a b : Addr} {ds hs : List Int} (R : RingIn K C H r a b ds hs) (q : Q (.int (ds.length : Int)) H) : rLenO C (sp_Ring_len K C) E [.ref r] H Q :=
  let ⟨dx, ho⟩ := R.obj; ⟨r, dx, _, rfl, ho, r, a, b, ds, hs, rfl, R, ds.length, rfl, ⟨by omega, by have := R.ok.eight; omega⟩, q⟩
theorem g_rneed {H : Hp} {Q : VK} {E : XK} {r a b : Addr} {ds hs : List Int} {k : Nat} (R : RingIn K C H r a b ds hs) (hk : k < ds.length) (q : Q .non H) : sp_Ring_need K C [.ref r, .int (k : Int)] H Q E := ⟨r, a, b, ds, hs, k, rfl, R, hk, q⟩
theorem g_rneedM {H : Hp} {Q : VK} {E : XK} {r a b : Addr} {ds hs : List Int} {tr : TA} {σ : L2.St} (R : RingIn K C H r a b ds hs) (q : tr σ H fun vs H2 => sp_Ring_need K C (.ref r :: vs) H2 Q E) : kMeth C "need_reader" (sp_Ring_need K C) E tr σ Q (.ref r) H :=
  let ⟨dx, ho⟩ := R.obj; g_kMeth ho rf_nr q
theorem g_rwithM {H : Hp} {Q : VK} {E : XK} {r a b : Addr} {ds hs : List Int} {tr : TA} {σ : L2.St} (R : RingIn K C H r a b ds hs) (q : tr σ H fun vs H2 => sp_Ring_with K C (.ref r :: vs) H2 Q E) : kMeth C "with_days" (sp_Ring_with K C) E tr σ Q (.ref r) H :=
  let ⟨dx, ho⟩ := R.obj; g_kMeth ho rf_wd q
theorem g_rspans {H : Hp} {Q : VK} {r a b : Addr} {ds hs : List Int} (R : RingIn K C H r a b ds hs) (c : RingC K C) (q : Q (.ref a) H) : kFld K "spans" Q (.ref r) H := let ⟨dx, ho⟩ := R.obj; g_kFld ho c.cl c.nS rf_spans q
theorem g_rheaps {H : Hp} {Q : VK} {r a b : Addr} {ds hs : List Int} (R : RingIn K C H r a b ds hs) (c : RingC K C) (q : Q (.ref b) H) : kFld K "heaps" Q (.ref r) H := let ⟨dx, ho⟩ := R.obj; g_kFld ho c.cl c.nH rf_heaps q
theorem g_rtotal {H : Hp} {Q : VK} {r a b : Addr} {ds hs : List Int} (R : RingIn K C H r a b ds hs) (c : RingC K C) (q : Q (.int hs.sum) H) : kFld K "total" Q (.ref r) H := let ⟨dx, ho⟩ := R.obj; g_kFld ho c.cl c.nT rf_total q
end
end G48

/-! chains and planning: what asks no course -/
namespace G48
open PySem PySem.Spec PyProof.Rows L2 Evl
/-! the steps -/
local macro_rules | `(tactic| walk_at "as") => `(tactic| with_reducible assumption)
local macro_rules | `(tactic| walk_at "hp") => `(tactic| first
  | with_reducible assumption
  | ((with_reducible apply SqT.of); walk_at "as")
  | ((with_reducible apply SqL.of); walk_at "as")
  | ((with_reducible apply ex_at); (focus walk_at "as"); walk_at "hp")
  | ((with_reducible apply ex_t); (focus walk_at "as"); walk_at "hp")
  | ((with_reducible apply ex_l); (focus walk_at "as"); walk_at "hp")
  | ((with_reducible apply exb_ins); (focus walk_at "as"); (focus walk_at "hp"); walk_at "hp")
  | ((with_reducible apply exb_t); (focus walk_at "as"); (focus walk_at "hp"); walk_at "hp")
  | ((with_reducible apply exb_at); (focus walk_at "as"); (focus walk_at "ne"); walk_at "hp")
  | ((with_reducible apply exb_l); (focus walk_at "as"); (focus walk_at "ne"); walk_at "hp"))
local macro_rules | `(tactic| walk_at "ne") => `(tactic| first
  | with_reducible assumption
  | exact Ne.symm (by with_reducible assumption)
  | exact ne_of_none (by with_reducible assumption) (by with_reducible assumption)
  | exact Ne.symm (ne_of_none (by with_reducible assumption) (by with_reducible assumption)))
local macro_rules | `(tactic| walk_at "tr") => `(tactic| first
  | rfl
  | with_reducible assumption
  | exact decide_eq_true (by first | with_reducible assumption | omega)
  | exact decide_eq_false (by first | with_reducible assumption | omega)
  | (rw [Bool.not_eq_true']; exact decide_eq_false (by first | with_reducible assumption | omega))
  | (rw [Bool.not_eq_false']; exact decide_eq_true (by first | with_reducible assumption | omega)))
local macro_rules | `(tactic| walk_at "nn") => `(tactic| first | with_reducible assumption | (exact List.cons_ne_nil _ _))
local macro_rules | `(tactic| walk_at "sz") => `(tactic| first | (exact sz1000 (Nat.le_of_ble_eq_true rfl)) | (refine sz1000 ?_; simp only [List.length_map, List.length_cons, List.length_nil, List.length_append]; omega) | with_reducible assumption)
local macro_rules | `(tactic| walk_at "sl") => `(tactic| first | with_reducible assumption | (refine lt1000 ?_; simp only [List.length_map, List.length_cons, List.length_nil, List.length_append]; omega) | (refine lt1000 ?_; omega))
local macro_rules | `(tactic| walk_at "ix") => `(tactic| first | rfl | with_reducible assumption)
local macro_rules | `(tactic| walk_at "rg") => `(tactic| exact RgOk.of_le (by omega) (by omega) (by omega) (by omega))
local macro_rules | `(tactic| walk_at "sp") => `(tactic| fail "sp")
local macro_rules | `(tactic| walk_at "cl") => `(tactic| with_reducible assumption)
local macro_rules | `(tactic| walk_at "lk") => `(tactic| with_reducible assumption)
local macro_rules | `(tactic| walk_at "it") => `(tactic| first | rfl | with_reducible assumption | exact atI_nat (by with_reducible assumption))
local macro_rules | `(tactic| walk_at "g1") => `(tactic| first
  | (with_reducible apply g_var); (focus rfl)
  | with_reducible apply g_c
  | with_reducible apply g_seq
  | with_reducible apply g_asg
  | with_reducible apply gg_name
  | with_reducible apply g_op
  | with_reducible apply g_cons
  | with_reducible apply g_nil
  | with_reducible apply g_cb
  | with_reducible apply g_fld
  | ((with_reducible apply g_kFld); (focus walk_at "hp"); (focus walk_at "cl"); (focus walk_at "cl"); (focus walk_at "lk"))
  | with_reducible apply g_call
  | walk_at "sp"
  | with_reducible apply g_ret
  | with_reducible apply g_drop
  | with_reducible apply g_test
  | with_reducible apply g_B
  | with_reducible apply g_kTest
  | with_reducible apply g_ifS
  | with_reducible apply g_kIfST
  | with_reducible apply g_kIfSF
  | with_reducible apply g_add
  | with_reducible apply g_sub
  | with_reducible apply g_lt
  | with_reducible apply g_le
  | with_reducible apply g_gt
  | with_reducible apply g_ge
  | with_reducible apply g_eqI
  | with_reducible apply g_neI
  | ((with_reducible apply g_mod); (focus first | decide | omega))
  | ((with_reducible apply g_mul); (focus first | (left; constructor <;> omega) | (right; constructor <;> omega)))
  | ((with_reducible apply g_fdiv); (focus (constructor <;> omega)))
  | ((with_reducible apply g_ixT); (focus walk_at "hp"); (focus walk_at "it"))
  | ((with_reducible apply g_ixL); (focus walk_at "hp"); (focus walk_at "it"))
  | with_reducible apply g_and
  | with_reducible apply g_or
  | with_reducible apply g_not
  | with_reducible apply g_kNotT
  | with_reducible apply g_kNotF
  | with_reducible apply g_if
  | with_reducible apply g_kAndT
  | with_reducible apply g_kAndF
  | with_reducible apply g_kOrT
  | with_reducible apply g_kOrF
  | with_reducible apply g_kIfT
  | with_reducible apply g_kIfF
  | with_reducible apply g_next
  | with_reducible apply g_andV
  | with_reducible apply g_orV
  | with_reducible apply g_notV
  | with_reducible apply g_kNotV
  | with_reducible apply g_kAndVT
  | with_reducible apply g_kAndVF
  | with_reducible apply g_chain
  | with_reducible apply g_kChainT
  | with_reducible apply g_kChainF
  | with_reducible apply g_tup
  | with_reducible apply g_lst
  | ((with_reducible apply g_kT); (focus walk_at "sz"); intro _ _ _ _ _)
  | ((with_reducible apply g_kL); (focus walk_at "sz"); intro _ _ _ _ _)
  | with_reducible apply g_un
  | with_reducible apply g_neg
  | with_reducible apply g_meth
  | ((with_reducible apply g_kMeth); (focus walk_at "hp"); (focus walk_at "lk"))
  | with_reducible apply g_prop
  | ((with_reducible apply g_kProp); (focus walk_at "hp"))
  | with_reducible apply g_make
  | with_reducible apply g_par
  | with_reducible apply g_kPar
  | ((with_reducible apply g_lenLM); (focus walk_at "hp"))
  | ((with_reducible apply g_lenTM); (focus walk_at "hp"))
  | ((with_reducible apply g_lenL); (focus walk_at "hp"))
  | ((with_reducible apply g_lenT); (focus walk_at "hp"))
  | with_reducible apply g_int1
  | with_reducible apply g_max2
  | with_reducible apply g_min2
  | ((with_reducible apply g_listL); (focus walk_at "hp"); intro _ _ _ _ _)
  | ((with_reducible apply g_listT); (focus walk_at "hp"); intro _ _ _ _ _)
  | ((with_reducible apply g_tupL); (focus walk_at "hp"); intro _ _ _ _ _)
  | ((with_reducible apply g_sum); (focus walk_at "hp"))
  | with_reducible apply g_sfld
  | with_reducible apply g_sl
  | with_reducible apply g_nopart
  | with_reducible apply g_part
  | with_reducible apply g_kPart
  | with_reducible apply g_lstRg
  | with_reducible apply g_rg1
  | with_reducible apply g_kRg1
  | with_reducible apply g_bm
  | with_reducible apply gg_sub
  | ((with_reducible apply gg_tup); (focus walk_at "hp"); (focus rfl))
  | with_reducible apply gg_cons
  | with_reducible apply gg_nil
  | with_reducible apply g_forL
  | with_reducible apply g_forT
  | with_reducible apply g_forR1
  | with_reducible apply g_forR2
  | with_reducible apply g_forE
  | with_reducible apply g_forEL
  | ((with_reducible apply g_maxT); (focus walk_at "hp"); (focus walk_at "nn"))
  | ((with_reducible apply g_maxL); (focus walk_at "hp"); (focus walk_at "nn"))
  | ((with_reducible apply g_catA); (focus walk_at "hp"); (focus walk_at "hp"); (focus walk_at "sz"); intro _ _ _ _)
  | ((with_reducible apply g_slA); (focus walk_at "hp"); intro _ _ _ _)
  | ((with_reducible apply g_tupD); (focus walk_at "hp"); intro _ _ _ _ _)
  | ((with_reducible apply g_setL); (focus walk_at "hp"); (focus walk_at "ix"); intro _ _ _)
  | ((with_reducible apply g_append); (focus walk_at "hp"); (focus walk_at "sl"); intro _ _ _)
  | ((with_reducible apply g_aug); (focus rfl))
  | with_reducible apply g_ipI
  | with_reducible apply g_retN
  | with_reducible apply g_lcR1
  | with_reducible apply g_lcR2
  | with_reducible apply g_lcL
  | with_reducible apply g_lcU
  | with_reducible apply g_lcN
  | ((with_reducible apply g_kLcG); (focus rfl))
  | with_reducible apply g_yes
  | with_reducible apply g_kLcTT
  | with_reducible apply g_kLcTF
  | ((with_reducible apply g_kLcE); (focus walk_at "hp"); (focus walk_at "sl"); intro _ _ _)
  | ((with_reducible apply g_pow); (focus (constructor <;> (try constructor) <;> decide)))
  | ((with_reducible apply g_kLRg); (focus walk_at "rg"); intro _ _ _ _ _)
  | ((with_reducible apply g_cat); (focus walk_at "hp"); (focus walk_at "hp"); (focus walk_at "sz"); intro _ _ _ _ _)
  | ((with_reducible apply g_slL); (focus walk_at "hp"); intro _ _ _ _ _)
  | with_reducible apply g_bmT
  | with_reducible apply g_break
  | with_reducible apply g_cont)
local macro_rules | `(tactic| walk_at "g0") => `(tactic| try dsimp only [L2.cxOf, L2.Cx.nox, L2.Cx.wish])
local macro_rules | `(tactic| walk_at "yn") => `(tactic| first
  | ((with_reducible apply y_kIfS); (focus walk_at "tr"))
  | ((with_reducible apply n_kIfS); (focus walk_at "tr"))
  | ((with_reducible apply y_kOr); (focus walk_at "tr"))
  | ((with_reducible apply n_kOr); (focus walk_at "tr"))
  | ((with_reducible apply y_kAnd); (focus walk_at "tr"))
  | ((with_reducible apply n_kAnd); (focus walk_at "tr"))
  | ((with_reducible apply y_kNot); (focus walk_at "tr"))
  | ((with_reducible apply n_kNot); (focus walk_at "tr"))
  | ((with_reducible apply y_kIf); (focus walk_at "tr"))
  | ((with_reducible apply n_kIf); (focus walk_at "tr"))
  | ((with_reducible apply y_kAndV); (focus walk_at "tr"))
  | ((with_reducible apply n_kAndV); (focus walk_at "tr"))
  | ((with_reducible apply y_kOrV); (focus walk_at "tr"))
  | ((with_reducible apply n_kOrV); (focus walk_at "tr"))
  | ((with_reducible apply y_kChain); (focus walk_at "tr"))
  | ((with_reducible apply n_kChain); (focus walk_at "tr"))
  | ((with_reducible apply y_kLcT); (focus walk_at "tr"))
  | ((with_reducible apply n_kLcT); (focus walk_at "tr"))
  | ((with_reducible apply y_kWh); (focus walk_at "tr"))
  | ((with_reducible apply n_kWh); (focus walk_at "tr")))
local macro_rules | `(tactic| walk_at "go") => `(tactic| repeat (first | walk_at "g1" | walk_at "yn"))
local macro_rules | `(tactic| walk_at "hp") => `(tactic| first
  | ((with_reducible apply RingIn.ex); (focus walk_at "as"); walk_at "hp")
  | ((with_reducible apply RingAt.ex); (focus walk_at "as"); walk_at "hp")
  | ((with_reducible apply RingIn.exb); (focus walk_at "as"); (focus walk_at "hp"); walk_at "hp")
  | ((with_reducible apply RingAt.exb); (focus walk_at "as"); (focus walk_at "hp"); walk_at "hp")
  | ((with_reducible apply TupK.ex); (focus walk_at "as"); walk_at "hp")
  | ((with_reducible apply TupK.exb); (focus walk_at "as"); (focus walk_at "hp"); walk_at "hp"))
local macro_rules | `(tactic| walk_at "lk") => `(tactic| first | with_reducible exact rf_spans | with_reducible exact rf_heaps | with_reducible exact rf_total | with_reducible exact rf_nr | with_reducible exact rf_wd)
local macro_rules | `(tactic| walk_at "sp") => `(tactic| first
  | ((with_reducible apply g_isiTup); (focus walk_at "hp"))
  | ((with_reducible apply g_isiLst); (focus walk_at "hp"))
  | ((with_reducible apply g_isint); (focus omega); (focus omega))
  | ((with_reducible apply g_checkn); (focus omega); (focus omega))
  | ((with_reducible apply g_rbooks); (focus walk_at "hp"))
  | ((with_reducible apply g_rpace); (focus walk_at "hp"); intro _ _ _ _)
  | ((with_reducible apply g_rlen); (focus walk_at "hp"))
  | ((with_reducible apply g_rneed); (focus walk_at "hp"); (focus omega))
  | ((with_reducible apply g_rneedM); (focus walk_at "hp"))
  | ((with_reducible apply g_rwithM); (focus walk_at "hp"))
  | ((with_reducible apply g_rspans); (focus walk_at "hp"); (focus with_reducible assumption))
  | ((with_reducible apply g_rheaps); (focus walk_at "hp"); (focus with_reducible assumption))
  | ((with_reducible apply g_rtotal); (focus walk_at "hp"); (focus with_reducible assumption)))

/-- the first place -/
theorem first_at : ∀ {ys : List Int} {z : Int}, z ∈ ys → ∃ j : Nat, ys[j]? = some z ∧ ∀ m : Nat, m < j → ys[m]? ≠ some z
  | [], _, h => by cases h
  | y :: r, z, h => by
    by_cases e : y = z
    · exact ⟨0, by rw [e]; rfl, fun m hm => absurd hm (Nat.not_lt_zero m)⟩
    · have h1 : z ∈ r := by
        rcases List.mem_cons.mp h with h | h
        · exact absurd h.symm e
        · exact h
      obtain ⟨j, h2, h3⟩ := first_at h1
      refine ⟨j + 1, h2, fun m hm => ?_⟩
      cases m with
      | zero =>
        intro q
        exact e (Option.some.inj q)
      | succ m => exact h3 m (by omega)
def upto (n : Nat) : List Int := (List.range n).map fun (i : Nat) => (i : Int)
theorem upto_map (n : Nat) : rgV 0 (n : Int) = (upto n).map V.int := by
  unfold rgV upto
  rw [List.map_map]
  have e : ((n : Int) - 0).toNat = n := by omega
  rw [e]
  apply List.map_congr_left
  intro i _
  show V.int (0 + (i : Int)) = V.int (i : Int)
  rw [Int.zero_add]
theorem upto_len (n : Nat) : (upto n).length = n := by unfold upto; rw [List.length_map, List.length_range]
theorem upto_at {n i : Nat} (h : i < n) : (upto n)[i]? = some (i : Int) := by
  unfold upto
  rw [List.getElem?_map, List.getElem?_range h]
  rfl
/-- the readers that set the pace -/
def PR (ds : List Int) (B : Int) (rs : List Int) : Prop :=
  if ds.sum ≤ mx ds * B then ∃ j : Nat, rs = [(j : Int)] ∧ ds[j]? = some (mx ds) ∧ ∀ m : Nat, m < j → ds[m]? ≠ some (mx ds) else rs = upto ds.length
section
variable {P : Program} {w : World} {K : PySem.W.Frag} {mg : Str → Option Value} {base : Heap} {C : Addr}
def sp_pace_readers (K : PySem.W.Frag) (C : Addr) : Sp := fun vs H Q _ => ∃ (r a b : Addr) (ds hs : List Int), vs = [.ref r] ∧ RingIn K C H r a b ds hs ∧ TupK H a (ds.map V.int) ∧
  ∀ p H' rs, H p = none → Ex H H' → H' p = some (.lst (rs.map V.int)) → PR ds hs.sum rs → Q (.ref p) H'
/-- a list of readers that shows a pace -/
structure Shows (rs : List Int) (n : Nat) : Prop where
  at_ : ∀ (i : Nat) (x : Int), rs[i]? = some x → 0 ≤ x ∧ x < n
  next : ∀ (i : Nat) (x y : Int), rs[i]? = some x → rs[i + 1]? = some y → y = (x + 1) % n
  len : rs.length = 1 ∨ rs.length = n
def shown (ds : List Int) (B : Int) (rs : List Int) : Int × Int := if rs.length = 1 then (ds.getD (rs.getD 0 0).toNat 0, 1) else low ds.sum B
def sp_judge_pace (K : PySem.W.Frag) (C : Addr) : Sp := fun vs H Q _ => ∃ (r a b l : Addr) (ds hs rs : List Int), vs = [.ref r, .ref l] ∧ RingIn K C H r a b ds hs ∧ SqL K H l (rs.map V.int) ∧ Shows rs ds.length ∧
  RTup K H [.int (shown ds hs.sum rs).1, .int (shown ds hs.sum rs).2] Q
/-! ### planning -/
def sp_is_less (K : PySem.W.Frag) : Sp := fun vs H Q _ => ∃ (p q : Addr) (x y u v : Int), vs = [.ref p, .ref q] ∧ SqT K H p [.int x, .int y] ∧ SqT K H q [.int u, .int v] ∧ ((0 ≤ x ∧ x ≤ 1000000) ∧ (0 ≤ y ∧ y ≤ 1000000) ∧ (0 ≤ u ∧ u ≤ 1000000) ∧ (0 ≤ v ∧ v ≤ 1000000)) ∧ Q (.bl (decide (x * v < u * y))) H
theorem low_bd {a b : Int} (ha : 0 < a) (hb : 0 < b) : 0 < (low a b).1 ∧ (low a b).1 ≤ a ∧ 0 < (low a b).2 ∧ (low a b).2 ≤ b := by
  have hg : 0 < (Int.gcd a b : Int) := by
    have := (Int.gcd_pos_iff (a := a) (b := b)).mpr (Or.inl (by omega))
    omega
  have d1 : (Int.gcd a b : Int) ∣ a := Int.gcd_dvd_left ..
  have d2 : (Int.gcd a b : Int) ∣ b := Int.gcd_dvd_right ..
  refine ⟨Int.ediv_pos_of_pos_of_dvd ha (by omega) d1, Int.ediv_le_self _ (by omega), Int.ediv_pos_of_pos_of_dvd hb (by omega) d2, Int.ediv_le_self _ (by omega)⟩
theorem pace_bd {ds : List Int} {B : Int} (h : DaysOk ds) (hb : 1 ≤ B) : 0 < (paceN ds B).1 ∧ (paceN ds B).1 ≤ 240 ∧ 0 < (paceN ds B).2 ∧ (paceN ds B).2 ≤ B := by
  have h1 := h.mx
  have h2 := h.sum
  unfold paceN
  by_cases hc : ds.sum ≤ mx ds * B
  · rw [if_pos hc]
    exact ⟨by omega, by omega, by omega, by omega⟩
  · rw [if_neg hc]
    have := low_bd (a := ds.sum) (b := B) (by omega) (by omega)
    exact ⟨by omega, by omega, by omega, by omega⟩
def sp_pace_with (K : PySem.W.Frag) (C : Addr) : Sp := fun vs H Q _ => ∃ (r a b : Addr) (ds hs : List Int) (B : Int), vs = [.ref r, .int B] ∧ RingIn K C H r a b ds hs ∧ (1 ≤ B ∧ B ≤ 1000) ∧ RTup K H (PaceV ds B) Q
def fewN (ds : List Int) : Int := (ds.sum + mx ds - 1) / mx ds
def sp_fewest_books (K : PySem.W.Frag) (C : Addr) : Sp := fun vs H Q _ => ∃ (r a b : Addr) (ds hs : List Int), vs = [.ref r] ∧ RingIn K C H r a b ds hs ∧ ∀ H', Ex H H' → Q (.int (fewN ds)) H'
/-- a reader who helps by being a day quicker -/
def helps (ds : List Int) (B : Int) (i : Nat) : Bool :=
  decide (1 < ds.getD i 0) && decide ((paceN (ds.set i (ds.getD i 0 - 1)) B).1 * (paceN ds B).2 < (paceN ds B).1 * (paceN (ds.set i (ds.getD i 0 - 1)) B).2)
def helpN (ds : List Int) (B : Int) (k : Nat) : List Int := ((List.range k).filter (helps ds B)).map fun (i : Nat) => (i : Int)
theorem helpN_yes {ds : List Int} {B : Int} {k : Nat} (h : helps ds B k = true) : helpN ds B (k + 1) = helpN ds B k ++ [(k : Int)] := by
  unfold helpN
  rw [List.range_succ, List.filter_append, List.map_append, List.filter_cons, if_pos h]
  rfl
theorem helpN_no {ds : List Int} {B : Int} {k : Nat} (h : helps ds B k = false) : helpN ds B (k + 1) = helpN ds B k := by
  unfold helpN
  rw [List.range_succ, List.filter_append, List.map_append, List.filter_cons, if_neg (by rw [h]; decide)]
  exact List.append_nil _
theorem helpN_len (ds : List Int) (B : Int) (k : Nat) : (helpN ds B k).length ≤ k := by
  unfold helpN
  rw [List.length_map]
  have h := List.length_filter_le (helps ds B) (List.range k)
  rw [List.length_range] at h
  exact h
theorem DaysOk.set {ds : List Int} (O : DaysOk ds) (k : Nat) {n : Int} (h : 1 ≤ n ∧ n ≤ 30) : DaysOk (ds.set k n) :=
  ⟨by rw [List.length_set]; exact O.two, by rw [List.length_set]; exact O.eight, fun d hd => by
    rcases List.mem_or_eq_of_mem_set hd with h1 | h1
    · exact O.dd d h1
    · rw [h1]; exact h⟩
def sp_helpful (K : PySem.W.Frag) (C : Addr) : Sp := fun vs H Q _ => ∃ (r a b : Addr) (ds hs : List Int), vs = [.ref r] ∧ RingIn K C H r a b ds hs ∧ ∀ p H', H p = none → Ex H H' → H' p = some (.lst ((helpN ds hs.sum ds.length).map V.int)) → Q (.ref p) H'
/-- slowest_days: a number of days with the same pace, and with a day more another -/
def SameP (ds : List Int) (B : Int) (k : Nat) (n : Int) : Prop := paceN (ds.set k n) B = paceN ds B
theorem paceV_eqv {ds es : List Int} {B B2 : Int} : PyData.eqv (.tuple [.int (paceN ds B).1, .int (paceN ds B).2]) (.tuple [.int (paceN es B2).1, .int (paceN es B2).2]) = decide (paceN ds B = paceN es B2) := by
  have e : PyData.eqv (.tuple [.int (paceN ds B).1, .int (paceN ds B).2]) (.tuple [.int (paceN es B2).1, .int (paceN es B2).2]) = ((paceN ds B).1 == (paceN es B2).1 && ((paceN ds B).2 == (paceN es B2).2 && true)) := by
    simp only [PyData.eqv, PyData.eqvAll]
  rw [e, Bool.eq_iff_iff]
  simp [Prod.ext_iff]
theorem dp_two {H : Hp} {p : Addr} {x y : Int} (h : SqT K H p [.int x, .int y]) : Dp K H (.ref p) (.tuple [.int x, .int y]) := .tup h (.cons (.int _) (.cons (.int _) .nil))
theorem sh_two {x y : Int} : SeqAt.shaped (.tuple [.int x, .int y]) = true := rfl
/-- two paces compared -/
theorem g_eqP {H : Hp} {Q : VK} {p q : Addr} {ds es : List Int} {B B2 : Int} (h1 : SqT K H p (PaceV ds B)) (h2 : SqT K H q (PaceV es B2)) (k : Q (.bl (decide (paceN ds B = paceN es B2))) H) : rEqD K (.ref p) (.ref q) H Q :=
  g_eqD (dp_two h1) (dp_two h2) sh_two sh_two (by rw [paceV_eqv]; exact k)
theorem g_neP {H : Hp} {Q : VK} {p q : Addr} {ds es : List Int} {B B2 : Int} (h1 : SqT K H p (PaceV ds B)) (h2 : SqT K H q (PaceV es B2)) (k : Q (.bl (!decide (paceN ds B = paceN es B2))) H) : rNeD K (.ref p) (.ref q) H Q :=
  g_neD (dp_two h1) (dp_two h2) sh_two sh_two (by rw [paceV_eqv]; exact k)
def sp_slowest (K : PySem.W.Frag) (C : Addr) : Sp := fun vs H Q _ => ∃ (r a b : Addr) (ds hs : List Int) (k : Nat), vs = [.ref r, .int (k : Int)] ∧ RingIn K C H r a b ds hs ∧ k < ds.length ∧
  ∀ n H', Ex H H' → ds.getD k 0 ≤ n → n ≤ 30 → SameP ds hs.sum k n → (n < 30 → ¬ SameP ds hs.sum k (n + 1)) → Q (.int n) H'
/-- fewest_days_less -/
def lessN (ds : List Int) (B x y : Int) : Option Int := if x / y = 0 ∨ x * B < (ds.length : Int) * y then none else some (max (ds.map fun d => max 0 (d - x / y)).sum (ds.sum - x * B / y))
def optV : Option Int → V
  | none => .non
  | some n => .int n
def sp_fewest_less (K : PySem.W.Frag) (C : Addr) : Sp := fun vs H Q _ => ∃ (r a b : Addr) (ds hs : List Int) (x y : Int), vs = [.ref r, .int x, .int y] ∧ RingIn K C H r a b ds hs ∧ ((1 ≤ x ∧ x ≤ 1000) ∧ (1 ≤ y ∧ y ≤ 1000)) ∧ ∀ H', Ex H H' → Q (optV (lessN ds hs.sum x y)) H'
end
end G48

namespace G48
open PySem PySem.Spec PyProof.Rows L2 Evl
abbrev N__law_taken : List Str := ["_law_row", "_law_many", "_law_found", "_law_cell"]
theorem sc__law_taken : FnScope N__law_taken ["_law_row", "_law_many"] (defScope s__law_taken) := ⟨rfl, rfl, rfl, by decide +kernel, rfl, by decide +kernel, by decide +kernel⟩
theorem b__law_taken : BindL "_law_taken" "_law_taken" s__law_taken ["_law_row", "_law_many"] := fun _ _ _ _ _ _ us hl => match us, hl with | [_, _], _ => rfl
end G48
/-! the draws of the laws k50 and on: _law_taken, _law_parts -/
namespace G48
open PySem PySem.Spec PyProof.Rows L2 Evl
/-! the steps -/
local macro_rules | `(tactic| walk_at "as") => `(tactic| with_reducible assumption)
local macro_rules | `(tactic| walk_at "hp") => `(tactic| first
  | with_reducible assumption
  | ((with_reducible apply SqT.of); walk_at "as")
  | ((with_reducible apply SqL.of); walk_at "as")
  | ((with_reducible apply ex_at); (focus walk_at "as"); walk_at "hp")
  | ((with_reducible apply ex_t); (focus walk_at "as"); walk_at "hp")
  | ((with_reducible apply ex_l); (focus walk_at "as"); walk_at "hp")
  | ((with_reducible apply exb_ins); (focus walk_at "as"); (focus walk_at "hp"); walk_at "hp")
  | ((with_reducible apply exb_t); (focus walk_at "as"); (focus walk_at "hp"); walk_at "hp")
  | ((with_reducible apply exb_at); (focus walk_at "as"); (focus walk_at "ne"); walk_at "hp")
  | ((with_reducible apply exb_l); (focus walk_at "as"); (focus walk_at "ne"); walk_at "hp"))
local macro_rules | `(tactic| walk_at "ne") => `(tactic| first
  | with_reducible assumption
  | exact Ne.symm (by with_reducible assumption)
  | exact ne_of_none (by with_reducible assumption) (by with_reducible assumption)
  | exact Ne.symm (ne_of_none (by with_reducible assumption) (by with_reducible assumption)))
local macro_rules | `(tactic| walk_at "tr") => `(tactic| first
  | rfl
  | with_reducible assumption
  | exact decide_eq_true (by first | with_reducible assumption | omega)
  | exact decide_eq_false (by first | with_reducible assumption | omega)
  | (rw [Bool.not_eq_true']; exact decide_eq_false (by first | with_reducible assumption | omega))
  | (rw [Bool.not_eq_false']; exact decide_eq_true (by first | with_reducible assumption | omega)))
local macro_rules | `(tactic| walk_at "nn") => `(tactic| first | with_reducible assumption | (exact List.cons_ne_nil _ _))
local macro_rules | `(tactic| walk_at "sz") => `(tactic| first | (exact sz1000 (Nat.le_of_ble_eq_true rfl)) | (refine sz1000 ?_; simp only [List.length_map, List.length_cons, List.length_nil, List.length_append]; omega) | with_reducible assumption)
local macro_rules | `(tactic| walk_at "sl") => `(tactic| first | with_reducible assumption | (refine lt1000 ?_; simp only [List.length_map, List.length_cons, List.length_nil, List.length_append]; omega) | (refine lt1000 ?_; omega))
local macro_rules | `(tactic| walk_at "ix") => `(tactic| first | rfl | with_reducible assumption)
local macro_rules | `(tactic| walk_at "rg") => `(tactic| exact RgOk.of_le (by omega) (by omega) (by omega) (by omega))
local macro_rules | `(tactic| walk_at "sp") => `(tactic| fail "sp")
local macro_rules | `(tactic| walk_at "cl") => `(tactic| with_reducible assumption)
local macro_rules | `(tactic| walk_at "lk") => `(tactic| with_reducible assumption)
local macro_rules | `(tactic| walk_at "it") => `(tactic| first | rfl | with_reducible assumption | exact atI_nat (by with_reducible assumption))
local macro_rules | `(tactic| walk_at "g1") => `(tactic| first
  | (with_reducible apply g_var); (focus rfl)
  | with_reducible apply g_c
  | with_reducible apply g_seq
  | with_reducible apply g_asg
  | with_reducible apply gg_name
  | with_reducible apply g_op
  | with_reducible apply g_cons
  | with_reducible apply g_nil
  | with_reducible apply g_cb
  | with_reducible apply g_fld
  | ((with_reducible apply g_kFld); (focus walk_at "hp"); (focus walk_at "cl"); (focus walk_at "cl"); (focus walk_at "lk"))
  | with_reducible apply g_call
  | walk_at "sp"
  | with_reducible apply g_ret
  | with_reducible apply g_drop
  | with_reducible apply g_test
  | with_reducible apply g_B
  | with_reducible apply g_kTest
  | with_reducible apply g_ifS
  | with_reducible apply g_kIfST
  | with_reducible apply g_kIfSF
  | with_reducible apply g_add
  | with_reducible apply g_sub
  | with_reducible apply g_lt
  | with_reducible apply g_le
  | with_reducible apply g_gt
  | with_reducible apply g_ge
  | with_reducible apply g_eqI
  | with_reducible apply g_neI
  | ((with_reducible apply g_mod); (focus first | decide | omega))
  | ((with_reducible apply g_mul); (focus first | (left; constructor <;> omega) | (right; constructor <;> omega)))
  | ((with_reducible apply g_fdiv); (focus (constructor <;> omega)))
  | ((with_reducible apply g_ixT); (focus walk_at "hp"); (focus walk_at "it"))
  | ((with_reducible apply g_ixL); (focus walk_at "hp"); (focus walk_at "it"))
  | with_reducible apply g_and
  | with_reducible apply g_or
  | with_reducible apply g_not
  | with_reducible apply g_kNotT
  | with_reducible apply g_kNotF
  | with_reducible apply g_if
  | with_reducible apply g_kAndT
  | with_reducible apply g_kAndF
  | with_reducible apply g_kOrT
  | with_reducible apply g_kOrF
  | with_reducible apply g_kIfT
  | with_reducible apply g_kIfF
  | with_reducible apply g_next
  | with_reducible apply g_andV
  | with_reducible apply g_orV
  | with_reducible apply g_notV
  | with_reducible apply g_kNotV
  | with_reducible apply g_kAndVT
  | with_reducible apply g_kAndVF
  | with_reducible apply g_chain
  | with_reducible apply g_kChainT
  | with_reducible apply g_kChainF
  | with_reducible apply g_tup
  | with_reducible apply g_lst
  | ((with_reducible apply g_kT); (focus walk_at "sz"); intro _ _ _ _ _)
  | ((with_reducible apply g_kL); (focus walk_at "sz"); intro _ _ _ _ _)
  | with_reducible apply g_un
  | with_reducible apply g_neg
  | with_reducible apply g_meth
  | ((with_reducible apply g_kMeth); (focus walk_at "hp"); (focus walk_at "lk"))
  | with_reducible apply g_prop
  | ((with_reducible apply g_kProp); (focus walk_at "hp"))
  | with_reducible apply g_make
  | with_reducible apply g_par
  | with_reducible apply g_kPar
  | ((with_reducible apply g_lenLM); (focus walk_at "hp"))
  | ((with_reducible apply g_lenTM); (focus walk_at "hp"))
  | ((with_reducible apply g_lenL); (focus walk_at "hp"))
  | ((with_reducible apply g_lenT); (focus walk_at "hp"))
  | with_reducible apply g_int1
  | with_reducible apply g_max2
  | with_reducible apply g_min2
  | ((with_reducible apply g_listL); (focus walk_at "hp"); intro _ _ _ _ _)
  | ((with_reducible apply g_listT); (focus walk_at "hp"); intro _ _ _ _ _)
  | ((with_reducible apply g_tupL); (focus walk_at "hp"); intro _ _ _ _ _)
  | ((with_reducible apply g_sum); (focus walk_at "hp"))
  | with_reducible apply g_sfld
  | with_reducible apply g_sl
  | with_reducible apply g_nopart
  | with_reducible apply g_part
  | with_reducible apply g_kPart
  | with_reducible apply g_lstRg
  | with_reducible apply g_rg1
  | with_reducible apply g_kRg1
  | with_reducible apply g_bm
  | with_reducible apply gg_sub
  | ((with_reducible apply gg_tup); (focus walk_at "hp"); (focus rfl))
  | with_reducible apply gg_cons
  | with_reducible apply gg_nil
  | with_reducible apply g_forL
  | with_reducible apply g_forT
  | with_reducible apply g_forR1
  | with_reducible apply g_forR2
  | with_reducible apply g_forE
  | with_reducible apply g_forEL
  | ((with_reducible apply g_maxT); (focus walk_at "hp"); (focus walk_at "nn"))
  | ((with_reducible apply g_maxL); (focus walk_at "hp"); (focus walk_at "nn"))
  | ((with_reducible apply g_catA); (focus walk_at "hp"); (focus walk_at "hp"); (focus walk_at "sz"); intro _ _ _ _)
  | ((with_reducible apply g_slA); (focus walk_at "hp"); intro _ _ _ _)
  | ((with_reducible apply g_tupD); (focus walk_at "hp"); intro _ _ _ _ _)
  | ((with_reducible apply g_setL); (focus walk_at "hp"); (focus walk_at "ix"); intro _ _ _)
  | ((with_reducible apply g_append); (focus walk_at "hp"); (focus walk_at "sl"); intro _ _ _)
  | ((with_reducible apply g_aug); (focus rfl))
  | with_reducible apply g_ipI
  | with_reducible apply g_retN
  | with_reducible apply g_lcR1
  | with_reducible apply g_lcR2
  | with_reducible apply g_lcL
  | with_reducible apply g_lcU
  | with_reducible apply g_lcN
  | ((with_reducible apply g_kLcG); (focus rfl))
  | with_reducible apply g_yes
  | with_reducible apply g_kLcTT
  | with_reducible apply g_kLcTF
  | ((with_reducible apply g_kLcE); (focus walk_at "hp"); (focus walk_at "sl"); intro _ _ _)
  | ((with_reducible apply g_pow); (focus (constructor <;> (try constructor) <;> decide)))
  | ((with_reducible apply g_kLRg); (focus walk_at "rg"); intro _ _ _ _ _)
  | ((with_reducible apply g_cat); (focus walk_at "hp"); (focus walk_at "hp"); (focus walk_at "sz"); intro _ _ _ _ _)
  | ((with_reducible apply g_slL); (focus walk_at "hp"); intro _ _ _ _ _)
  | with_reducible apply g_bmT
  | with_reducible apply g_break
  | with_reducible apply g_cont)
local macro_rules | `(tactic| walk_at "g0") => `(tactic| try dsimp only [L2.cxOf, L2.Cx.nox, L2.Cx.wish])
local macro_rules | `(tactic| walk_at "yn") => `(tactic| first
  | ((with_reducible apply y_kIfS); (focus walk_at "tr"))
  | ((with_reducible apply n_kIfS); (focus walk_at "tr"))
  | ((with_reducible apply y_kOr); (focus walk_at "tr"))
  | ((with_reducible apply n_kOr); (focus walk_at "tr"))
  | ((with_reducible apply y_kAnd); (focus walk_at "tr"))
  | ((with_reducible apply n_kAnd); (focus walk_at "tr"))
  | ((with_reducible apply y_kNot); (focus walk_at "tr"))
  | ((with_reducible apply n_kNot); (focus walk_at "tr"))
  | ((with_reducible apply y_kIf); (focus walk_at "tr"))
  | ((with_reducible apply n_kIf); (focus walk_at "tr"))
  | ((with_reducible apply y_kAndV); (focus walk_at "tr"))
  | ((with_reducible apply n_kAndV); (focus walk_at "tr"))
  | ((with_reducible apply y_kOrV); (focus walk_at "tr"))
  | ((with_reducible apply n_kOrV); (focus walk_at "tr"))
  | ((with_reducible apply y_kChain); (focus walk_at "tr"))
  | ((with_reducible apply n_kChain); (focus walk_at "tr"))
  | ((with_reducible apply y_kLcT); (focus walk_at "tr"))
  | ((with_reducible apply n_kLcT); (focus walk_at "tr"))
  | ((with_reducible apply y_kWh); (focus walk_at "tr"))
  | ((with_reducible apply n_kWh); (focus walk_at "tr")))
local macro_rules | `(tactic| walk_at "go") => `(tactic| repeat (first | walk_at "g1" | walk_at "yn"))
local macro_rules | `(tactic| walk_at "hp") => `(tactic| first
  | ((with_reducible apply RingIn.ex); (focus walk_at "as"); walk_at "hp")
  | ((with_reducible apply RingAt.ex); (focus walk_at "as"); walk_at "hp")
  | ((with_reducible apply RingIn.exb); (focus walk_at "as"); (focus walk_at "hp"); walk_at "hp")
  | ((with_reducible apply RingAt.exb); (focus walk_at "as"); (focus walk_at "hp"); walk_at "hp")
  | ((with_reducible apply TupK.ex); (focus walk_at "as"); walk_at "hp")
  | ((with_reducible apply TupK.exb); (focus walk_at "as"); (focus walk_at "hp"); walk_at "hp"))
local macro_rules | `(tactic| walk_at "lk") => `(tactic| first | with_reducible exact rf_spans | with_reducible exact rf_heaps | with_reducible exact rf_total | with_reducible exact rf_nr | with_reducible exact rf_wd)
local macro_rules | `(tactic| walk_at "sp") => `(tactic| first
  | ((with_reducible apply g_isiTup); (focus walk_at "hp"))
  | ((with_reducible apply g_isiLst); (focus walk_at "hp"))
  | ((with_reducible apply g_isint); (focus omega); (focus omega))
  | ((with_reducible apply g_checkn); (focus omega); (focus omega))
  | ((with_reducible apply g_rbooks); (focus walk_at "hp"))
  | ((with_reducible apply g_rpace); (focus walk_at "hp"); intro _ _ _ _)
  | ((with_reducible apply g_rlen); (focus walk_at "hp"))
  | ((with_reducible apply g_rneed); (focus walk_at "hp"); (focus omega))
  | ((with_reducible apply g_rneedM); (focus walk_at "hp"))
  | ((with_reducible apply g_rwithM); (focus walk_at "hp"))
  | ((with_reducible apply g_rspans); (focus walk_at "hp"); (focus with_reducible assumption))
  | ((with_reducible apply g_rheaps); (focus walk_at "hp"); (focus with_reducible assumption))
  | ((with_reducible apply g_rtotal); (focus walk_at "hp"); (focus with_reducible assumption)))

/-- the script: frozen, or the module's own -/
def Scr (K : PySem.W.Frag) (H : Hp) (a : Addr) (xs : List V) : Prop := (∃ o, H a = some (.frz o (.lst xs))) ∨ ∃ (o : Obj) (its : Array Value) (n : Nat), K.lookup a = some o ∧ o.cls = .type "list" ∧ o.dict = none ∧ o.data = .seq its n ∧ its.size ≤ sizeLine ∧ Vals xs its.toList
theorem Scr.sq {K : PySem.W.Frag} {H : Hp} {a : Addr} {xs : List V} : Scr K H a xs → SqL K H a xs
  | .inl h => .inl (.inr h)
  | .inr h => .inr h
theorem Scr.only {K : PySem.W.Frag} {H : Hp} {a : Addr} {xs : List V} (O : L2.Only H) : SqL K H a xs → Scr K H a xs
  | .inl (.inr h) => .inl h
  | .inr h => .inr h
  | .inl (.inl h) => by
    rcases O a with z | ⟨o, ys, z⟩
    · rw [z] at h; cases h
    · rw [z] at h; cases h
theorem Scr.ex {K : PySem.W.Frag} {H H' : Hp} {a : Addr} {xs : List V} (e : Ex H H') : Scr K H a xs → Scr K H' a xs
  | .inl ⟨o, h⟩ => .inl ⟨o, e _ _ h⟩
  | .inr h => .inr h
theorem Scr.exb {K : PySem.W.Frag} {H H' : Hp} {l a : Addr} {xs ys : List V} (e : Exb l H H') (hl : H l = some (.lst ys)) : Scr K H a xs → Scr K H' a xs
  | .inl ⟨o, h⟩ => .inl ⟨o, e _ _ (ne_of h hl (by intro z; cases z)) h⟩
  | .inr h => .inr h
/-- the state of a draw: the script, a place, a number, a rest -/
def DiceAt (K : PySem.W.Frag) (H : Hp) (d : Addr) : Prop := ∃ (sc : Addr) (ns : List Int) (pos mixed rest : Int), H d = some (.lst [.ref sc, .int pos, .int mixed, .int rest]) ∧ Scr K H sc (ns.map V.int) ∧ ns.length ≤ 63 ∧ 0 ≤ pos ∧ 0 ≤ mixed ∧ mixed < 2147483647
section
variable {K : PySem.W.Frag} {H H' : Hp} {d a C dx r b : Addr} {xs : List V} {fs : List (Str × V)} {ds hs : List Int}
theorem DiceAt.lst (D : DiceAt K H d) : ∃ ys, H d = some (.lst ys) := let ⟨_, _, _, _, _, h, _⟩ := D; ⟨_, h⟩
theorem DiceAt.ex (e : Ex H H') (D : DiceAt K H d) : DiceAt K H' d := by
  obtain ⟨sc, ns, p, m, r, h, hs, z, q⟩ := D
  exact ⟨sc, ns, p, m, r, e _ _ h, hs.ex e, z, q⟩
theorem DiceAt.exb {l : Addr} {ys : List V} (e : Exb l H H') (ne : d ≠ l) (hl : H l = some (.lst ys)) (D : DiceAt K H d) : DiceAt K H' d := by
  obtain ⟨sc, ns, p, m, r, h, hs, z, q⟩ := D
  exact ⟨sc, ns, p, m, r, e _ _ ne h, hs.exb e hl, z, q⟩
theorem exb_tD (e : Exb d H H') (D : DiceAt K H d) (h : SqT K H a xs) : SqT K H' a xs := let ⟨_, hl⟩ := D.lst; exb_t e hl h
theorem exb_insD (e : Exb d H H') (D : DiceAt K H d) (h : H a = some (.ins C dx fs)) : H' a = some (.ins C dx fs) := let ⟨_, hl⟩ := D.lst; exb_ins e hl h
theorem RingIn.exD (e : Exb d H H') (D : DiceAt K H d) (R : RingIn K C H r a b ds hs) : RingIn K C H' r a b ds hs := let ⟨_, hl⟩ := D.lst; R.exb e hl
theorem TupK.exD (e : Exb d H H') (D : DiceAt K H d) (R : TupK H a xs) : TupK H' a xs := let ⟨_, hl⟩ := D.lst; R.exb e hl
end
/-- a draw changes the draw's own list alone -/
def Dx (K : PySem.W.Frag) (d : Addr) (H H' : Hp) : Prop := Exb d H H' ∧ DiceAt K H' d
section
variable {P : Program} {w : World} {K : PySem.W.Frag} {mg : Str → Option Value} {base : Heap} {C : Addr}
def sp_taken (K : PySem.W.Frag) : Sp := fun vs H Q _ => ∃ (d : Addr) (many : Int), vs = [.ref d, .int many] ∧ DiceAt K H d ∧ (0 < many ∧ many < 1073741824) ∧ ∀ k H', 0 ≤ k → k < many → Dx K d H H' → Q (.int k) H'
theorem dice_set {K : PySem.W.Frag} {H H' : Hp} {d sc : Addr} {ns : List Int} {p m r : Int} {ys : List V} (hd : H d = some (.lst ys)) (e : Exb d H H') (h : H' d = some (.lst [.ref sc, .int p, .int m, .int r])) (hs : Scr K H sc (ns.map V.int)) (z : ns.length ≤ 63) (h1 : 0 ≤ p) (h2 : 0 ≤ m) (h3 : m < 2147483647) : DiceAt K H' d :=
  ⟨sc, ns, p, m, r, h, hs.exb e hd, z, h1, h2, h3⟩
theorem ok_taken (Z : Blt mg) (G : GFun K mg "_law_taken" s__law_taken) : Df P w K mg base 1 "_law_taken" ["_law_row", "_law_many"] (sp_taken K) := by
  refine Df.of G sc__law_taken b__law_taken (fun vs H Q E h => ?_) (fun f cdv A outer s H vs Q E hr h => ?_)
  · obtain ⟨d, many, rfl, _⟩ := h
    rfl
  · obtain ⟨d, many, rfl, ⟨sc, ns, p, m, r, hd, hsc, z, h1, h2, h3⟩, ⟨m1, m2⟩, q⟩ := h
    have hs := hsc.sq
    refine ⟨_, PSs.nox (pss_cons (ps_if (pt_cmpR op_gt (pe_ix ix_list (pv 0) pe_int (fun _ _ => rfl)) pe_int (nomark _)) (pss_cons (ps_set (i := 2) sc__law_taken.nd rfl (by first | exact Or.inl rfl | exact Or.inr rfl) (pe_op op_mod (pe_callTy c_int1 (by rfl) Z.zint (by decide +kernel) (pa_cons (pe_ix ix_list (pv 0) pe_int (fun _ _ => rfl)) pa_nil)) (pv 1)))
          (pss_cons (ps_asg (pe_op op_fdiv (pe_ix ix_list (pv 0) pe_int (fun _ _ => rfl)) (pv 1)) (pg_sub (pv 0) pe_int set_list))
          (pss_one (ps_ret (pv 2))))) pss_nil)
      (pss_cons (ps_asg (pe_op op_add (pe_ix ix_list (pv 0) pe_int (fun _ _ => rfl)) pe_int) (pg_sub (pv 0) pe_int set_list))
      (pss_cons (ps_if (pt_cmpR op_gt (pe_ix ix_list (pv 0) pe_int (fun _ _ => rfl)) (pe_callB c_len (by rfl) Z.zlen PySem.boot_len (pa_cons (pe_ix ix_list (pv 0) pe_int (fun _ _ => rfl)) pa_nil)) (nomark _)) (pss_cons (ps_asg (pe_op op_mod (pe_callTy c_int1 (by rfl) Z.zint (by decide +kernel) (pa_cons (pe_op op_add (pe_op op_mul (pe_ix ix_list (pv 0) pe_int (fun _ _ => rfl)) pe_int) pe_int) pa_nil)) pe_int) (pg_sub (pv 0) pe_int set_list))
          (pss_one (ps_ret (pe_op op_mod (pe_callTy c_int1 (by rfl) Z.zint (by decide +kernel) (pa_cons (pe_op op_fdiv (pe_ix ix_list (pv 0) pe_int (fun _ _ => rfl)) pe_int) pa_nil)) (pv 1))))) pss_nil)
      (pss_cons (ps_set (i := 3) sc__law_taken.nd rfl (by first | exact Or.inl rfl | exact Or.inr rfl) (pe_ix ix_list (pe_ix ix_list (pv 0) pe_int (fun _ _ => rfl)) (pe_op op_sub (pe_ix ix_list (pv 0) pe_int (fun _ _ => rfl)) pe_int) (fun _ _ => rfl)))
      (pss_cons (ps_asg (pe_op op_mod (pe_callTy c_int1 (by rfl) Z.zint (by decide +kernel) (pa_cons (pe_op op_add (pe_op op_add (pe_op op_mul (pe_ix ix_list (pv 0) pe_int (fun _ _ => rfl)) pe_int) (pv 3)) pe_int) pa_nil)) pe_int) (pg_sub (pv 0) pe_int set_list))
      (pss_cons (ps_asg (pe_ifExp (pt_cmpR op_ge (pv 3) (pe_op op_pow pe_int pe_int) (nomark _)) (pe_op op_fdiv (pv 3) (pv 1)) pe_int) (pg_sub (pv 0) pe_int set_list))
      (pss_one (ps_ret (pe_op op_mod (pe_callTy c_int1 (by rfl) Z.zint (by decide +kernel) (pa_cons (pv 3) pa_nil)) (pv 1)))))))))), ?_⟩
    walk_at "g0"
    walk_at "go"
    refine g_kIfS (fun h => ?_) (fun h => ?_)
    · have h := of_decide_eq_true h
      walk_at "go"
      rename_i H2 e2 hd2
      exact q _ H2 (Int.emod_nonneg _ (by omega)) (Int.emod_lt_of_pos _ m1) ⟨e2, dice_set hd e2 hd2 hsc z h1 h2 h3⟩
    · walk_at "go"
      rename_i H2 e2 hd2
      have hs2 := (hsc.exb e2 hd).sq
      walk_at "go"
      refine g_kIfS (fun h => ?_) (fun h => ?_)
      · walk_at "go"
        rename_i H3 e3 hd3
        refine q _ H3 (Int.emod_nonneg _ (by omega)) (Int.emod_lt_of_pos _ m1) ⟨e2.trans e3, dice_set hd (e2.trans e3) hd3 hsc z (by omega) (Int.emod_nonneg _ (by decide)) (Int.emod_lt_of_pos _ (by decide))⟩
      · have h := of_decide_eq_false h
        have hpl : p.toNat < ns.length := by omega
        walk_at "go"
        refine g_ixL (v := .int ns[p.toNat]) hs2 ?_ ?_
        · have e0 : atI (ns.map V.int) (p.toNat : Int) = some (.int ns[p.toNat]) := atI_nat (by rw [List.getElem?_map, List.getElem?_eq_getElem hpl]; rfl)
          rw [← e0]
          congr 1
          omega
        walk_at "go"
        rename_i H3 e3 hd3
        refine g_kIf (fun h4 => ?_) (fun h4 => ?_)
        · walk_at "go"
          rename_i H4 e4 hd4
          refine q _ H4 (Int.emod_nonneg _ (by omega)) (Int.emod_lt_of_pos _ m1) ⟨(e2.trans e3).trans e4, dice_set hd ((e2.trans e3).trans e4) hd4 hsc z (by omega) (Int.emod_nonneg _ (by decide)) (Int.emod_lt_of_pos _ (by decide))⟩
        · walk_at "go"
          rename_i H4 e4 hd4
          refine q _ H4 (Int.emod_nonneg _ (by omega)) (Int.emod_lt_of_pos _ m1) ⟨(e2.trans e3).trans e4, dice_set hd ((e2.trans e3).trans e4) hd4 hsc z (by omega) (Int.emod_nonneg _ (by decide)) (Int.emod_lt_of_pos _ (by decide))⟩
theorem g_taken {H : Hp} {Q : VK} {E : XK} {d : Addr} {many : Int} (D : DiceAt K H d) (h1 : 0 < many) (h2 : many < 1073741824) (q : ∀ k H', 0 ≤ k → k < many → Exb d H H' → DiceAt K H' d → Q (.int k) H') : sp_taken K [.ref d, .int many] H Q E :=
  ⟨d, many, rfl, D, ⟨h1, h2⟩, fun k H' a b c => q k H' a b c.1 c.2⟩
end
end G48

namespace G48
open PySem PySem.Spec PyProof.Rows L2 Evl
abbrev N__law_parts : List Str := ["_law_row", "_law_most", "_law_size", "_law_far", "_law_days", "_law_starts", "_law_k"]
theorem sc__law_parts : FnScope N__law_parts ["_law_row", "_law_most"] (defScope s__law_parts) := ⟨rfl, rfl, rfl, by decide +kernel, rfl, by decide +kernel, by decide +kernel⟩
theorem b__law_parts : BindL "_law_parts" "_law_parts" s__law_parts ["_law_row", "_law_most"] := fun _ _ _ _ _ _ us hl => match us, hl with | [_, _], _ => rfl
end G48
/-! _law_parts -/
namespace G48
open PySem PySem.Spec PyProof.Rows L2 Evl
/-! the steps -/
local macro_rules | `(tactic| walk_at "as") => `(tactic| with_reducible assumption)
local macro_rules | `(tactic| walk_at "hp") => `(tactic| first
  | with_reducible assumption
  | ((with_reducible apply SqT.of); walk_at "as")
  | ((with_reducible apply SqL.of); walk_at "as")
  | ((with_reducible apply ex_at); (focus walk_at "as"); walk_at "hp")
  | ((with_reducible apply ex_t); (focus walk_at "as"); walk_at "hp")
  | ((with_reducible apply ex_l); (focus walk_at "as"); walk_at "hp")
  | ((with_reducible apply exb_ins); (focus walk_at "as"); (focus walk_at "hp"); walk_at "hp")
  | ((with_reducible apply exb_t); (focus walk_at "as"); (focus walk_at "hp"); walk_at "hp")
  | ((with_reducible apply exb_at); (focus walk_at "as"); (focus walk_at "ne"); walk_at "hp")
  | ((with_reducible apply exb_l); (focus walk_at "as"); (focus walk_at "ne"); walk_at "hp"))
local macro_rules | `(tactic| walk_at "ne") => `(tactic| first
  | with_reducible assumption
  | exact Ne.symm (by with_reducible assumption)
  | exact ne_of_none (by with_reducible assumption) (by with_reducible assumption)
  | exact Ne.symm (ne_of_none (by with_reducible assumption) (by with_reducible assumption)))
local macro_rules | `(tactic| walk_at "tr") => `(tactic| first
  | rfl
  | with_reducible assumption
  | exact decide_eq_true (by first | with_reducible assumption | omega)
  | exact decide_eq_false (by first | with_reducible assumption | omega)
  | (rw [Bool.not_eq_true']; exact decide_eq_false (by first | with_reducible assumption | omega))
  | (rw [Bool.not_eq_false']; exact decide_eq_true (by first | with_reducible assumption | omega)))
local macro_rules | `(tactic| walk_at "nn") => `(tactic| first | with_reducible assumption | (exact List.cons_ne_nil _ _))
local macro_rules | `(tactic| walk_at "sz") => `(tactic| first | (exact sz1000 (Nat.le_of_ble_eq_true rfl)) | (refine sz1000 ?_; simp only [List.length_map, List.length_cons, List.length_nil, List.length_append]; omega) | with_reducible assumption)
local macro_rules | `(tactic| walk_at "sl") => `(tactic| first | with_reducible assumption | (refine lt1000 ?_; simp only [List.length_map, List.length_cons, List.length_nil, List.length_append]; omega) | (refine lt1000 ?_; omega))
local macro_rules | `(tactic| walk_at "ix") => `(tactic| first | rfl | with_reducible assumption)
local macro_rules | `(tactic| walk_at "rg") => `(tactic| exact RgOk.of_le (by omega) (by omega) (by omega) (by omega))
local macro_rules | `(tactic| walk_at "sp") => `(tactic| fail "sp")
local macro_rules | `(tactic| walk_at "cl") => `(tactic| with_reducible assumption)
local macro_rules | `(tactic| walk_at "lk") => `(tactic| with_reducible assumption)
local macro_rules | `(tactic| walk_at "it") => `(tactic| first | rfl | with_reducible assumption | exact atI_nat (by with_reducible assumption))
local macro_rules | `(tactic| walk_at "g1") => `(tactic| first
  | (with_reducible apply g_var); (focus rfl)
  | with_reducible apply g_c
  | with_reducible apply g_seq
  | with_reducible apply g_asg
  | with_reducible apply gg_name
  | with_reducible apply g_op
  | with_reducible apply g_cons
  | with_reducible apply g_nil
  | with_reducible apply g_cb
  | with_reducible apply g_fld
  | ((with_reducible apply g_kFld); (focus walk_at "hp"); (focus walk_at "cl"); (focus walk_at "cl"); (focus walk_at "lk"))
  | with_reducible apply g_call
  | walk_at "sp"
  | with_reducible apply g_ret
  | with_reducible apply g_drop
  | with_reducible apply g_test
  | with_reducible apply g_B
  | with_reducible apply g_kTest
  | with_reducible apply g_ifS
  | with_reducible apply g_kIfST
  | with_reducible apply g_kIfSF
  | with_reducible apply g_add
  | with_reducible apply g_sub
  | with_reducible apply g_lt
  | with_reducible apply g_le
  | with_reducible apply g_gt
  | with_reducible apply g_ge
  | with_reducible apply g_eqI
  | with_reducible apply g_neI
  | ((with_reducible apply g_mod); (focus first | decide | omega))
  | ((with_reducible apply g_mul); (focus first | (left; constructor <;> omega) | (right; constructor <;> omega)))
  | ((with_reducible apply g_fdiv); (focus (constructor <;> omega)))
  | ((with_reducible apply g_ixT); (focus walk_at "hp"); (focus walk_at "it"))
  | ((with_reducible apply g_ixL); (focus walk_at "hp"); (focus walk_at "it"))
  | with_reducible apply g_and
  | with_reducible apply g_or
  | with_reducible apply g_not
  | with_reducible apply g_kNotT
  | with_reducible apply g_kNotF
  | with_reducible apply g_if
  | with_reducible apply g_kAndT
  | with_reducible apply g_kAndF
  | with_reducible apply g_kOrT
  | with_reducible apply g_kOrF
  | with_reducible apply g_kIfT
  | with_reducible apply g_kIfF
  | with_reducible apply g_next
  | with_reducible apply g_andV
  | with_reducible apply g_orV
  | with_reducible apply g_notV
  | with_reducible apply g_kNotV
  | with_reducible apply g_kAndVT
  | with_reducible apply g_kAndVF
  | with_reducible apply g_chain
  | with_reducible apply g_kChainT
  | with_reducible apply g_kChainF
  | with_reducible apply g_tup
  | with_reducible apply g_lst
  | ((with_reducible apply g_kT); (focus walk_at "sz"); intro _ _ _ _ _)
  | ((with_reducible apply g_kL); (focus walk_at "sz"); intro _ _ _ _ _)
  | with_reducible apply g_un
  | with_reducible apply g_neg
  | with_reducible apply g_meth
  | ((with_reducible apply g_kMeth); (focus walk_at "hp"); (focus walk_at "lk"))
  | with_reducible apply g_prop
  | ((with_reducible apply g_kProp); (focus walk_at "hp"))
  | with_reducible apply g_make
  | with_reducible apply g_par
  | with_reducible apply g_kPar
  | ((with_reducible apply g_lenLM); (focus walk_at "hp"))
  | ((with_reducible apply g_lenTM); (focus walk_at "hp"))
  | ((with_reducible apply g_lenL); (focus walk_at "hp"))
  | ((with_reducible apply g_lenT); (focus walk_at "hp"))
  | with_reducible apply g_int1
  | with_reducible apply g_max2
  | with_reducible apply g_min2
  | ((with_reducible apply g_listL); (focus walk_at "hp"); intro _ _ _ _ _)
  | ((with_reducible apply g_listT); (focus walk_at "hp"); intro _ _ _ _ _)
  | ((with_reducible apply g_tupL); (focus walk_at "hp"); intro _ _ _ _ _)
  | ((with_reducible apply g_sum); (focus walk_at "hp"))
  | with_reducible apply g_sfld
  | with_reducible apply g_sl
  | with_reducible apply g_nopart
  | with_reducible apply g_part
  | with_reducible apply g_kPart
  | with_reducible apply g_lstRg
  | with_reducible apply g_rg1
  | with_reducible apply g_kRg1
  | with_reducible apply g_bm
  | with_reducible apply gg_sub
  | ((with_reducible apply gg_tup); (focus walk_at "hp"); (focus rfl))
  | with_reducible apply gg_cons
  | with_reducible apply gg_nil
  | with_reducible apply g_forL
  | with_reducible apply g_forT
  | with_reducible apply g_forR1
  | with_reducible apply g_forR2
  | with_reducible apply g_forE
  | with_reducible apply g_forEL
  | ((with_reducible apply g_maxT); (focus walk_at "hp"); (focus walk_at "nn"))
  | ((with_reducible apply g_maxL); (focus walk_at "hp"); (focus walk_at "nn"))
  | ((with_reducible apply g_catA); (focus walk_at "hp"); (focus walk_at "hp"); (focus walk_at "sz"); intro _ _ _ _)
  | ((with_reducible apply g_slA); (focus walk_at "hp"); intro _ _ _ _)
  | ((with_reducible apply g_tupD); (focus walk_at "hp"); intro _ _ _ _ _)
  | ((with_reducible apply g_setL); (focus walk_at "hp"); (focus walk_at "ix"); intro _ _ _)
  | ((with_reducible apply g_append); (focus walk_at "hp"); (focus walk_at "sl"); intro _ _ _)
  | ((with_reducible apply g_aug); (focus rfl))
  | with_reducible apply g_ipI
  | with_reducible apply g_retN
  | with_reducible apply g_lcR1
  | with_reducible apply g_lcR2
  | with_reducible apply g_lcL
  | with_reducible apply g_lcU
  | with_reducible apply g_lcN
  | ((with_reducible apply g_kLcG); (focus rfl))
  | with_reducible apply g_yes
  | with_reducible apply g_kLcTT
  | with_reducible apply g_kLcTF
  | ((with_reducible apply g_kLcE); (focus walk_at "hp"); (focus walk_at "sl"); intro _ _ _)
  | ((with_reducible apply g_pow); (focus (constructor <;> (try constructor) <;> decide)))
  | ((with_reducible apply g_kLRg); (focus walk_at "rg"); intro _ _ _ _ _)
  | ((with_reducible apply g_cat); (focus walk_at "hp"); (focus walk_at "hp"); (focus walk_at "sz"); intro _ _ _ _ _)
  | ((with_reducible apply g_slL); (focus walk_at "hp"); intro _ _ _ _ _)
  | with_reducible apply g_bmT
  | with_reducible apply g_break
  | with_reducible apply g_cont)
local macro_rules | `(tactic| walk_at "g0") => `(tactic| try dsimp only [L2.cxOf, L2.Cx.nox, L2.Cx.wish])
local macro_rules | `(tactic| walk_at "yn") => `(tactic| first
  | ((with_reducible apply y_kIfS); (focus walk_at "tr"))
  | ((with_reducible apply n_kIfS); (focus walk_at "tr"))
  | ((with_reducible apply y_kOr); (focus walk_at "tr"))
  | ((with_reducible apply n_kOr); (focus walk_at "tr"))
  | ((with_reducible apply y_kAnd); (focus walk_at "tr"))
  | ((with_reducible apply n_kAnd); (focus walk_at "tr"))
  | ((with_reducible apply y_kNot); (focus walk_at "tr"))
  | ((with_reducible apply n_kNot); (focus walk_at "tr"))
  | ((with_reducible apply y_kIf); (focus walk_at "tr"))
  | ((with_reducible apply n_kIf); (focus walk_at "tr"))
  | ((with_reducible apply y_kAndV); (focus walk_at "tr"))
  | ((with_reducible apply n_kAndV); (focus walk_at "tr"))
  | ((with_reducible apply y_kOrV); (focus walk_at "tr"))
  | ((with_reducible apply n_kOrV); (focus walk_at "tr"))
  | ((with_reducible apply y_kChain); (focus walk_at "tr"))
  | ((with_reducible apply n_kChain); (focus walk_at "tr"))
  | ((with_reducible apply y_kLcT); (focus walk_at "tr"))
  | ((with_reducible apply n_kLcT); (focus walk_at "tr"))
  | ((with_reducible apply y_kWh); (focus walk_at "tr"))
  | ((with_reducible apply n_kWh); (focus walk_at "tr")))
local macro_rules | `(tactic| walk_at "go") => `(tactic| repeat (first | walk_at "g1" | walk_at "yn"))
local macro_rules | `(tactic| walk_at "hp") => `(tactic| first
  | ((with_reducible apply RingIn.ex); (focus walk_at "as"); walk_at "hp")
  | ((with_reducible apply RingAt.ex); (focus walk_at "as"); walk_at "hp")
  | ((with_reducible apply RingIn.exb); (focus walk_at "as"); (focus walk_at "hp"); walk_at "hp")
  | ((with_reducible apply RingAt.exb); (focus walk_at "as"); (focus walk_at "hp"); walk_at "hp")
  | ((with_reducible apply TupK.ex); (focus walk_at "as"); walk_at "hp")
  | ((with_reducible apply TupK.exb); (focus walk_at "as"); (focus walk_at "hp"); walk_at "hp"))
local macro_rules | `(tactic| walk_at "lk") => `(tactic| first | with_reducible exact rf_spans | with_reducible exact rf_heaps | with_reducible exact rf_total | with_reducible exact rf_nr | with_reducible exact rf_wd)
local macro_rules | `(tactic| walk_at "sp") => `(tactic| first
  | ((with_reducible apply g_isiTup); (focus walk_at "hp"))
  | ((with_reducible apply g_isiLst); (focus walk_at "hp"))
  | ((with_reducible apply g_isint); (focus omega); (focus omega))
  | ((with_reducible apply g_checkn); (focus omega); (focus omega))
  | ((with_reducible apply g_rbooks); (focus walk_at "hp"))
  | ((with_reducible apply g_rpace); (focus walk_at "hp"); intro _ _ _ _)
  | ((with_reducible apply g_rlen); (focus walk_at "hp"))
  | ((with_reducible apply g_rneed); (focus walk_at "hp"); (focus omega))
  | ((with_reducible apply g_rneedM); (focus walk_at "hp"))
  | ((with_reducible apply g_rwithM); (focus walk_at "hp"))
  | ((with_reducible apply g_rspans); (focus walk_at "hp"); (focus with_reducible assumption))
  | ((with_reducible apply g_rheaps); (focus walk_at "hp"); (focus with_reducible assumption))
  | ((with_reducible apply g_rtotal); (focus walk_at "hp"); (focus with_reducible assumption)))

local macro_rules | `(tactic| walk_at "sp") => `(tactic| first
  | ((with_reducible apply g_taken); (focus walk_at "hp"); (focus first | decide | omega); (focus first | decide | omega); intro _ _ _ _ _ _))
local macro_rules | `(tactic| walk_at "hp") => `(tactic| first
  | ((with_reducible apply DiceAt.ex); (focus walk_at "as"); walk_at "hp")
  | ((with_reducible apply exb_tD); (focus walk_at "as"); (focus walk_at "hp"); walk_at "hp")
  | ((with_reducible apply exb_insD); (focus walk_at "as"); (focus walk_at "hp"); walk_at "hp")
  | ((with_reducible apply RingIn.exD); (focus walk_at "as"); (focus walk_at "hp"); walk_at "hp")
  | ((with_reducible apply TupK.exD); (focus walk_at "as"); (focus walk_at "hp"); walk_at "hp"))

theorem Exb.ex2 {l d : Addr} {H0 H H' : Hp} (h : H0 l = none) (a : Exb d H0 H) (b : Exb l H H') : Exb d H0 H' := fun c o n e => b c o (ne_of_none e h) (a c o n e)
theorem sum_set : ∀ (hs : List Int) (j : Nat) (v x : Int), hs[j]? = some x → (hs.set j v).sum = hs.sum - x + v
  | [], _, _, _, h => by cases h
  | y :: r, 0, v, x, h => by
    cases h
    rw [List.set_cons_zero, List.sum_cons, List.sum_cons]
    omega
  | y :: r, j + 1, v, x, h => by
    rw [List.set_cons_succ, List.sum_cons, List.sum_cons, sum_set r j v x (by simpa using h)]
    omega
theorem all_set {P : Int → Prop} {hs : List Int} (h : ∀ x ∈ hs, P x) (j : Nat) {v : Int} (hv : P v) : ∀ x ∈ hs.set j v, P x := fun x hx => by
  rcases List.mem_or_eq_of_mem_set hx with h1 | h1
  · exact h x h1
  · rw [h1]; exact hv
theorem all_app {P : Int → Prop} {hs : List Int} (h : ∀ x ∈ hs, P x) {v : Int} (hv : P v) : ∀ x ∈ hs ++ [v], P x := fun x hx => by
  rcases List.mem_append.mp hx with h1 | h1
  · exact h x h1
  · rw [List.mem_singleton.mp h1]; exact hv
theorem map_app (ds : List Int) (v : Int) : ds.map V.int ++ [V.int v] = (ds ++ [v]).map V.int := by rw [List.map_append]; rfl
theorem map_set' (ds : List Int) (j : Nat) (v : Int) : (ds.map V.int).set j (.int v) = (ds.set j v).map V.int := by rw [List.map_set]
/-- the greatest's first place -/
theorem g_indexMx {K : PySem.W.Frag} {H : Hp} {Q : VK} {a : Addr} {hs : List Int} (h : H a = some (.lst (hs.map V.int))) (hn : hs ≠ []) (q : ∀ j : Nat, hs[j]? = some (mx hs) → Q (.int (j : Nat)) H) : rIndex K (.ref a) [.int (mx hs)] H Q := by
  obtain ⟨j, hj, hf⟩ := first_at (mx_mem hn)
  refine ⟨a, hs.map V.int, .int (mx hs), j, .int (mx hs), rfl, rfl, SqL.of h, rfl, flat_ints hs, by rw [List.getElem?_map, hj]; rfl, beq_self_eq_true _, fun m z hm hz => ?_, q j hj⟩
  rw [List.getElem?_map] at hz
  cases e : hs[m]? with
  | none => rw [e] at hz; cases hz
  | some y =>
    rw [e] at hz
    cases hz
    have h2 := hf m hm
    rw [e] at h2
    exact beq_eq_false_iff_ne.mpr fun z => h2 (by rw [z])
theorem ixN_nat' {n j : Nat} (h : j < n) : ixN n (j : Int) = some j := by
  unfold ixN
  rw [if_pos (by omega), if_pos (by omega), Int.toNat_natCast]
theorem ixN_int {n : Nat} {k : Int} (h : 0 ≤ k ∧ k < n) : ixN n k = some k.toNat := by
  unfold ixN
  rw [if_pos h.1, if_pos h.2]
section
variable {P : Program} {w : World} {K : PySem.W.Frag} {mg : Str → Option Value} {base : Heap} {C : Addr}
def sp_parts (K : PySem.W.Frag) : Sp := fun vs H Q _ => ∃ (d : Addr) (most : Int), vs = [.ref d, .int most] ∧ DiceAt K H d ∧ (2 ≤ most ∧ most ≤ 8) ∧
  ∀ p a b ds hs H', H p = none → Exb d H H' → DiceAt K H' d → H' p = some (.tup [.ref a, .ref b]) → TupK H' a (ds.map V.int) → TupK H' b (hs.map V.int) → RingOk ds hs → (ds.length : Int) ≤ most → Q (.ref p) H'
theorem ok_parts (Z : Blt mg) (D__law_taken : Df P w K mg base 1 "_law_taken" ["_law_row", "_law_many"] (sp_taken K)) (G : GFun K mg "_law_parts" s__law_parts) : Df P w K mg base 3 "_law_parts" ["_law_row", "_law_most"] (sp_parts K) := by
  refine Df.of G sc__law_parts b__law_parts (fun vs H Q E h => ?_) (fun f cdv A outer s H vs Q E hr h => ?_)
  · obtain ⟨d, most, rfl, _⟩ := h
    rfl
  · obtain ⟨d, most, rfl, D, ⟨m1, m2⟩, q⟩ := h
    refine ⟨_, PSs.nox (pss_cons (ps_asg (pe_tup (pa_cons (pe_op op_add pe_int (pg D__law_taken hr (pa_cons (pv 0) (pa_cons (pe_op op_sub (pv 1) pe_int) pa_nil)))) (pa_cons (pe_ix ix_list (pe_lst (pa_cons pe_int (pa_cons pe_int (pa_cons pe_int pa_nil)))) (pg D__law_taken hr (pa_cons (pv 0) (pa_cons pe_int pa_nil))) (fun _ _ => rfl)) pa_nil))) (pg_tup (by rfl) (pgs_cons (pg_name (i := 2) sc__law_parts.nd rfl (by first | exact Or.inl rfl | exact Or.inr rfl)) (pgs_cons (pg_name (i := 3) sc__law_parts.nd rfl (by first | exact Or.inl rfl | exact Or.inr rfl)) pgs_nil))))
      (pss_cons (ps_setLc (i := 4) (own := [("_law_k", 6)]) rfl sc__law_parts.nd rfl rfl (sw_true rfl rfl rfl (by decide +kernel)) (pi_range1 (by rfl) Z.zrange (pa_cons (pv 2) pa_nil)) (blkOk_by (N := N__law_parts) (sc := defScope s__law_parts) (by decide +kernel)) (fun _ _ _ _ _ => (pg_name (i := 6) sc__law_parts.nd rfl (by first | exact Or.inl rfl | exact Or.inr rfl))) (fun _ _ _ _ _ => pts_nil) (fun _ _ _ _ _ => (pe_op op_add pe_int (pg D__law_taken hr (pa_cons (pv 0) (pa_cons (pv 3) pa_nil))))))
      (pss_cons (ps_setLc (i := 5) (own := [("_law_k", 6)]) rfl sc__law_parts.nd rfl rfl (sw_true rfl rfl rfl (by decide +kernel)) (pi_range1 (by rfl) Z.zrange (pa_cons (pv 2) pa_nil)) (blkOk_by (N := N__law_parts) (sc := defScope s__law_parts) (by decide +kernel)) (fun _ _ _ _ _ => (pg_name (i := 6) sc__law_parts.nd rfl (by first | exact Or.inl rfl | exact Or.inr rfl))) (fun _ _ _ _ _ => pts_nil) (fun _ _ _ _ _ => (pg D__law_taken hr (pa_cons (pv 0) (pa_cons pe_int pa_nil)))))
      (pss_cons (ps_if (pt_cmpR op_eq (pe_callB (cr_sum rfl) (by rfl) Z.zsum (by decide +kernel) (pa_cons (pv 5) pa_nil)) pe_int (nomark _)) (pss_one (ps_asg (pe_op op_add pe_int (pg D__law_taken hr (pa_cons (pv 0) (pa_cons pe_int pa_nil)))) (pg_sub (pv 5) (pg D__law_taken hr (pa_cons (pv 0) (pa_cons (pv 2) pa_nil))) set_list))) pss_nil)
      (pss_cons (ps_while PassesOwn.never (pt_cmpR op_gt (pe_callB (cr_sum rfl) (by rfl) Z.zsum (by decide +kernel) (pa_cons (pv 5) pa_nil)) pe_int (nomark _)) (pss_one (ps_asg (pe_op op_sub (pe_callB (cr_max rfl) (by rfl) Z.zmax (by decide +kernel) (pa_cons (pv 5) pa_nil)) pe_int) (pg_sub (pv 5) (pe_bm PySem.F.plainAttrs_list PySem.F.slot_list_index PySem.F.type_list_index mt_index (pv 5) (pa_cons (pe_callB (cr_max rfl) (by rfl) Z.zmax (by decide +kernel) (pa_cons (pv 5) pa_nil)) pa_nil)) set_list))))
      (pss_one (ps_ret (pe_tup (pa_cons (pe_callTy c_tuple_of (by rfl) Z.ztuple (by decide +kernel) (pa_cons (pv 4) pa_nil)) (pa_cons (pe_callTy c_tuple_of (by rfl) Z.ztuple (by decide +kernel) (pa_cons (pv 5) pa_nil)) pa_nil)))))))))), ?_⟩
    walk_at "g0"
    walk_at "go"
    rename_i n H1 n0 n1 e1 D1 l H2 nl e2 hl k H3 k0 k1 e3 D3
    have hld : l ≠ d := by
      obtain ⟨_, hd⟩ := D1.lst
      exact Ne.symm (ne_of_none hd nl)
    have hl3 := e3 _ _ hld hl
    have hfar : ∃ far, atI [V.int 3, .int 9, .int 30] k = some (.int far) ∧ 3 ≤ far ∧ far ≤ 30 := by
      have : k = 0 ∨ k = 1 ∨ k = 2 := by omega
      rcases this with rfl | rfl | rfl
      · exact ⟨3, rfl, by decide, by decide⟩
      · exact ⟨9, rfl, by decide, by decide⟩
      · exact ⟨30, rfl, by decide, by decide⟩
    obtain ⟨far, hfar, f1, f2⟩ := hfar
    refine g_ixL (SqL.of hl3) hfar ?_
    have e13 : Exb d H H3 := (e1.trans (Exb.of e2)).trans e3
    walk_at "go"
    rename_i p1 H4 np1 e4 hp1
    have D4 := D3.ex e4
    have e14 : Exb d H H4 := e13.trans (Exb.of e4)
    refine g_kLcR1 ⟨by omega, by omega⟩ (fun A i H' => ∃ ds : List Int, Exb d H H' ∧ DiceAt K H' d ∧ H' A = some (.lst (ds.map V.int)) ∧ ds.length = i ∧ ∀ x ∈ ds, 1 ≤ x ∧ x ≤ 30) (fun A H5 nA e5 hA => ⟨[], e14.trans (Exb.of e5), D4.ex e5, hA, rfl, fun x hx => by cases hx⟩) ?_ ?_
    · rintro A i H5 nA hi ⟨ds, e5, D5, hA, rfl, hds⟩
      walk_at "go"
      rename_i k2 H6 k20 k21 e6 D6
      have hAd : A ≠ d := by
        obtain ⟨_, hd⟩ := D4.lst
        exact Ne.symm (ne_of_none hd nA)
      have hA6 := e6 _ _ hAd hA
      refine g_kLcE hA6 (by rw [List.length_map]; exact lt1000 (by omega)) fun H7 e7 hA7 => ⟨ds ++ [1 + k2], ?_, D6.exb e7 (Ne.symm hAd) hA6, by rw [hA7, map_app], by rw [List.length_append]; rfl, all_app hds ⟨by omega, by omega⟩⟩
      have nA0 : A ≠ d → H A = none := fun _ => by
        cases hz : H A with
        | none => rfl
        | some o => rw [e14 _ _ hAd hz] at nA; cases nA
      exact Exb.ex2 (nA0 hAd) (e5.trans e6) e7
    · rintro A H5 nA ⟨ds, e5, D5, hA, hlen, hds⟩
      have hAd : A ≠ d := by
        obtain ⟨_, hd⟩ := D4.lst
        exact Ne.symm (ne_of_none hd nA)
      have nA0 : H A = none := by
        cases hz : H A with
        | none => rfl
        | some o => rw [e14 _ _ hAd hz] at nA; cases nA
      walk_at "go"
      refine g_kLcR1 ⟨by omega, by omega⟩ (fun B i H' => ∃ hs : List Int, Exb d H5 H' ∧ DiceAt K H' d ∧ H' B = some (.lst (hs.map V.int)) ∧ hs.length = i ∧ ∀ x ∈ hs, 0 ≤ x ∧ x ≤ 12) (fun B H6 nB e6 hB => ⟨[], Exb.of e6, D5.ex e6, hB, rfl, fun x hx => by cases hx⟩) ?_ ?_
      · rintro B i H6 nB hi ⟨hs, e6, D6, hB, rfl, hhs⟩
        walk_at "go"
        rename_i k2 H7 k20 k21 e7 D7
        have hBd : B ≠ d := by
          obtain ⟨_, hd⟩ := D5.lst
          exact Ne.symm (ne_of_none hd nB)
        have hB7 := e7 _ _ hBd hB
        refine g_kLcE hB7 (by rw [List.length_map]; exact lt1000 (by omega)) fun H8 e8 hB8 => ⟨hs ++ [k2], Exb.ex2 nB (e6.trans e7) e8, D7.exb e8 (Ne.symm hBd) hB7, by rw [hB8, map_app], by rw [List.length_append]; rfl, all_app hhs ⟨by omega, by omega⟩⟩
      · rintro B H6 nB ⟨hs, e6, D6, hB, hlenh, hhs⟩
        have hBd : B ≠ d := by
          obtain ⟨_, hd⟩ := D5.lst
          exact Ne.symm (ne_of_none hd nB)
        have hAB : A ≠ B := ne_of_none hA nB
        have nB0 : H B = none := by
          cases hz : H B with
          | none => rfl
          | some o => rw [e5 _ _ hBd hz] at nB; cases nB
        have hA6 := e6 _ _ hAd hA
        have e06 := e5.trans e6
        -- the end, from any starts with sum in 1 to 12
        walk_at "go"
        generalize hR : (tSeq (tWhile _ _) (tRet _) : TS) = R
        have wh : ∀ (H7 : Hp) (hs : List Int) (v : Option V), Exb d H H7 → DiceAt K H7 d → H7 A = some (.lst (ds.map V.int)) → H7 B = some (.lst (hs.map V.int)) → hs.length = ds.length → (∀ x ∈ hs, 0 ≤ x ∧ x ≤ 12) → 1 ≤ hs.sum →
            R { nx := fun x H' => Q V.non H', rt := Q } [some (.ref d), some (.int most), some (.int (2 + n)), some (.int far), some (.ref A), some (.ref B), v] H7 := by
          subst hR
          intro H7 hs v e7 D7 hA7 hB7 hl7 hhs7 hs7
          walk_at "go"
          refine g_while (fun m σ H' => ∃ (hs : List Int), σ = [some (.ref d), some (.int most), some (.int (2 + n)), some (.int far), some (.ref A), some (.ref B), v] ∧ Exb d H H' ∧ DiceAt K H' d ∧ H' A = some (.lst (ds.map V.int)) ∧ H' B = some (.lst (hs.map V.int)) ∧ hs.length = ds.length ∧ (∀ x ∈ hs, 0 ≤ x ∧ x ≤ 12) ∧ 1 ≤ hs.sum ∧ m = hs.sum.toNat) hs.sum.toNat
            ⟨hs, rfl, e7, D7, hA7, hB7, hl7, hhs7, hs7, rfl⟩ ?_
          rintro m σ H8 ⟨hs, rfl, e8, D8, hA8, hB8, hl8, hhs8, hs8, rfl⟩
          walk_at "go"
          refine g_kWh (fun h => ?_) (fun h => ?_)
          · have h := of_decide_eq_true h
            have hne : hs ≠ [] := by
              intro z
              rw [z] at h
              exact absurd h (by decide)
            walk_at "go"
            refine g_kBM_list (SqL.of hB8) ?_
            walk_at "go"
            refine g_indexMx hB8 hne fun j hj => ?_
            have hjl : j < hs.length := (List.getElem?_eq_some_iff.mp hj).1
            have hm := mx_mem hne
            have hmb := hhs8 _ hm
            have hm1 : 1 ≤ mx hs := by
              have := sum_le (lo := 0) (hi := mx hs) (ds := hs) fun x hx => ⟨(hhs8 x hx).1, le_mx hx⟩
              have h2 := this.2
              by_cases hz : mx hs ≤ 0
              · have : mx hs = 0 := by omega
                rw [this] at h2
                omega
              · omega
            refine g_setL hB8 (by rw [List.length_map]; exact ixN_nat' hjl) fun H9 e9 hB9 => ?_
            rw [map_set'] at hB9
            have hsum := sum_set hs j (mx hs - 1) _ hj
            exact ⟨_, by show (hs.set j (mx hs - 1)).sum.toNat < _; omega, hs.set j (mx hs - 1), rfl, Exb.ex2 nB0 e8 e9, D8.exb e9 (Ne.symm hBd) hB8, e9 _ _ hAB hA8, hB9, by rw [List.length_set]; exact hl8, all_set hhs8 j ⟨by omega, by omega⟩, by omega, rfl⟩
          · have h := of_decide_eq_false h
            walk_at "go"
            rename_i a Ha na ea ta b Hb nb eb tb p Hp np ep hp
            have e9 := (ea.trans eb).trans ep
            refine q p a b ds hs Hp ?_ (e8.trans (Exb.of e9)) (D8.ex e9) hp (ta.ex (eb.trans ep)) (tb.ex ep) ⟨by omega, by omega, hl8, hds, hhs8, by omega, by omega⟩ (by omega)
            have hpd : p ≠ d := by
              obtain ⟨_, hd⟩ := D8.lst
              exact Ne.symm (ne_of_none (eb _ _ (ea _ _ hd)) np)
            cases hz : H p with
            | none => rfl
            | some o => rw [eb _ _ (ea _ _ (e8 _ _ hpd hz))] at np; cases np
        refine g_kIfS (fun h => ?_) (fun h => ?_)
        · have h := of_decide_eq_true h
          walk_at "go"
          rename_i k2 H7 k20 k21 e7 D7 k3 H8 k30 k31 e8 D8
          have hA8 := e8 _ _ hAd (e7 _ _ hAd hA6)
          have hB8 := e8 _ _ hBd (e7 _ _ hBd hB)
          refine g_setL hB8 (by rw [List.length_map]; exact ixN_int ⟨by omega, by omega⟩) fun H9 e9 hB9 => ?_
          rw [map_set'] at hB9
          have hjl : k3.toNat < hs.length := by omega
          have hsum := sum_set hs k3.toNat (1 + k2) _ (List.getElem?_eq_getElem hjl)
          have hbj := hhs _ (List.getElem_mem hjl)
          have hle : hs[k3.toNat] ≤ hs.sum := by
            have := sum_set hs k3.toNat 0 _ (List.getElem?_eq_getElem hjl)
            have h2 := (sum_le (lo := 0) (hi := 12) (ds := hs.set k3.toNat 0) (all_set hhs _ (by decide))).1
            rw [Int.zero_mul] at h2
            omega
          exact wh H9 (hs.set k3.toNat (1 + k2)) _ (Exb.ex2 nB0 ((e06.trans e7).trans e8) e9) (D8.exb e9 (Ne.symm hBd) hB8) (e9 _ _ hAB hA8) hB9 (by rw [List.length_set]; omega) (all_set hhs _ ⟨by omega, by omega⟩) (by omega)
        · have h := of_decide_eq_false h
          walk_at "go"
          have h2 := (sum_le (lo := 0) (hi := 12) (ds := hs) hhs).1
          rw [Int.zero_mul] at h2
          exact wh H6 hs _ e06 D6 hA6 hB (by omega) hhs (by omega)
end
end G48

/-! data of ints compared; tests whose rest is one -/
namespace G48
open PySem PySem.Spec PyProof.Rows L2 Evl
/-- the law's own body: nothing leaves it -/
abbrev Body0 (P : Program) (w : World) (K : PySem.W.Frag) (mg : Str → Option Value) (base : Heap) (qual : Str) (N : List Str) (st : Stmt) (k : Nat) (sp : Sp) : Prop :=
  ∀ (f : Addr) (cdv : Value) (A : Around) (outer : List Env) (s : Shared) (H : Hp) (vs : List V) (Q : VK) (E : XK), Room k (A.deeper (envOfC qual (defScope st) s.heap.objs.size f cdv)) → sp vs H Q E →
      ∃ t, PSs (cxOf L2.CX0 P w K mg base N qual (defScope st) f cdv A outer s H E).nox (defBody st) t ∧ t { nx := fun _ H' => Q .non H', rt := Q } (start N vs) H
theorem g_kAndN {u : TT} {σ : L2.St} {QB : Bool → Hp → Prop} {c : Bool} {H : Hp} (rest : ∀ H', Ex H H' → QB false H') (h1 : c = true → (∀ H', Ex H H' → QB false H') → u σ H QB) : kAnd u σ QB c H := g_kAnd (fun h => h1 h rest) fun _ => rest H (Ex.refl _)
theorem eqvAll_ints : ∀ xs ys : List Int, PyData.eqvAll (xs.map PyData.int) (ys.map PyData.int) = decide (xs = ys)
  | [], [] => by simp [PyData.eqvAll]
  | [], _ :: _ => by simp [PyData.eqvAll]
  | _ :: _, [] => by simp [PyData.eqvAll]
  | x :: xs, y :: ys => by
    rw [Bool.eq_iff_iff]
    simp [PyData.eqvAll, PyData.eqv, eqvAll_ints xs ys]
theorem sh_lst (ns : List Int) : SeqAt.shaped (.list (ns.map PyData.int)) = true := PySem.W.shaped_ints ns
theorem sh_tup (ns : List Int) : SeqAt.shaped (.tuple (ns.map PyData.int)) = true := by
  have h1 := PySem.W.depthAll_ints ns
  have h2 : PyData.depth (.tuple (ns.map PyData.int)) ≤ 64 := by simp only [PyData.depth]; omega
  show (PyData.canLay0 (.tuple (ns.map PyData.int)) && decide (PyData.depth (.tuple (ns.map PyData.int)) ≤ 64)) = true
  rw [Bool.and_eq_true]
  exact ⟨by simp only [PyData.canLay0]; exact PySem.W.canLayAll0_ints ns, decide_eq_true h2⟩
section
variable {K : PySem.W.Frag} {H : Hp} {Q : VK} {a b : Addr} {xs ys : List Int}
theorem dpAll_ints : ∀ xs : List Int, DpAll K H (xs.map V.int) (xs.map PyData.int)
  | [] => .nil
  | x :: xs => .cons (.int x) (dpAll_ints xs)
theorem dp_lst (h : SqL K H a (xs.map V.int)) : Dp K H (.ref a) (.list (xs.map PyData.int)) := .lst h (dpAll_ints xs)
theorem dp_tup (h : SqT K H a (xs.map V.int)) : Dp K H (.ref a) (.tuple (xs.map PyData.int)) := .tup h (dpAll_ints xs)
theorem eqv_lst : PyData.eqv (.list (xs.map PyData.int)) (.list (ys.map PyData.int)) = decide (xs = ys) := by simp only [PyData.eqv]; exact eqvAll_ints xs ys
theorem eqv_tup : PyData.eqv (.tuple (xs.map PyData.int)) (.tuple (ys.map PyData.int)) = decide (xs = ys) := by simp only [PyData.eqv]; exact eqvAll_ints xs ys
theorem g_eqLI (h1 : SqL K H a (xs.map V.int)) (h2 : SqL K H b (ys.map V.int)) (q : Q (.bl (decide (xs = ys))) H) : rEqD K (.ref a) (.ref b) H Q := g_eqD (dp_lst h1) (dp_lst h2) (sh_lst _) (sh_lst _) (by rw [eqv_lst]; exact q)
theorem g_neLI (h1 : SqL K H a (xs.map V.int)) (h2 : SqL K H b (ys.map V.int)) (q : Q (.bl (!decide (xs = ys))) H) : rNeD K (.ref a) (.ref b) H Q := g_neD (dp_lst h1) (dp_lst h2) (sh_lst _) (sh_lst _) (by rw [eqv_lst]; exact q)
theorem g_eqTI (h1 : SqT K H a (xs.map V.int)) (h2 : SqT K H b (ys.map V.int)) (q : Q (.bl (decide (xs = ys))) H) : rEqD K (.ref a) (.ref b) H Q := g_eqD (dp_tup h1) (dp_tup h2) (sh_tup _) (sh_tup _) (by rw [eqv_tup]; exact q)
theorem g_neTI (h1 : SqT K H a (xs.map V.int)) (h2 : SqT K H b (ys.map V.int)) (q : Q (.bl (!decide (xs = ys))) H) : rNeD K (.ref a) (.ref b) H Q := g_neD (dp_tup h1) (dp_tup h2) (sh_tup _) (sh_tup _) (by rw [eqv_tup]; exact q)
end
end G48

/-! the course as numbers -/
namespace G48
open PySem PySem.Spec PyProof.Rows L2 Evl
def prv (N r : Nat) : Nat := if r = 0 then N - 1 else r - 1
def posn (N b r : Nat) : Nat := if b ≤ r then r - b else r + N - b
theorem prv_lt {N r : Nat} (h : r < N) : prv N r < N := by unfold prv; split <;> omega
theorem posn_prv {N b r : Nat} (hr : r < N) (hb : b < N) (ne : r ≠ b) : posn N b (prv N r) < posn N b r := by
  unfold posn prv
  split <;> split <;> split <;> omega
/-- the end of reading number n of reader r -/
def X (d : Nat → Int) (h : Nat → Nat) (N b : Nat) (n r : Nat) : Int :=
  d r + max (if _h1 : 0 < n then X d h N b (n - 1) r else 0) (if _h2 : h r ≤ n ∧ (0 < h r ∨ posn N b (prv N r) < posn N b r) then X d h N b (n - h r) (prv N r) else 0)
termination_by (n, posn N b r)
decreasing_by
  · exact Prod.Lex.left _ _ (by omega)
  · by_cases z : 0 < h r
    · exact Prod.Lex.left _ _ (by omega)
    · have e : n - h r = n := by omega
      rw [e]
      exact Prod.Lex.right _ (by omega)
/-- a ring's numbers -/
structure Rg (d : Nat → Int) (h : Nat → Nat) (N b B : Nat) (S D : Int) : Prop where
  n2 : 2 ≤ N
  lb : b < N
  hb : 0 < h b
  hB : ∀ r, r < N → h r ≤ B
  d1 : ∀ r, r < N → 1 ≤ d r
  dD : ∀ r, r < N → d r ≤ D
  full : ∃ m, m < N ∧ d m = D
section
variable {d : Nat → Int} {h : Nat → Nat} {N b B : Nat} {S D : Int}
theorem X_rec (R : Rg d h N b B S D) {n r : Nat} (hr : r < N) : X d h N b n r = d r + max (if 0 < n then X d h N b (n - 1) r else 0) (if h r ≤ n then X d h N b (n - h r) (prv N r) else 0) := by
  rw [X]
  have e1 : (if _h1 : 0 < n then X d h N b (n - 1) r else 0) = if 0 < n then X d h N b (n - 1) r else 0 := by split <;> rfl
  have e2 : (if _h2 : h r ≤ n ∧ (0 < h r ∨ posn N b (prv N r) < posn N b r) then X d h N b (n - h r) (prv N r) else 0) = if h r ≤ n then X d h N b (n - h r) (prv N r) else 0 := by
    by_cases z : h r ≤ n
    · rw [if_pos z, dif_pos]
      refine ⟨z, ?_⟩
      by_cases y : 0 < h r
      · exact .inl y
      · refine .inr (posn_prv hr R.lb ?_)
        intro e
        rw [e] at y
        exact y R.hb
    · rw [if_neg z, dif_neg (fun q => z q.1)]
  rw [e1, e2]
theorem X_same (R : Rg d h N b B S D) {n r : Nat} (hr : r < N) (hn : 0 < n) : d r + X d h N b (n - 1) r ≤ X d h N b n r := by
  rw [X_rec R hr (n := n), if_pos hn]
  omega
theorem X_hop (R : Rg d h N b B S D) {n r : Nat} (hr : r < N) (hn : h r ≤ n) : d r + X d h N b (n - h r) (prv N r) ≤ X d h N b n r := by
  rw [X_rec R hr (n := n), if_pos hn]
  omega
theorem X_self (R : Rg d h N b B S D) {n r : Nat} (hr : r < N) : d r ≤ X d h N b n r ∧ 1 ≤ X d h N b n r := by
  have h1 : d r ≤ X d h N b n r := by
    induction n with
    | zero =>
      rw [X_rec R hr, if_neg (by omega)]
      omega
    | succ n ih =>
      have := X_same R hr (n := n + 1) (by omega)
      have := R.d1 r hr
      rw [Nat.add_sub_cancel] at *
      omega
  exact ⟨h1, by have := R.d1 r hr; omega⟩
/-- readers back from r, sums along them -/
def bkw (N : Nat) : Nat → Nat → Nat
  | r, 0 => r
  | r, k + 1 => bkw N (prv N r) k
def Sg (f : Nat → Int) (N : Nat) : Nat → Nat → Int
  | _, 0 => 0
  | r, k + 1 => f r + Sg f N (prv N r) k
def Mx (d : Nat → Int) (N : Nat) : Nat → Nat → Int
  | r, 0 => d r
  | r, k + 1 => max (d r) (Mx d N (prv N r) k)
theorem pv_lt : ∀ {k r : Nat}, r < N → bkw N r k < N
  | 0, _, h => h
  | k + 1, _, h => pv_lt (k := k) (prv_lt h)
theorem pv_add : ∀ (a c r : Nat), bkw N r (a + c) = bkw N (bkw N r a) c
  | 0, c, r => by rw [Nat.zero_add]; rfl
  | a + 1, c, r => by
    rw [show a + 1 + c = (a + c) + 1 by omega]
    exact pv_add a c (prv N r)
theorem Sg_add (f : Nat → Int) : ∀ (a c r : Nat), Sg f N r (a + c) = Sg f N r a + Sg f N (bkw N r a) c
  | 0, c, r => by
    rw [Nat.zero_add]
    show _ = 0 + Sg f N r c
    omega
  | a + 1, c, r => by
    rw [show a + 1 + c = (a + c) + 1 by omega]
    show f r + Sg f N (prv N r) (a + c) = f r + Sg f N (prv N r) a + Sg f N (bkw N (prv N r) a) c
    rw [Sg_add f a c]
    omega
theorem pv_sub : ∀ {k r : Nat}, k ≤ r → bkw N r k = r - k
  | 0, _, _ => rfl
  | k + 1, r, h => by
    show bkw N (prv N r) k = r - (k + 1)
    have e : prv N r = r - 1 := if_neg (by omega)
    rw [e, pv_sub (by omega)]
    omega
theorem pv_up {r m : Nat} (hm : m < N) : bkw N r (r + 1 + (N - 1 - m)) = m := by
  rw [pv_add, pv_add, pv_sub (Nat.le_refl r), Nat.sub_self]
  show bkw N (prv N 0) (N - 1 - m) = m
  have e : prv N 0 = N - 1 := if_pos rfl
  rw [e, pv_sub (by omega)]
  omega
theorem pv_N {r : Nat} (hr : r < N) : bkw N r N = r := by
  have := pv_up (r := r) hr
  rw [show r + 1 + (N - 1 - r) = N by omega] at this
  exact this
theorem Sg_N (f : Nat → Int) : ∀ {r : Nat}, r < N → Sg f N r N = Sg f N (N - 1) N := by
  have step : ∀ r, r + 1 < N → Sg f N r N = Sg f N (r + 1) N := fun r hr => by
    have e1 : Sg f N (r + 1) (N + 1) = f (r + 1) + Sg f N r N := by
      show f (r + 1) + Sg f N (prv N (r + 1)) N = _
      have e : prv N (r + 1) = r := (if_neg (by omega)).trans (by omega)
      rw [e]
    have e2 : Sg f N (r + 1) (N + 1) = Sg f N (r + 1) N + f (r + 1) := by
      rw [Sg_add, pv_N hr]
      show _ + (f (r + 1) + 0) = _
      omega
    omega
  have all : ∀ k r, r + k + 1 = N → Sg f N r N = Sg f N (N - 1) N := by
    intro k
    induction k with
    | zero =>
      intro r hr
      rw [show r = N - 1 by omega]
    | succ k ih =>
      intro r hr
      rw [step r (by omega)]
      exact ih (r + 1) (by omega)
  intro r hr
  exact all (N - 1 - r) r (by omega)
theorem Sg_list (xs : List Int) : ∀ r, r < xs.length → Sg (fun i => xs.getD i 0) N r (r + 1) = (xs.take (r + 1)).sum
  | 0, h => by
    cases xs with
    | nil => cases h
    | cons x t =>
      show x + 0 = (x :: []).sum
      simp
  | r + 1, h => by
    show xs.getD (r + 1) 0 + Sg (fun i => xs.getD i 0) N (prv N (r + 1)) (r + 1) = _
    have e : prv N (r + 1) = r := (if_neg (by omega)).trans (by omega)
    rw [e, Sg_list xs r (by omega), List.take_add_one (i := r + 1), List.getElem?_eq_getElem h, List.sum_append]
    have e2 : xs.getD (r + 1) 0 = xs[r + 1] := by simp [List.getD, List.getElem?_eq_getElem h]
    rw [e2]
    simp
    omega
theorem Sg_tot {xs : List Int} (hN : xs.length = N) {r : Nat} (hr : r < N) : Sg (fun i => xs.getD i 0) N r N = xs.sum := by
  rw [Sg_N _ hr]
  have := Sg_list (N := N) xs (N - 1) (by omega)
  rw [show N - 1 + 1 = N by omega] at this
  rw [this, List.take_of_length_le (by omega)]
theorem Sg_per {f : Nat → Int} {k r : Nat} {T : Int} (hT : ∀ r, r < N → Sg f N r N = T) (hr : r < N) : Sg f N r (k + N) = Sg f N r k + T := by
  rw [Sg_add, hT _ (pv_lt hr)]
theorem Sg_nn {f : Nat → Int} (hf : ∀ r, r < N → 0 ≤ f r) : ∀ {k r : Nat}, r < N → 0 ≤ Sg f N r k
  | 0, _, _ => Int.le_refl _
  | k + 1, r, hr => by
    show 0 ≤ f r + Sg f N (prv N r) k
    have := hf r hr
    have := Sg_nn hf (k := k) (prv_lt hr)
    omega
theorem Sg_mono {f : Nat → Int} (hf : ∀ r, r < N → 0 ≤ f r) {j k r : Nat} (hr : r < N) (hjk : j ≤ k) : Sg f N r j ≤ Sg f N r k := by
  rw [show k = j + (k - j) by omega, Sg_add]
  have := Sg_nn hf (k := k - j) (pv_lt (k := j) hr)
  omega
theorem Mx_le (hD : ∀ r, r < N → d r ≤ D) : ∀ {k r : Nat}, r < N → Mx d N r k ≤ D
  | 0, r, hr => hD r hr
  | k + 1, r, hr => by
    show max (d r) (Mx d N (prv N r) k) ≤ D
    have := hD r hr
    have := Mx_le hD (k := k) (prv_lt hr)
    omega
theorem Mx_self : ∀ {k r : Nat}, d r ≤ Mx d N r k
  | 0, _ => Int.le_refl _
  | k + 1, r => by
    show d r ≤ max (d r) (Mx d N (prv N r) k)
    omega
theorem Mx_ge : ∀ {k j r : Nat}, j ≤ k → d (bkw N r j) ≤ Mx d N r k
  | k, 0, r, _ => Mx_self
  | k + 1, j + 1, r, h => by
    show d (bkw N (prv N r) j) ≤ max (d r) (Mx d N (prv N r) k)
    have := Mx_ge (k := k) (j := j) (r := prv N r) (by omega)
    omega
theorem Mx_step : ∀ {k r : Nat}, Mx d N r k ≤ Mx d N r (k + 1)
  | 0, r => by
    show d r ≤ max (d r) _
    omega
  | k + 1, r => by
    show max (d r) (Mx d N (prv N r) k) ≤ max (d r) (Mx d N (prv N r) (k + 1))
    have := Mx_step (k := k) (r := prv N r)
    omega
theorem Mx_mono {j k r : Nat} (h : j ≤ k) : Mx d N r j ≤ Mx d N r k := by
  induction k with
  | zero => rw [show j = 0 by omega]; exact Int.le_refl _
  | succ k ih =>
    by_cases e : j = k + 1
    · rw [e]; exact Int.le_refl _
    · exact Int.le_trans (ih (by omega)) Mx_step
theorem Mx_full (R : Rg d h N b B S D) {k r : Nat} (hr : r < N) (hk : N - 1 ≤ k) : Mx d N r k = D := by
  obtain ⟨m, hm, e⟩ := R.full
  have h1 := Mx_le R.dD (k := k) hr
  have h2 : d m ≤ Mx d N r k := by
    by_cases z : m ≤ r
    · have := Mx_ge (d := d) (N := N) (k := k) (j := r - m) (r := r) (by omega)
      rw [pv_sub (by omega), show r - (r - m) = m by omega] at this
      exact this
    · have := Mx_ge (d := d) (N := N) (k := k) (j := r + 1 + (N - 1 - m)) (r := r) (by omega)
      rw [pv_up hm] at this
      exact this
  omega
def Hs (h : Nat → Nat) (N r k : Nat) : Int := Sg (fun i => (h i : Int)) N r k
def Wv (d : Nat → Int) (h : Nat → Nat) (N r k : Nat) (n : Int) : Int := Sg d N r (k + 1) + (n - Hs h N r k) * Mx d N r k
theorem mul_succ' (a m : Int) : (a + 1) * m = a * m + m := by rw [Int.add_mul, Int.one_mul]
theorem Hs_nn {r k : Nat} (hr : r < N) : 0 ≤ Hs h N r k := Sg_nn (fun _ _ => Int.natCast_nonneg _) hr
/-- m readings of r at least -/
theorem X_many (R : Rg d h N b B S D) {r : Nat} (hr : r < N) : ∀ (m n : Nat), m ≤ n → (m : Int) * d r + X d h N b (n - m) r ≤ X d h N b n r
  | 0, n, _ => by
    have e : ((0 : Nat) : Int) * d r = 0 := Int.zero_mul _
    rw [e, Nat.sub_zero]
    omega
  | m + 1, n, hm => by
    have h1 := X_many R hr m n (by omega)
    have h2 := X_same R hr (n := n - m) (by omega)
    have e : ((m + 1 : Nat) : Int) * d r = (m : Int) * d r + d r := by
      rw [Int.natCast_add]
      exact mul_succ' _ _
    rw [e]
    rw [show n - m - 1 = n - (m + 1) by omega] at h2
    omega
theorem X_lower (R : Rg d h N b B S D) : ∀ (k r n : Nat), r < N → Hs h N r k ≤ n → Wv d h N r k n ≤ X d h N b n r
  | 0, r, n, hr, _ => by
    have h1 := X_many R hr n n (Nat.le_refl _)
    have h2 := (X_self R hr (n := n - n)).1
    have e : Wv d h N r 0 n = d r + 0 + ((n : Int) - 0) * d r := rfl
    rw [e, Int.sub_zero]
    omega
  | k + 1, r, n, hr, hk => by
    have e1 : Hs h N r (k + 1) = (h r : Int) + Hs h N (prv N r) k := rfl
    have hp := prv_lt hr
    have hn := Hs_nn (h := h) (k := k) hp
    have e2 : Wv d h N r (k + 1) n = d r + Sg d N (prv N r) (k + 1) + ((n : Int) - Hs h N r (k + 1)) * max (d r) (Mx d N (prv N r) k) := rfl
    rw [e1] at hk e2
    rw [e2]
    by_cases z : d r ≤ Mx d N (prv N r) k
    · rw [Int.max_eq_right z]
      have h1 := X_hop R hr (n := n) (by omega)
      have h2 := X_lower R k (prv N r) (n - h r) hp (by omega)
      have e3 : Wv d h N (prv N r) k ((n - h r : Nat) : Int) = Sg d N (prv N r) (k + 1) + ((n : Int) - ((h r : Int) + Hs h N (prv N r) k)) * Mx d N (prv N r) k := by
        unfold Wv
        congr 2
        omega
      rw [e3] at h2
      omega
    · rw [Int.max_eq_left (by omega)]
      -- all spare readings at r
      have hm : ∃ m : Nat, (m : Int) = (n : Int) - ((h r : Int) + Hs h N (prv N r) k) := ⟨((n : Int) - ((h r : Int) + Hs h N (prv N r) k)).toNat, by omega⟩
      obtain ⟨m, hm⟩ := hm
      have h1 := X_many R hr m n (by omega)
      have h2 := X_hop R hr (n := n - m) (by omega)
      have h3 := X_lower R k (prv N r) (n - m - h r) hp (by omega)
      have e3 : Wv d h N (prv N r) k ((n - m - h r : Nat) : Int) = Sg d N (prv N r) (k + 1) := by
        unfold Wv
        have e : ((n - m - h r : Nat) : Int) - Hs h N (prv N r) k = 0 := by omega
        rw [e, Int.zero_mul]
        omega
      rw [e3] at h3
      rw [← hm]
      omega
theorem X_upper (R : Rg d h N b B S D) : ∀ (n r : Nat), r < N → ∃ k, Hs h N r k ≤ n ∧ X d h N b n r ≤ Wv d h N r k n := by
  have main : ∀ (n p r : Nat), posn N b r = p → r < N → ∃ k, Hs h N r k ≤ n ∧ X d h N b n r ≤ Wv d h N r k n := by
    intro n
    induction n using Nat.strongRecOn with
    | _ n ihn =>
      intro p
      induction p using Nat.strongRecOn with
      | _ p ihp =>
        intro r hp hr
        have hrec := X_rec R hr (n := n)
        -- alone
        have w0 : Hs h N r 0 = 0 := rfl
        have alone : X d h N b n r ≤ d r → ∃ k, Hs h N r k ≤ n ∧ X d h N b n r ≤ Wv d h N r k n := fun hle => by
          refine ⟨0, by rw [w0]; omega, ?_⟩
          have e : Wv d h N r 0 n = d r + 0 + ((n : Int) - 0) * d r := rfl
          rw [e, Int.sub_zero]
          have : 0 ≤ (n : Int) * d r := Int.mul_nonneg (by omega) (by have := R.d1 r hr; omega)
          omega
        have same : 0 < n → X d h N b n r ≤ d r + X d h N b (n - 1) r → ∃ k, Hs h N r k ≤ n ∧ X d h N b n r ≤ Wv d h N r k n := fun hn hle => by
          obtain ⟨k, h1, h2⟩ := ihn (n - 1) (by omega) _ r rfl hr
          refine ⟨k, by omega, ?_⟩
          have hs := Mx_self (d := d) (N := N) (k := k) (r := r)
          have e : Wv d h N r k n = Wv d h N r k ((n - 1 : Nat) : Int) + Mx d N r k := by
            unfold Wv
            have e1 : (n : Int) - Hs h N r k = (((n - 1 : Nat) : Int) - Hs h N r k) + 1 := by omega
            rw [e1, mul_succ']
            omega
          omega
        have hop : h r ≤ n → X d h N b n r ≤ d r + X d h N b (n - h r) (prv N r) → ∃ k, Hs h N r k ≤ n ∧ X d h N b n r ≤ Wv d h N r k n := fun hn hle => by
          have hq : ∃ k, Hs h N (prv N r) k ≤ ((n - h r : Nat) : Int) ∧ X d h N b (n - h r) (prv N r) ≤ Wv d h N (prv N r) k ((n - h r : Nat) : Int) := by
            by_cases z : 0 < h r
            · exact ihn (n - h r) (by have := R.hB r hr; omega) _ (prv N r) rfl (prv_lt hr)
            · have e : n - h r = n := by omega
              rw [e]
              refine ihp _ ?_ (prv N r) rfl (prv_lt hr)
              rw [← hp]
              refine posn_prv hr R.lb fun e2 => ?_
              rw [e2] at z
              exact z R.hb
          obtain ⟨k, h1, h2⟩ := hq
          have e1 : Hs h N r (k + 1) = (h r : Int) + Hs h N (prv N r) k := rfl
          refine ⟨k + 1, by rw [e1]; omega, ?_⟩
          have e2 : Wv d h N r (k + 1) n = d r + Sg d N (prv N r) (k + 1) + ((n : Int) - Hs h N r (k + 1)) * max (d r) (Mx d N (prv N r) k) := rfl
          rw [e2, e1]
          have e3 : Wv d h N (prv N r) k ((n - h r : Nat) : Int) = Sg d N (prv N r) (k + 1) + ((n : Int) - ((h r : Int) + Hs h N (prv N r) k)) * Mx d N (prv N r) k := by
            unfold Wv
            congr 2
            omega
          rw [e3] at h2
          have h3 : ((n : Int) - ((h r : Int) + Hs h N (prv N r) k)) * Mx d N (prv N r) k ≤ ((n : Int) - ((h r : Int) + Hs h N (prv N r) k)) * max (d r) (Mx d N (prv N r) k) :=
            Int.mul_le_mul_of_nonneg_left (by omega) (by omega)
          omega
        by_cases hn : 0 < n
        · rw [if_pos hn] at hrec
          by_cases hh : h r ≤ n
          · rw [if_pos hh] at hrec
            by_cases z : X d h N b (n - h r) (prv N r) ≤ X d h N b (n - 1) r
            · exact same hn (by clear alone same hop; omega)
            · exact hop hh (by clear alone same hop; omega)
          · rw [if_neg hh] at hrec
            have := (X_self R hr (n := n - 1)).2
            exact same hn (by clear alone same hop; omega)
        · rw [if_neg hn] at hrec
          by_cases hh : h r ≤ n
          · rw [if_pos hh] at hrec
            have := (X_self R (prv_lt hr) (n := n - h r)).2
            exact hop hh (by clear alone same hop; omega)
          · rw [if_neg hh] at hrec
            exact alone (by clear alone same hop; omega)
  exact fun n r hr => main n _ r rfl hr
end
end G48

/-! the course settles -/
namespace G48
open PySem PySem.Spec PyProof.Rows L2 Evl
/-- the sums of a ring's numbers -/
structure RgS (d : Nat → Int) (h : Nat → Nat) (N b B : Nat) (S D : Int) : Prop extends Rg d h N b B S D where
  tS : ∀ r, r < N → Sg d N r N = S
  tB : ∀ r, r < N → Hs h N r N = B
  B1 : 1 ≤ B
section
variable {d : Nat → Int} {h : Nat → Nat} {N b B : Nat} {S D : Int}
def Sh (d : Nat → Int) (h : Nat → Nat) (N b : Nat) (e : Nat) (s : Int) (n : Nat) : Prop := ∀ r, r < N → X d h N b (n + e) r = X d h N b n r + s
theorem RgS.dnn (R : RgS d h N b B S D) : ∀ r, r < N → 0 ≤ d r := fun r hr => by have := R.d1 r hr; omega
theorem RgS.D1 (R : RgS d h N b B S D) : 1 ≤ D := by
  obtain ⟨m, hm, e⟩ := R.full
  have := R.d1 m hm
  omega
theorem Hs_per (R : RgS d h N b B S D) {k r : Nat} (hr : r < N) : Hs h N r (k + N) = Hs h N r k + B := Sg_per R.tB hr
theorem Sd_per (R : RgS d h N b B S D) {k r : Nat} (hr : r < N) : Sg d N r (k + N) = Sg d N r k + S := Sg_per R.tS hr
theorem Hs_mono {j k r : Nat} (hr : r < N) (h1 : j ≤ k) : Hs h N r j ≤ Hs h N r k := Sg_mono (fun _ _ => Int.natCast_nonneg _) hr h1
/-- a walk that takes more than two rounds of books goes two rounds about -/
theorem two_rounds (R : RgS d h N b B S D) {k r : Nat} (hr : r < N) (hk : 2 * (B : Int) < Hs h N r k) : ∃ k', k = k' + N ∧ N ≤ k' := by
  by_cases z : 2 * N ≤ k
  · exact ⟨k - N, by omega, by omega⟩
  · have h1 := Hs_mono (h := h) hr (show k ≤ 0 + N + N by omega)
    rw [Hs_per R hr, Hs_per R hr] at h1
    have e : Hs h N r 0 = 0 := rfl
    omega
theorem mul_bd {a : Int} (m D : Int) (ha : 0 ≤ a) (h : m ≤ D - 1) : a * m ≤ a * D - a := by
  have h1 : a * m ≤ a * (D - 1) := Int.mul_le_mul_of_nonneg_left h ha
  rw [Int.mul_sub, Int.mul_one] at h1
  exact h1
theorem slow_shift (R : RgS d h N b B S D) (hS : S ≤ D * B) {n : Nat} (h2 : 2 * B ≤ n) (h3 : D * B ≤ n) : Sh d h N b 1 D n := by
  intro r hr
  have D1 := R.D1
  have B1 := R.B1
  have ln := fun k => X_lower R.toRg k r n hr
  have ln1 := fun k => X_lower R.toRg k r (n + 1) hr
  have up : X d h N b (n + 1) r ≤ X d h N b n r + D := by
    obtain ⟨k, hk, hx⟩ := X_upper R.toRg (n + 1) r hr
    by_cases z : Hs h N r k ≤ n
    · have h4 := ln k z
      have h5 := Mx_le R.dD (k := k) hr
      have e : Wv d h N r k ((n + 1 : Nat) : Int) = Wv d h N r k n + Mx d N r k := by
        unfold Wv
        have e1 : ((n + 1 : Nat) : Int) - Hs h N r k = ((n : Int) - Hs h N r k) + 1 := by omega
        rw [e1, mul_succ']
        omega
      rw [e] at hx
      omega
    · have hH : Hs h N r k = (n : Int) + 1 := by omega
      obtain ⟨k', rfl, hk'⟩ := two_rounds R hr (k := k) (by omega)
      have e1 := Hs_per R (k := k') hr
      have e2 : Sg d N r (k' + N + 1) = Sg d N r (k' + 1) + S := by
        rw [show k' + N + 1 = k' + 1 + N by omega]
        exact Sd_per R hr
      have hf := Mx_full R.toRg (k := k') hr (by omega)
      have h4 := ln k' (by omega)
      have e3 : Wv d h N r (k' + N) ((n + 1 : Nat) : Int) = Sg d N r (k' + 1) + S := by
        unfold Wv
        have e : ((n + 1 : Nat) : Int) - Hs h N r (k' + N) = 0 := by omega
        rw [e, Int.zero_mul, e2]
        omega
      have e4 : Wv d h N r k' n = Sg d N r (k' + 1) + (D * B - D) := by
        unfold Wv
        have e : (n : Int) - Hs h N r k' = (B : Int) - 1 := by omega
        rw [e, hf, Int.sub_mul, Int.one_mul, Int.mul_comm]
      rw [e3] at hx
      rw [e4] at h4
      omega
  have lo : X d h N b n r + D ≤ X d h N b (n + 1) r := by
    obtain ⟨k, hk, hx⟩ := X_upper R.toRg n r hr
    by_cases z : Mx d N r k = D
    · have h4 := ln1 k (by omega)
      have e : Wv d h N r k ((n + 1 : Nat) : Int) = Wv d h N r k n + Mx d N r k := by
        unfold Wv
        have e1 : ((n + 1 : Nat) : Int) - Hs h N r k = ((n : Int) - Hs h N r k) + 1 := by omega
        rw [e1, mul_succ']
        omega
      omega
    · have h5 := Mx_le R.dD (k := k) hr
      have hkN : k < N - 1 := by
        by_cases y : N - 1 ≤ k
        · exact absurd (Mx_full R.toRg hr y) z
        · omega
      have s1 := Sg_mono R.dnn (j := k + 1) (k := N) hr (by omega)
      rw [R.tS r hr] at s1
      have hH := Hs_nn (h := h) (k := k) hr
      have b1 : ((n : Int) - Hs h N r k) * Mx d N r k ≤ (n : Int) * D - n := by
        have q1 := mul_bd (a := (n : Int) - Hs h N r k) (Mx d N r k) D (by omega) (by omega)
        have q2 : ((n : Int) - Hs h N r k) * D ≤ (n : Int) * D - Hs h N r k := by
          rw [Int.sub_mul]
          have : Hs h N r k * 1 ≤ Hs h N r k * D := Int.mul_le_mul_of_nonneg_left D1 hH
          omega
        have q3 : ((n : Int) - Hs h N r k) * Mx d N r k ≤ ((n : Int) - Hs h N r k) * (D - 1) := Int.mul_le_mul_of_nonneg_left (by omega) (by omega)
        have q4 : ((n : Int) - Hs h N r k) * (D - 1) ≤ (n : Int) * (D - 1) := Int.mul_le_mul_of_nonneg_right (by omega) (by omega)
        rw [Int.mul_sub (n : Int), Int.mul_one] at q4
        omega
      have hHN := Hs_mono (h := h) hr (show N - 1 ≤ N by omega)
      rw [R.tB r hr] at hHN
      have h4 := ln1 (N - 1) (by omega)
      have hf := Mx_full R.toRg (k := N - 1) hr (Nat.le_refl _)
      have e3 : Wv d h N r (N - 1) ((n + 1 : Nat) : Int) = S + (((n + 1 : Nat) : Int) - Hs h N r (N - 1)) * D := by
        unfold Wv
        rw [hf, show N - 1 + 1 = N by have := R.n2; omega, R.tS r hr]
      have b2 : (((n + 1 : Nat) : Int) - B) * D ≤ (((n + 1 : Nat) : Int) - Hs h N r (N - 1)) * D := Int.mul_le_mul_of_nonneg_right (by omega) (by omega)
      have e5 : (((n + 1 : Nat) : Int) - B) * D = (n : Int) * D + D - D * B := by
        rw [Int.sub_mul, Int.natCast_add, Int.add_mul, Int.mul_comm (B : Int)]
        omega
      have e6 : Wv d h N r k n = Sg d N r (k + 1) + ((n : Int) - Hs h N r k) * Mx d N r k := rfl
      rw [e3] at h4
      rw [e6] at hx
      omega
  omega
theorem quick_shift (R : RgS d h N b B S D) (hS : D * B < S) {n : Nat} (h2 : 2 * B ≤ n) : Sh d h N b B S n := by
  intro r hr
  have D1 := R.D1
  have B1 := R.B1
  have ln := fun k => X_lower R.toRg k r n hr
  have lnB := fun k => X_lower R.toRg k r (n + B) hr
  have lo : X d h N b n r + S ≤ X d h N b (n + B) r := by
    obtain ⟨k, hk, hx⟩ := X_upper R.toRg n r hr
    have e1 := Hs_per R (k := k) hr
    have e2 : Sg d N r (k + N + 1) = Sg d N r (k + 1) + S := by
      rw [show k + N + 1 = k + 1 + N by omega]
      exact Sd_per R hr
    have h4 := lnB (k + N) (by omega)
    have hm := Mx_mono (d := d) (N := N) (r := r) (show k ≤ k + N by omega)
    have e3 : Wv d h N r (k + N) ((n + B : Nat) : Int) = Sg d N r (k + 1) + S + ((n : Int) - Hs h N r k) * Mx d N r (k + N) := by
      unfold Wv
      have e : ((n + B : Nat) : Int) - Hs h N r (k + N) = (n : Int) - Hs h N r k := by omega
      rw [e, e2]
    have q : ((n : Int) - Hs h N r k) * Mx d N r k ≤ ((n : Int) - Hs h N r k) * Mx d N r (k + N) := Int.mul_le_mul_of_nonneg_left hm (by omega)
    have e6 : Wv d h N r k n = Sg d N r (k + 1) + ((n : Int) - Hs h N r k) * Mx d N r k := rfl
    rw [e3] at h4
    rw [e6] at hx
    omega
  have up : X d h N b (n + B) r ≤ X d h N b n r + S := by
    obtain ⟨k, hk, hx⟩ := X_upper R.toRg (n + B) r hr
    have e6 : Wv d h N r k ((n + B : Nat) : Int) = Sg d N r (k + 1) + (((n + B : Nat) : Int) - Hs h N r k) * Mx d N r k := rfl
    by_cases z : Hs h N r k ≤ n
    · exfalso
      have e1 := Hs_per R (k := k) hr
      have e2 : Sg d N r (k + N + 1) = Sg d N r (k + 1) + S := by
        rw [show k + N + 1 = k + 1 + N by omega]
        exact Sd_per R hr
      have h4 := lnB (k + N) (by omega)
      have hm := Mx_mono (d := d) (N := N) (r := r) (show k ≤ k + N by omega)
      have e3 : Wv d h N r (k + N) ((n + B : Nat) : Int) = Sg d N r (k + 1) + S + ((n : Int) - Hs h N r k) * Mx d N r (k + N) := by
        unfold Wv
        have e : ((n + B : Nat) : Int) - Hs h N r (k + N) = (n : Int) - Hs h N r k := by omega
        rw [e, e2]
      have q : ((n : Int) - Hs h N r k) * Mx d N r k ≤ ((n : Int) - Hs h N r k) * Mx d N r (k + N) := Int.mul_le_mul_of_nonneg_left hm (by omega)
      have e4 : (((n + B : Nat) : Int) - Hs h N r k) * Mx d N r k = ((n : Int) - Hs h N r k) * Mx d N r k + (B : Int) * Mx d N r k := by
        rw [← Int.add_mul]
        congr 1
        omega
      have q2 : (B : Int) * Mx d N r k ≤ D * B := by
        rw [Int.mul_comm]
        exact Int.mul_le_mul_of_nonneg_right (Mx_le R.dD hr) (by omega)
      rw [e3] at h4
      rw [e6, e4] at hx
      omega
    · obtain ⟨k', rfl, hk'⟩ := two_rounds R hr (k := k) (by omega)
      have e1 := Hs_per R (k := k') hr
      have e2 : Sg d N r (k' + N + 1) = Sg d N r (k' + 1) + S := by
        rw [show k' + N + 1 = k' + 1 + N by omega]
        exact Sd_per R hr
      have hf := Mx_full R.toRg (k := k') hr (by omega)
      have hf2 := Mx_full R.toRg (k := k' + N) hr (by omega)
      have h4 := ln k' (by omega)
      have e3 : Wv d h N r k' n = Sg d N r (k' + 1) + ((n : Int) - Hs h N r k') * D := by
        unfold Wv
        rw [hf]
      rw [e6, hf2, e2] at hx
      have e5 : (((n + B : Nat) : Int) - Hs h N r (k' + N)) = (n : Int) - Hs h N r k' := by omega
      rw [e5] at hx
      rw [e3] at h4
      omega
  omega
/-- B readings in a row shifted: all later are -/
theorem Sh_next (R : RgS d h N b B S D) {e : Nat} {s : Int} {n : Nat} (hn : B ≤ n) (hp : ∀ m, n ≤ m + B → m < n → Sh d h N b e s m) : Sh d h N b e s n := by
  have B1 := R.B1
  have main : ∀ p r, posn N b r = p → r < N → X d h N b (n + e) r = X d h N b n r + s := by
    intro p
    induction p using Nat.strongRecOn with
    | _ p ihp =>
      intro r hpr hr
      have hB := R.hB r hr
      rw [X_rec R.toRg hr (n := n + e), X_rec R.toRg hr (n := n), if_pos (by omega), if_pos (by omega), if_pos (by omega), if_pos (by omega)]
      have h1 := hp (n - 1) (by omega) (by omega) r hr
      rw [show n - 1 + e = n + e - 1 by omega] at h1
      have h2 : X d h N b (n + e - h r) (prv N r) = X d h N b (n - h r) (prv N r) + s := by
        by_cases z : 0 < h r
        · have := hp (n - h r) (by omega) (by omega) (prv N r) (prv_lt hr)
          rw [show n - h r + e = n + e - h r by omega] at this
          exact this
        · have e0 : n - h r = n := by omega
          have e2 : n + e - h r = n + e := by omega
          rw [e0, e2]
          refine ihp _ ?_ (prv N r) rfl (prv_lt hr)
          rw [← hpr]
          refine posn_prv hr R.lb fun e2 => ?_
          rw [e2] at z
          exact z R.hb
      rw [h1, h2]
      omega
  exact fun r hr => main _ r rfl hr
theorem Sh_all (R : RgS d h N b B S D) {e : Nat} {s : Int} {lo hi : Nat} (hB : lo + B ≤ hi) (hp : ∀ m, lo ≤ m → m < hi → Sh d h N b e s m) : ∀ n, lo ≤ n → Sh d h N b e s n := by
  intro n
  induction n using Nat.strongRecOn with
  | _ n ih =>
    intro hn
    by_cases z : n < hi
    · exact hp n hn z
    · exact Sh_next R (by omega) fun m h1 h2 => ih m h2 (by omega)
/-- rounds of the shift -/
theorem Sh_rounds {e : Nat} {s : Int} {F : Nat} (hF : ∀ n, F ≤ n → Sh d h N b e s n) {r : Nat} (hr : r < N) : ∀ (t n : Nat), F ≤ n → X d h N b (n + t * e) r = X d h N b n r + t * s
  | 0, n, _ => by
    rw [Nat.zero_mul]
    have : ((0 : Nat) : Int) * s = 0 := Int.zero_mul _
    rw [this]
    simp
  | t + 1, n, hn => by
    have h1 := Sh_rounds hF hr t n hn
    have h2 := hF (n + t * e) (by omega) r hr
    rw [Nat.succ_mul, ← Nat.add_assoc, h2, h1, Int.natCast_add, Int.add_mul]
    omega
end
end G48

namespace G48
open PySem PySem.Spec PyProof.Rows L2 Evl
abbrev N_Course_next_row : List Str := ["self", "number", "row", "begin", "turn", "reader", "heap", "ready"]
theorem sc_Course_next_row : FnScope N_Course_next_row ["self"] (defScope s_Course_next_row) := ⟨rfl, rfl, rfl, by decide +kernel, rfl, by decide +kernel, by decide +kernel⟩
theorem b_Course_next_row : BindL "Course.next_row" "next_row" s_Course_next_row ["self"] := fun _ _ _ _ _ _ us hl => match us, hl with | [_], _ => rfl
end G48
/-! Course: next_row, is_shifted, is_settled -/
namespace G48
open PySem PySem.Spec PyProof.Rows L2 Evl
/-! the steps -/
local macro_rules | `(tactic| walk_at "as") => `(tactic| with_reducible assumption)
local macro_rules | `(tactic| walk_at "hp") => `(tactic| first
  | with_reducible assumption
  | ((with_reducible apply SqT.of); walk_at "as")
  | ((with_reducible apply SqL.of); walk_at "as")
  | ((with_reducible apply ex_at); (focus walk_at "as"); walk_at "hp")
  | ((with_reducible apply ex_t); (focus walk_at "as"); walk_at "hp")
  | ((with_reducible apply ex_l); (focus walk_at "as"); walk_at "hp")
  | ((with_reducible apply exb_ins); (focus walk_at "as"); (focus walk_at "hp"); walk_at "hp")
  | ((with_reducible apply exb_t); (focus walk_at "as"); (focus walk_at "hp"); walk_at "hp")
  | ((with_reducible apply exb_at); (focus walk_at "as"); (focus walk_at "ne"); walk_at "hp")
  | ((with_reducible apply exb_l); (focus walk_at "as"); (focus walk_at "ne"); walk_at "hp"))
local macro_rules | `(tactic| walk_at "ne") => `(tactic| first
  | with_reducible assumption
  | exact Ne.symm (by with_reducible assumption)
  | exact ne_of_none (by with_reducible assumption) (by with_reducible assumption)
  | exact Ne.symm (ne_of_none (by with_reducible assumption) (by with_reducible assumption)))
local macro_rules | `(tactic| walk_at "tr") => `(tactic| first
  | rfl
  | with_reducible assumption
  | exact decide_eq_true (by first | with_reducible assumption | omega)
  | exact decide_eq_false (by first | with_reducible assumption | omega)
  | (rw [Bool.not_eq_true']; exact decide_eq_false (by first | with_reducible assumption | omega))
  | (rw [Bool.not_eq_false']; exact decide_eq_true (by first | with_reducible assumption | omega)))
local macro_rules | `(tactic| walk_at "nn") => `(tactic| first | with_reducible assumption | (exact List.cons_ne_nil _ _))
local macro_rules | `(tactic| walk_at "sz") => `(tactic| first | (exact sz1000 (Nat.le_of_ble_eq_true rfl)) | (refine sz1000 ?_; simp only [List.length_map, List.length_cons, List.length_nil, List.length_append]; omega) | with_reducible assumption)
local macro_rules | `(tactic| walk_at "sl") => `(tactic| first | with_reducible assumption | (refine lt1000 ?_; simp only [List.length_map, List.length_cons, List.length_nil, List.length_append]; omega) | (refine lt1000 ?_; omega))
local macro_rules | `(tactic| walk_at "ix") => `(tactic| first | rfl | with_reducible assumption)
local macro_rules | `(tactic| walk_at "rg") => `(tactic| exact RgOk.of_le (by omega) (by omega) (by omega) (by omega))
local macro_rules | `(tactic| walk_at "sp") => `(tactic| fail "sp")
local macro_rules | `(tactic| walk_at "cl") => `(tactic| with_reducible assumption)
local macro_rules | `(tactic| walk_at "lk") => `(tactic| with_reducible assumption)
local macro_rules | `(tactic| walk_at "it") => `(tactic| first | rfl | with_reducible assumption | exact atI_nat (by with_reducible assumption))
local macro_rules | `(tactic| walk_at "g1") => `(tactic| first
  | (with_reducible apply g_var); (focus rfl)
  | with_reducible apply g_c
  | with_reducible apply g_seq
  | with_reducible apply g_asg
  | with_reducible apply gg_name
  | with_reducible apply g_op
  | with_reducible apply g_cons
  | with_reducible apply g_nil
  | with_reducible apply g_cb
  | with_reducible apply g_fld
  | ((with_reducible apply g_kFld); (focus walk_at "hp"); (focus walk_at "cl"); (focus walk_at "cl"); (focus walk_at "lk"))
  | with_reducible apply g_call
  | walk_at "sp"
  | with_reducible apply g_ret
  | with_reducible apply g_drop
  | with_reducible apply g_test
  | with_reducible apply g_B
  | with_reducible apply g_kTest
  | with_reducible apply g_ifS
  | with_reducible apply g_kIfST
  | with_reducible apply g_kIfSF
  | with_reducible apply g_add
  | with_reducible apply g_sub
  | with_reducible apply g_lt
  | with_reducible apply g_le
  | with_reducible apply g_gt
  | with_reducible apply g_ge
  | with_reducible apply g_eqI
  | with_reducible apply g_neI
  | ((with_reducible apply g_mod); (focus first | decide | omega))
  | ((with_reducible apply g_mul); (focus first | (left; constructor <;> omega) | (right; constructor <;> omega)))
  | ((with_reducible apply g_fdiv); (focus (constructor <;> omega)))
  | ((with_reducible apply g_ixT); (focus walk_at "hp"); (focus walk_at "it"))
  | ((with_reducible apply g_ixL); (focus walk_at "hp"); (focus walk_at "it"))
  | with_reducible apply g_and
  | with_reducible apply g_or
  | with_reducible apply g_not
  | with_reducible apply g_kNotT
  | with_reducible apply g_kNotF
  | with_reducible apply g_if
  | with_reducible apply g_kAndT
  | with_reducible apply g_kAndF
  | with_reducible apply g_kOrT
  | with_reducible apply g_kOrF
  | with_reducible apply g_kIfT
  | with_reducible apply g_kIfF
  | with_reducible apply g_next
  | with_reducible apply g_andV
  | with_reducible apply g_orV
  | with_reducible apply g_notV
  | with_reducible apply g_kNotV
  | with_reducible apply g_kAndVT
  | with_reducible apply g_kAndVF
  | with_reducible apply g_chain
  | with_reducible apply g_kChainT
  | with_reducible apply g_kChainF
  | with_reducible apply g_tup
  | with_reducible apply g_lst
  | ((with_reducible apply g_kT); (focus walk_at "sz"); intro _ _ _ _ _)
  | ((with_reducible apply g_kL); (focus walk_at "sz"); intro _ _ _ _ _)
  | with_reducible apply g_un
  | with_reducible apply g_neg
  | with_reducible apply g_meth
  | ((with_reducible apply g_kMeth); (focus walk_at "hp"); (focus walk_at "lk"))
  | with_reducible apply g_prop
  | ((with_reducible apply g_kProp); (focus walk_at "hp"))
  | with_reducible apply g_make
  | with_reducible apply g_par
  | with_reducible apply g_kPar
  | ((with_reducible apply g_lenLM); (focus walk_at "hp"))
  | ((with_reducible apply g_lenTM); (focus walk_at "hp"))
  | ((with_reducible apply g_lenL); (focus walk_at "hp"))
  | ((with_reducible apply g_lenT); (focus walk_at "hp"))
  | with_reducible apply g_int1
  | with_reducible apply g_max2
  | with_reducible apply g_min2
  | ((with_reducible apply g_listL); (focus walk_at "hp"); intro _ _ _ _ _)
  | ((with_reducible apply g_listT); (focus walk_at "hp"); intro _ _ _ _ _)
  | ((with_reducible apply g_tupL); (focus walk_at "hp"); intro _ _ _ _ _)
  | ((with_reducible apply g_sum); (focus walk_at "hp"))
  | with_reducible apply g_sfld
  | with_reducible apply g_sl
  | with_reducible apply g_nopart
  | with_reducible apply g_part
  | with_reducible apply g_kPart
  | with_reducible apply g_lstRg
  | with_reducible apply g_rg1
  | with_reducible apply g_kRg1
  | with_reducible apply g_bm
  | with_reducible apply gg_sub
  | ((with_reducible apply gg_tup); (focus walk_at "hp"); (focus rfl))
  | with_reducible apply gg_cons
  | with_reducible apply gg_nil
  | with_reducible apply g_forL
  | with_reducible apply g_forT
  | with_reducible apply g_forR1
  | with_reducible apply g_forR2
  | with_reducible apply g_forE
  | with_reducible apply g_forEL
  | ((with_reducible apply g_maxT); (focus walk_at "hp"); (focus walk_at "nn"))
  | ((with_reducible apply g_maxL); (focus walk_at "hp"); (focus walk_at "nn"))
  | ((with_reducible apply g_catA); (focus walk_at "hp"); (focus walk_at "hp"); (focus walk_at "sz"); intro _ _ _ _)
  | ((with_reducible apply g_slA); (focus walk_at "hp"); intro _ _ _ _)
  | ((with_reducible apply g_tupD); (focus walk_at "hp"); intro _ _ _ _ _)
  | ((with_reducible apply g_setL); (focus walk_at "hp"); (focus walk_at "ix"); intro _ _ _)
  | ((with_reducible apply g_append); (focus walk_at "hp"); (focus walk_at "sl"); intro _ _ _)
  | ((with_reducible apply g_aug); (focus rfl))
  | with_reducible apply g_ipI
  | with_reducible apply g_retN
  | with_reducible apply g_lcR1
  | with_reducible apply g_lcR2
  | with_reducible apply g_lcL
  | with_reducible apply g_lcU
  | with_reducible apply g_lcN
  | ((with_reducible apply g_kLcG); (focus rfl))
  | with_reducible apply g_yes
  | with_reducible apply g_kLcTT
  | with_reducible apply g_kLcTF
  | ((with_reducible apply g_kLcE); (focus walk_at "hp"); (focus walk_at "sl"); intro _ _ _)
  | ((with_reducible apply g_pow); (focus (constructor <;> (try constructor) <;> decide)))
  | ((with_reducible apply g_kLRg); (focus walk_at "rg"); intro _ _ _ _ _)
  | ((with_reducible apply g_cat); (focus walk_at "hp"); (focus walk_at "hp"); (focus walk_at "sz"); intro _ _ _ _ _)
  | ((with_reducible apply g_slL); (focus walk_at "hp"); intro _ _ _ _ _)
  | with_reducible apply g_bmT
  | with_reducible apply g_break
  | with_reducible apply g_cont)
local macro_rules | `(tactic| walk_at "g0") => `(tactic| try dsimp only [L2.cxOf, L2.Cx.nox, L2.Cx.wish])
local macro_rules | `(tactic| walk_at "yn") => `(tactic| first
  | ((with_reducible apply y_kIfS); (focus walk_at "tr"))
  | ((with_reducible apply n_kIfS); (focus walk_at "tr"))
  | ((with_reducible apply y_kOr); (focus walk_at "tr"))
  | ((with_reducible apply n_kOr); (focus walk_at "tr"))
  | ((with_reducible apply y_kAnd); (focus walk_at "tr"))
  | ((with_reducible apply n_kAnd); (focus walk_at "tr"))
  | ((with_reducible apply y_kNot); (focus walk_at "tr"))
  | ((with_reducible apply n_kNot); (focus walk_at "tr"))
  | ((with_reducible apply y_kIf); (focus walk_at "tr"))
  | ((with_reducible apply n_kIf); (focus walk_at "tr"))
  | ((with_reducible apply y_kAndV); (focus walk_at "tr"))
  | ((with_reducible apply n_kAndV); (focus walk_at "tr"))
  | ((with_reducible apply y_kOrV); (focus walk_at "tr"))
  | ((with_reducible apply n_kOrV); (focus walk_at "tr"))
  | ((with_reducible apply y_kChain); (focus walk_at "tr"))
  | ((with_reducible apply n_kChain); (focus walk_at "tr"))
  | ((with_reducible apply y_kLcT); (focus walk_at "tr"))
  | ((with_reducible apply n_kLcT); (focus walk_at "tr"))
  | ((with_reducible apply y_kWh); (focus walk_at "tr"))
  | ((with_reducible apply n_kWh); (focus walk_at "tr")))
local macro_rules | `(tactic| walk_at "go") => `(tactic| repeat (first | walk_at "g1" | walk_at "yn"))
local macro_rules | `(tactic| walk_at "hp") => `(tactic| first
  | ((with_reducible apply RingIn.ex); (focus walk_at "as"); walk_at "hp")
  | ((with_reducible apply RingAt.ex); (focus walk_at "as"); walk_at "hp")
  | ((with_reducible apply RingIn.exb); (focus walk_at "as"); (focus walk_at "hp"); walk_at "hp")
  | ((with_reducible apply RingAt.exb); (focus walk_at "as"); (focus walk_at "hp"); walk_at "hp")
  | ((with_reducible apply TupK.ex); (focus walk_at "as"); walk_at "hp")
  | ((with_reducible apply TupK.exb); (focus walk_at "as"); (focus walk_at "hp"); walk_at "hp"))
local macro_rules | `(tactic| walk_at "lk") => `(tactic| first | with_reducible exact rf_spans | with_reducible exact rf_heaps | with_reducible exact rf_total | with_reducible exact rf_nr | with_reducible exact rf_wd)
local macro_rules | `(tactic| walk_at "sp") => `(tactic| first
  | ((with_reducible apply g_isiTup); (focus walk_at "hp"))
  | ((with_reducible apply g_isiLst); (focus walk_at "hp"))
  | ((with_reducible apply g_isint); (focus omega); (focus omega))
  | ((with_reducible apply g_checkn); (focus omega); (focus omega))
  | ((with_reducible apply g_rbooks); (focus walk_at "hp"))
  | ((with_reducible apply g_rpace); (focus walk_at "hp"); intro _ _ _ _)
  | ((with_reducible apply g_rlen); (focus walk_at "hp"))
  | ((with_reducible apply g_rneed); (focus walk_at "hp"); (focus omega))
  | ((with_reducible apply g_rneedM); (focus walk_at "hp"))
  | ((with_reducible apply g_rwithM); (focus walk_at "hp"))
  | ((with_reducible apply g_rspans); (focus walk_at "hp"); (focus with_reducible assumption))
  | ((with_reducible apply g_rheaps); (focus walk_at "hp"); (focus with_reducible assumption))
  | ((with_reducible apply g_rtotal); (focus walk_at "hp"); (focus with_reducible assumption)))

theorem g_kIfQ {ta tb : TE} {σ : L2.St} {Q : VK} {c : Bool} {H : Hp} (v : V) (h1 : c = true → ∀ Q' : VK, Q' v H → ta σ H Q') (h2 : c = false → ∀ Q' : VK, Q' v H → tb σ H Q') (q : Q v H) : kIf ta tb σ Q c H := g_kIf (fun h => h1 h Q q) (fun h => h2 h Q q)
theorem g_kIfSQ {t1 t2 : TS} {D : Ends} {σ : L2.St} {c : Bool} {H : Hp} (σ' : L2.St) (h1 : c = true → ∀ D' : Ends, D'.nx σ' H → t1 D' σ H) (h2 : c = false → ∀ D' : Ends, D'.nx σ' H → t2 D' σ H) (q : D.nx σ' H) : kIfS t1 t2 D σ c H := g_kIfS (fun h => h1 h D q) (fun h => h2 h D q)
theorem rep_flat (x : V) : ∀ n : Nat, (List.replicate n [x]).flatten = List.replicate n x
  | 0 => rfl
  | n + 1 => by
    rw [List.replicate_succ, List.flatten_cons, rep_flat x n, List.replicate_succ]
    rfl
theorem g_rep {H : Hp} {Q : VK} {l : Addr} {n : Nat} {x : V} (h : H l = some (.lst [x])) (hn : n ≤ 900) (q : ∀ p H', H p = none → Ex H H' → H' p = some (.lst (List.replicate n x)) → Q (.ref p) H') : rRep (.ref l) (.int (n : Int)) H Q := by
  refine ⟨l, n, [x], rfl, rfl, h, by omega, by omega, ?_, fun p hp => q p _ hp (Ex.new hp) ?_⟩
  · refine sz1000 ?_
    simp
    omega
  · rw [upd_same, Int.toNat_natCast, rep_flat]
theorem ixN_int' {n i : Nat} {k : Int} (h : k = (i : Int)) (hi : i < n) : ixN n k = some i := by rw [h]; exact ixN_nat' hi
theorem ixN_neg1 {n : Nat} (h : 0 < n) : ixN n (-1) = some (n - 1) := by
  unfold ixN
  rw [if_neg (by decide), if_pos (by omega)]
  congr 1
  omega
theorem atI_prev {α : Type} {ys : List α} {r : Nat} (h : r < ys.length) : atI ys ((r : Int) - 1) = ys[prv ys.length r]? := by
  unfold atI prv
  by_cases z : r = 0
  · subst z
    rw [show ((0 : Nat) : Int) - 1 = -1 by omega, ixN_neg1 h, if_pos rfl]
    rfl
  · rw [show (r : Int) - 1 = ((r - 1 : Nat) : Int) by omega, ixN_nat' (by omega), if_neg z]
    rfl
theorem le_sum {xs : List Int} (h : ∀ x ∈ xs, 0 ≤ x) {y : Int} (hy : y ∈ xs) : y ≤ xs.sum := by
  induction xs with
  | nil => cases hy
  | cons x t ih =>
    rw [List.sum_cons]
    have h0 : 0 ≤ t.sum := by
      have := (sum_le (lo := 0) (hi := mx (0 :: t)) (ds := t) fun z hz => ⟨h z (List.mem_cons_of_mem _ hz), le_mx (List.mem_cons_of_mem _ hz)⟩).1
      rw [Int.zero_mul] at this
      exact this
    rcases List.mem_cons.mp hy with rfl | hy
    · omega
    · have := ih (fun z hz => h z (List.mem_cons_of_mem _ hz)) hy
      have := h x List.mem_cons_self
      omega
/-! ### a ring's course as numbers -/
def dF (ds : List Int) (i : Nat) : Int := ds.getD i 0
def hF (hs : List Int) (i : Nat) : Nat := (hs.getD i 0).toNat
def bF (hs : List Int) : Nat := hs.findIdx fun h => decide (0 < h)
def XR (ds hs : List Int) (n r : Nat) : Int := X (dF ds) (hF hs) ds.length (bF hs) n r
def rowX (ds hs : List Int) (n : Nat) : List Int := (List.range ds.length).map fun r => XR ds hs n r
def evN (ds hs : List Int) : Nat := if ds.sum ≤ mx ds * hs.sum then 1 else hs.sum.toNat
def shN (ds hs : List Int) : Int := if ds.sum ≤ mx ds * hs.sum then mx ds else ds.sum
abbrev ShR (ds hs : List Int) (n : Nat) : Prop := Sh (dF ds) (hF hs) ds.length (bF hs) (evN ds hs) (shN ds hs) n
section
variable {ds hs : List Int}
theorem dF_at {r : Nat} (h : r < ds.length) : dF ds r = ds[r] := by simp [dF, List.getD, List.getElem?_eq_getElem h]
theorem RingOk.hget (O : RingOk ds hs) (i : Nat) : ((hF hs i : Nat) : Int) = hs.getD i 0 := by
  unfold hF
  have : 0 ≤ hs.getD i 0 := by
    by_cases h : i < hs.length
    · have e : hs.getD i 0 = hs[i] := by simp [List.getD, List.getElem?_eq_getElem h]
      rw [e]
      exact (O.hh _ (List.getElem_mem h)).1
    · have e : hs.getD i 0 = 0 := by simp [List.getD, List.getElem?_eq_none (Nat.le_of_not_lt h)]
      omega
  omega
theorem RingOk.hF_at (O : RingOk ds hs) {r : Nat} (h : r < ds.length) : (hs.map V.int)[r]? = some (.int (hF hs r : Nat)) := by
  have h' : r < hs.length := by rw [O.len]; exact h
  rw [List.getElem?_map, List.getElem?_eq_getElem h', O.hget]
  simp [List.getD, List.getElem?_eq_getElem h']
theorem dF_at' {r : Nat} (h : r < ds.length) : (ds.map V.int)[r]? = some (.int (dF ds r)) := by
  rw [List.getElem?_map, List.getElem?_eq_getElem h, dF_at h]
  rfl
theorem RingOk.bF_lt (O : RingOk ds hs) : bF hs < hs.length ∧ 0 < hF hs (bF hs) := by
  have hx : ∃ x, x ∈ hs ∧ decide (0 < x) = true := by
    by_cases h : ∃ x, x ∈ hs ∧ 0 < x
    · obtain ⟨x, h1, h2⟩ := h
      exact ⟨x, h1, decide_eq_true h2⟩
    · have h2 := (sum_le (lo := 0) (hi := 0) (ds := hs) fun x hx => ⟨(O.hh x hx).1, by
        by_cases z : 0 < x
        · exact absurd ⟨x, hx, z⟩ h
        · omega⟩).2
      rw [Int.zero_mul] at h2
      have := O.one
      omega
  have hl : bF hs < hs.length := List.findIdx_lt_length_of_exists hx
  refine ⟨hl, ?_⟩
  have h3 : decide (0 < hs[bF hs]) = true := List.findIdx_getElem (w := hl)
  have h4 := of_decide_eq_true h3
  have h5 := O.hget (bF hs)
  have e : hs.getD (bF hs) 0 = hs[bF hs] := by simp [List.getD, List.getElem?_eq_getElem hl]
  omega
theorem RingOk.rg (O : RingOk ds hs) : RgS (dF ds) (hF hs) ds.length (bF hs) hs.sum.toNat ds.sum (mx ds) where
  n2 := O.two
  lb := by rw [← O.len]; exact O.bF_lt.1
  hb := O.bF_lt.2
  hB := fun r hr => by
    have h1 := O.hget r
    have h' : r < hs.length := by rw [O.len]; exact hr
    have e : hs.getD r 0 = hs[r] := by simp [List.getD, List.getElem?_eq_getElem h']
    have := le_sum (fun x hx => (O.hh x hx).1) (List.getElem_mem h')
    omega
  d1 := fun r hr => by rw [dF_at hr]; exact (O.dd _ (List.getElem_mem hr)).1
  dD := fun r hr => by rw [dF_at hr]; exact le_mx (List.getElem_mem hr)
  full := by
    obtain ⟨j, hj, _⟩ := first_at (mx_mem O.days.ne)
    have hl := (List.getElem?_eq_some_iff.mp hj).1
    exact ⟨j, hl, by rw [dF_at hl]; exact (List.getElem?_eq_some_iff.mp hj).2⟩
  tS := fun r hr => Sg_tot rfl hr
  tB := fun r hr => by
    have e : (fun i => ((hF hs i : Nat) : Int)) = fun i => hs.getD i 0 := funext O.hget
    unfold Hs
    rw [e, Sg_tot O.len hr]
    have := O.one
    omega
  B1 := by have := O.one; omega
theorem rowX_len {n : Nat} : (rowX ds hs n).length = ds.length := by unfold rowX; rw [List.length_map, List.length_range]
theorem rowX_get {n r : Nat} (h : r < ds.length) : (rowX ds hs n)[r]? = some (XR ds hs n r) := by
  unfold rowX
  rw [List.getElem?_map, List.getElem?_range h]
  rfl
theorem rowX_at {n r : Nat} (h : r < ds.length) : atI ((rowX ds hs n).map V.int) (r : Int) = some (.int (XR ds hs n r)) := atI_nat (by rw [List.getElem?_map, rowX_get h]; rfl)
theorem rowX_prev {n r : Nat} (h : r < ds.length) : atI ((rowX ds hs n).map V.int) ((r : Int) - 1) = some (.int (XR ds hs n (prv ds.length r))) := by
  rw [atI_prev (by rw [List.length_map, rowX_len]; exact h), List.length_map, rowX_len, List.getElem?_map, rowX_get (prv_lt h)]
  rfl
theorem rowX_shift {n : Nat} : ((rowX ds hs n).map fun x => x + shN ds hs) = rowX ds hs (n + evN ds hs) ↔ ShR ds hs n := by
  unfold rowX
  rw [List.map_map]
  constructor
  · intro h r hr
    have := List.map_inj_left.mp h r (List.mem_range.mpr hr)
    exact this.symm
  · intro h
    exact List.map_congr_left fun r hr => (h r (List.mem_range.mp hr)).symm
end
/-! ### the object -/
structure CourseC (K : PySem.W.Frag) (CC : Addr) : Prop where
  cl : Cls K CC
  n1 : NoAttr K CC "ring"
  n2 : NoAttr K CC "size"
  n3 : NoAttr K CC "every"
  n4 : NoAttr K CC "shift"
  n5 : NoAttr K CC "rows"
  n6 : NoAttr K CC "first"
structure CF (r Rw : Addr) (N e : Nat) (s : Int) (fs : List (Str × V)) : Prop where
  ring : fs.lookup ("ring" : Str) = some (.ref r)
  size : fs.lookup ("size" : Str) = some (.int (N : Int))
  every : fs.lookup ("every" : Str) = some (.int (e : Int))
  shift : fs.lookup ("shift" : Str) = some (.int s)
  rows : fs.lookup ("rows" : Str) = some (.ref Rw)
  m1 : fs.lookup ("next_row" : Str) = none
  m2 : fs.lookup ("is_shifted" : Str) = none
  m3 : fs.lookup ("is_settled" : Str) = none
  m4 : fs.lookup ("end" : Str) = none
  m5 : fs.lookup ("arrival" : Str) = none
def RowsAt (H : Hp) (Rw : Addr) (ds hs : List Int) (L : Nat) : Prop := ∃ ps : List Addr, H Rw = some (.lst (ps.map V.ref)) ∧ ps.length = L ∧ ∀ (i : Nat) (p : Addr), ps[i]? = some p → H p = some (.lst ((rowX ds hs i).map V.int))
structure CrsIn (K : PySem.W.Frag) (C CC : Addr) (H : Hp) (c r a b Rw : Addr) (ds hs : List Int) (L : Nat) : Prop where
  obj : ∃ dx fs, H c = some (.ins CC dx fs) ∧ CF r Rw ds.length (evN ds hs) (shN ds hs) fs
  ring : RingIn K C H r a b ds hs
  rows : RowsAt H Rw ds hs L
section
variable {K : PySem.W.Frag} {C CC : Addr} {H H' : Hp} {c r a b Rw l : Addr} {ds hs : List Int} {L : Nat} {ys : List V} {Q : VK} {E : XK}
theorem RowsAt.ex (e : Ex H H') (R : RowsAt H Rw ds hs L) : RowsAt H' Rw ds hs L := let ⟨ps, h1, h2, h3⟩ := R; ⟨ps, e _ _ h1, h2, fun i p h => e _ _ (h3 i p h)⟩
theorem RowsAt.exI {dx : Addr} {fs : List (Str × V)} (e : Exb l H H') (hl : H l = some (.ins CC dx fs)) (R : RowsAt H Rw ds hs L) : RowsAt H' Rw ds hs L :=
  let ⟨ps, h1, h2, h3⟩ := R; ⟨ps, e _ _ (ne_of h1 hl (by intro z; cases z)) h1, h2, fun i p h => e _ _ (ne_of (h3 i p h) hl (by intro z; cases z)) (h3 i p h)⟩
theorem CrsIn.ex (e : Ex H H') (R : CrsIn K C CC H c r a b Rw ds hs L) : CrsIn K C CC H' c r a b Rw ds hs L :=
  ⟨let ⟨dx, fs, h, f⟩ := R.obj; ⟨dx, fs, e _ _ h, f⟩, R.ring.ex e, R.rows.ex e⟩
theorem CrsIn.exb (e : Exb l H H') (hl : H l = some (.lst ys)) (n1 : l ≠ Rw) (n2 : ∀ zs, H l = some (.lst (List.map V.int zs)) → False) (R : CrsIn K C CC H c r a b Rw ds hs L) : CrsIn K C CC H' c r a b Rw ds hs L :=
  ⟨let ⟨dx, fs, h, f⟩ := R.obj; ⟨dx, fs, exb_ins e hl h, f⟩, R.ring.exb e hl, let ⟨ps, h1, h2, h3⟩ := R.rows; ⟨ps, e _ _ (Ne.symm n1) h1, h2, fun i p h => e _ _ (fun z => n2 _ (z ▸ h3 i p h)) (h3 i p h)⟩⟩
theorem g_crows (R : CrsIn K C CC H c r a b Rw ds hs L) (k : CourseC K CC) (q : Q (.ref Rw) H) : kFld K "rows" Q (.ref c) H := let ⟨dx, fs, h, f⟩ := R.obj; g_kFld h k.cl k.n5 f.rows q
theorem g_csize (R : CrsIn K C CC H c r a b Rw ds hs L) (k : CourseC K CC) (q : Q (.int (ds.length : Int)) H) : kFld K "size" Q (.ref c) H := let ⟨dx, fs, h, f⟩ := R.obj; g_kFld h k.cl k.n2 f.size q
theorem g_cevery (R : CrsIn K C CC H c r a b Rw ds hs L) (k : CourseC K CC) (q : Q (.int (evN ds hs : Nat)) H) : kFld K "every" Q (.ref c) H := let ⟨dx, fs, h, f⟩ := R.obj; g_kFld h k.cl k.n3 f.every q
theorem g_cshift (R : CrsIn K C CC H c r a b Rw ds hs L) (k : CourseC K CC) (q : Q (.int (shN ds hs)) H) : kFld K "shift" Q (.ref c) H := let ⟨dx, fs, h, f⟩ := R.obj; g_kFld h k.cl k.n4 f.shift q
theorem g_cring (R : CrsIn K C CC H c r a b Rw ds hs L) (k : CourseC K CC) (q : Q (.ref r) H) : kFld K "ring" Q (.ref c) H := let ⟨dx, fs, h, f⟩ := R.obj; g_kFld h k.cl k.n1 f.ring q
theorem g_clen (R : RowsAt H Rw ds hs L) (q : Q (.int (L : Int)) H) : rLen K [.ref Rw] H Q := by
  obtain ⟨ps, h1, rfl, h3⟩ := R
  exact g_lenLM (SqL.of h1) q
/-- rows[k] -/
theorem g_crow {k : Int} {i : Nat} (R : RowsAt H Rw ds hs L) (e : ixN L k = some i) (q : ∀ p, H p = some (.lst ((rowX ds hs i).map V.int)) → Q (.ref p) H) : rIxL K (.ref Rw) (.int k) H Q := by
  obtain ⟨ps, h1, rfl, h3⟩ := R
  have hi : i < ps.length := (ixN_seq e).2.1
  refine g_ixL (v := .ref ps[i]) (SqL.of h1) ?_ (q _ (h3 i _ (List.getElem?_eq_getElem hi)))
  unfold atI
  rw [List.length_map, e]
  show (ps.map V.ref)[i]? = _
  rw [List.getElem?_map, List.getElem?_eq_getElem hi]
  rfl
end
local macro_rules | `(tactic| walk_at "hp") => `(tactic| first
  | ((with_reducible apply CrsIn.ex); (focus walk_at "as"); walk_at "hp")
  | ((with_reducible apply RowsAt.ex); (focus walk_at "as"); walk_at "hp"))
local macro_rules | `(tactic| walk_at "sp") => `(tactic| first
  | ((with_reducible apply g_crows); (focus walk_at "hp"); (focus with_reducible assumption))
  | ((with_reducible apply g_csize); (focus walk_at "hp"); (focus with_reducible assumption))
  | ((with_reducible apply g_cevery); (focus walk_at "hp"); (focus with_reducible assumption))
  | ((with_reducible apply g_cshift); (focus walk_at "hp"); (focus with_reducible assumption))
  | ((with_reducible apply g_cring); (focus walk_at "hp"); (focus with_reducible assumption))
  | ((with_reducible apply g_cfirst); (focus walk_at "hp"); (focus with_reducible assumption))
  | ((with_reducible apply g_clen); (focus walk_at "hp"))
  | ((with_reducible apply g_cmShifted); (focus walk_at "hp"))
  | ((with_reducible apply g_cmSettled); (focus walk_at "hp"))
  | ((with_reducible apply g_cmNext); (focus walk_at "hp"))
  | ((with_reducible apply g_cmEnd); (focus walk_at "hp"))
  | ((with_reducible apply g_cmArrival); (focus walk_at "hp")))

section
variable {P : Program} {w : World} {K : PySem.W.Frag} {mg : Str → Option Value} {base : Heap} {C CC : Addr}
def sp_next_row (K : PySem.W.Frag) (C CC : Addr) : Sp := fun vs H Q _ => ∃ (c r a b Rw : Addr) (ds hs : List Int) (L : Nat), vs = [.ref c] ∧ CrsIn K C CC H c r a b Rw ds hs L ∧ L ≤ 900 ∧ ∀ p H', H p = none → Ex H H' → H' p = some (.lst ((rowX ds hs L).map V.int)) → Q (.ref p) H'
theorem ok_next_row (Z : Blt mg) (R : RingC K C) (RC : CourseC K CC) (G : CFun K CC "next_row" "Course.next_row" s_Course_next_row) : Mf P w K mg base CC 1 "next_row" ["self"] (sp_next_row K C CC) := by
  refine Mf.of G sc_Course_next_row b_Course_next_row (fun vs H Q E h => ?_) (fun f cdv A outer s H vs Q E hr h => ?_)
  · obtain ⟨c, r, a, b, Rw, ds, hs, L, rfl, _⟩ := h
    rfl
  · obtain ⟨c, r, a, b, Rw, ds, hs, L, rfl, CI, hL, q⟩ := h
    have cl_Ring := R.cl
    have RI := CI.ring
    have RW := CI.rows
    have O := RI.ok
    have RG := O.rg
    have o8 := O.eight
    have hT := RI.hp
    refine ⟨_, PSs.nox (pss_cons (ps_par (i := 1) (j := 2) rfl sc_Course_next_row.nd rfl rfl (by decide) rfl rfl (pa_cons (pe_callB c_len (by rfl) Z.zlen PySem.boot_len (pa_cons (pe_fld (pv 0) rfl) pa_nil)) (pa_cons (pe_op op_rep (pe_lst (pa_cons pe_int pa_nil)) (pe_fld (pv 0) rfl)) pa_nil)) (by rfl))
      (pss_cons (ps_set (i := 3) sc_Course_next_row.nd rfl (by first | exact Or.inl rfl | exact Or.inr rfl) (pe_ix ix_list (pe_lc (own := [("reader", 5), ("heap", 6)]) rfl sc_Course_next_row.nd (pi_enumT (by rfl) Z.zenumerate (pa_cons (pe_fld (pe_fld (pv 0) rfl) rfl) pa_nil)) (blkOk_by (N := N_Course_next_row) (sc := defScope s_Course_next_row) (by decide +kernel)) (fun _ _ _ _ _ => (pg_tupK K (n := 2) (by rfl) (pgs_cons (pg_name (i := 5) sc_Course_next_row.nd rfl (by first | exact Or.inl rfl | exact Or.inr rfl)) (pgs_cons (pg_name (i := 6) sc_Course_next_row.nd rfl (by first | exact Or.inl rfl | exact Or.inr rfl)) pgs_nil)))) (fun _ _ _ _ _ => (pts_one (pt_cmpR op_gt (pv 6) pe_int (nomark _)))) (fun _ _ _ _ _ => (pv 5))) pe_int (fun _ _ => rfl)))
      (pss_cons (ps_for PassesOwn.never rfl (pi_range1 (by rfl) Z.zrange (pa_cons (pe_fld (pv 0) rfl) pa_nil)) (pg_name (i := 4) sc_Course_next_row.nd rfl (by first | exact Or.inl rfl | exact Or.inr rfl)) (pss_cons (ps_set (i := 5) sc_Course_next_row.nd rfl (by first | exact Or.inl rfl | exact Or.inr rfl) (pe_op op_mod (pe_callTy c_int1 (by rfl) Z.zint (by decide +kernel) (pa_cons (pe_op op_add (pv 3) (pv 4)) pa_nil)) (pe_fld (pv 0) rfl)))
          (pss_cons (ps_set (i := 6) sc_Course_next_row.nd rfl (by first | exact Or.inl rfl | exact Or.inr rfl) (pe_ix ix_tup (pe_fld (pe_fld (pv 0) rfl) rfl) (pv 5) (fun _ _ => rfl)))
          (pss_cons (ps_set (i := 7) sc_Course_next_row.nd rfl (by first | exact Or.inl rfl | exact Or.inr rfl) (pe_ifExp (pt_cmpR op_gt (pv 1) pe_int (nomark _)) (pe_ix ix_list (pe_ix ix_list (pe_fld (pv 0) rfl) (pe_un un_neg pe_int) (fun _ _ => rfl)) (pv 5) (fun _ _ => rfl)) pe_int))
          (pss_cons (ps_if (pt_cmpR op_eq (pv 6) pe_int (nomark _)) (pss_one (ps_set (i := 7) sc_Course_next_row.nd rfl (by first | exact Or.inl rfl | exact Or.inr rfl) (pe_callB (c_max2 rfl) (by rfl) Z.zmax (by decide +kernel) (pa_cons (pv 7) (pa_cons (pe_ix ix_list (pv 2) (pe_op op_sub (pv 5) pe_int) (fun _ _ => rfl)) pa_nil))))) (pss_one (ps_if (pt_cmpR op_ge (pv 1) (pv 6) (nomark _)) (pss_one (ps_set (i := 7) sc_Course_next_row.nd rfl (by first | exact Or.inl rfl | exact Or.inr rfl) (pe_callB (c_max2 rfl) (by rfl) Z.zmax (by decide +kernel) (pa_cons (pv 7) (pa_cons (pe_ix ix_list (pe_ix ix_list (pe_fld (pv 0) rfl) (pe_op op_sub (pv 1) (pv 6)) (fun _ _ => rfl)) (pe_op op_sub (pv 5) pe_int) (fun _ _ => rfl)) pa_nil))))) pss_nil)))
          (pss_one (ps_asg (pe_op op_add (pv 7) (pe_ix ix_tup (pe_fld (pe_fld (pv 0) rfl) rfl) (pv 5) (fun _ _ => rfl))) (pg_sub (pv 2) (pv 5) set_list))))))))
      (pss_one (ps_ret (pv 2)))))), ?_⟩
    walk_at "g0"
    walk_at "go"
    rename_i l1 H1 n1 e1 hl1
    refine g_rep hl1 (by omega) fun row H2 n2 e2 hrow => ?_
    have CI2 := (CI.ex e1).ex e2
    have RI2 := CI2.ring
    have nrow : H row = none := fresh_back e1 n2
    walk_at "go"
    refine g_kLcN RI2.hp (fun A i H' => ∃ ys : List Int, Ex H2 H' ∧ H' A = some (.lst (ys.map V.int)) ∧ ys.length ≤ i ∧ ((∀ j, j < i → hF hs j = 0) ∧ ys = [] ∨ ∃ j0, j0 < i ∧ 0 < hF hs j0 ∧ (∀ j, j < j0 → hF hs j = 0) ∧ ys[0]? = some (j0 : Int))) (fun A H3 nA e3 hA => ⟨[], e3, hA, Nat.le_refl _, .inl ⟨fun j hj => absurd hj (Nat.not_lt_zero j), rfl⟩⟩) (fun A i H3 _ _ ⟨ys, e3, _⟩ => ex_t e3 RI2.hp) ?_ ?_
    · rintro A i x H3 T H4 nA hx ⟨ys, e3, hA, hyl, hys⟩ e4 nT hT4
      obtain ⟨n, rfl, hn, hm, hi⟩ := at_int hx
      have hil : i < ds.length := by rw [← O.len]; exact hi
      have hnn : ((hF hs i : Nat) : Int) = n := by
        rw [O.hget]
        simp [List.getD, hn]
      have hA4 := e4 _ _ hA
      have e34 := e3.trans e4
      walk_at "go"
      refine g_kLcT (fun h => ?_) (fun h => ?_)
      · have h := of_decide_eq_true h
        walk_at "go"
        rename_i H5 e5 hA5
        refine ⟨ys ++ [(i : Int)], Exb.ex nA e34 e5, by rw [hA5, map_app], by rw [List.length_append]; simp; omega, .inr ?_⟩
        rcases hys with ⟨h1, rfl⟩ | ⟨j0, h1, h2, h3, h4⟩
        · exact ⟨i, Nat.lt_succ_self i, by omega, h1, rfl⟩
        · refine ⟨j0, by omega, h2, h3, ?_⟩
          have hl := (List.getElem?_eq_some_iff.mp h4).1
          rw [List.getElem?_append_left hl]
          exact h4
      · have h := of_decide_eq_false h
        walk_at "go"
        refine ⟨ys, e34, hA4, by omega, ?_⟩
        rcases hys with ⟨h1, h5⟩ | ⟨j0, h1, h2, h3, h4⟩
        · refine .inl ⟨fun j hj => ?_, h5⟩
          by_cases z : j = i
          · subst z
            omega
          · exact h1 j (by omega)
        · exact .inr ⟨j0, by omega, h2, h3, h4⟩
    · rintro A H3 nA ⟨ys, e3, hA, hyl, hys⟩
      have hb := O.bF_lt
      rw [List.length_map] at hys
      have hy0 : ys[0]? = some ((bF hs : Nat) : Int) := by
        rcases hys with ⟨h1, _⟩ | ⟨j0, h1, h2, h3, h4⟩
        · have := h1 (bF hs) hb.1
          omega
        · have e : bF hs = j0 := by
            unfold bF
            have hg : ∀ j (hj : j < hs.length), hs[j] = ((hF hs j : Nat) : Int) := fun j hj => by
              rw [O.hget]
              simp [List.getD, List.getElem?_eq_getElem hj]
            refine (List.findIdx_eq h1).mpr ⟨decide_eq_true (by have := hg j0 h1; omega), fun j hj => decide_eq_false (by have := hg j (by omega); have := h3 j hj; omega)⟩
          rw [e]
          exact h4
      have hbN : bF hs < ds.length := by rw [← O.len]; exact hb.1
      refine g_ixL (v := .int ((bF hs : Nat) : Int)) (SqL.of hA) (by
        show atI _ ((0 : Nat) : Int) = _
        exact atI_nat (by rw [List.getElem?_map, hy0]; rfl)) ?_
      have CI3 := CI2.ex e3
      have hrow3 := e3 _ _ hrow
      walk_at "go"
      refine g_kForR1 ⟨by omega, by omega⟩ (fun t σ H' => ∃ (ys : List Int) (v4 v5 v6 v7 : Option V), σ = [some (.ref c), some (.int (L : Int)), some (.ref row), some (.int ((bF hs : Nat) : Int)), v4, v5, v6, v7] ∧ Ex H H' ∧ H' row = some (.lst (ys.map V.int)) ∧ ys.length = ds.length ∧ ∀ r, r < ds.length → posn ds.length (bF hs) r < t → ys[r]? = some (XR ds hs L r))
        ⟨List.replicate ds.length 0, _, _, _, _, rfl, (e1.trans e2).trans e3, by rw [hrow3, List.map_replicate], List.length_replicate, fun r _ h => absurd h (Nat.not_lt_zero _)⟩ ?_ ?_
      · rintro t σ H4 ht ⟨ys4, v4, v5, v6, v7, rfl, e4, hrow4, hl4, hy4⟩
        have CI4 := CI.ex e4
        have htN : t < ds.length := by omega
        have hRd : ∃ rd : Nat, rd < ds.length ∧ (((bF hs : Nat) : Int) + (t : Int)) % (ds.length : Int) = (rd : Int) ∧ posn ds.length (bF hs) rd = t ∧ ∀ r, r < ds.length → posn ds.length (bF hs) r < t + 1 → r = rd ∨ posn ds.length (bF hs) r < t := by
          by_cases z : bF hs + t < ds.length
          · refine ⟨bF hs + t, z, ?_, ?_, fun r h1 h2 => ?_⟩
            · rw [Int.emod_eq_of_lt (by omega) (by omega)]
              omega
            · unfold posn
              split <;> omega
            · unfold posn at h2 ⊢
              split at h2 <;> split <;> omega
          · refine ⟨bF hs + t - ds.length, by omega, ?_, ?_, fun r h1 h2 => ?_⟩
            · have e : ((bF hs : Nat) : Int) + (t : Int) = ((bF hs + t - ds.length : Nat) : Int) + (ds.length : Int) := by omega
              rw [e, Int.add_emod_right, Int.emod_eq_of_lt (by omega) (by omega)]
            · unfold posn
              split <;> omega
            · unfold posn at h2 ⊢
              split at h2 <;> split <;> omega
        obtain ⟨rd, hrd, hmod, hpos, hall⟩ := hRd
        have hxh := O.hF_at hrd
        have hxd := dF_at' (ds := ds) hrd
        have RI4 := CI4.ring
        have hS4 := RI4.sp
        have hT4 := RI4.hp
        have RW4 := CI4.rows
        have hrec := X_rec RG.toRg hrd (n := L)
        have hself := fun n => (X_self RG.toRg hrd (n := n)).2
        have hprv := prv_lt hrd
        have hxp := fun n => (X_self RG.toRg hprv (n := n)).2
        have hpp : hF hs rd = 0 → ys4[prv ds.length rd]? = some (XR ds hs L (prv ds.length rd)) := fun h0 => hy4 _ hprv (by
          rw [← hpos]
          refine posn_prv hrd hbN fun e => ?_
          have := hb.2
          rw [← e] at this
          omega)
        walk_at "go"
        rw [hmod]
        walk_at "go"
        have hA : ∃ A0 : Int, A0 = (if 0 < L then XR ds hs (L - 1) rd else 0) := ⟨_, rfl⟩
        have hBt : ∃ B0 : Int, B0 = (if hF hs rd ≤ L then XR ds hs (L - hF hs rd) (prv ds.length rd) else 0) := ⟨_, rfl⟩
        obtain ⟨A0, hA⟩ := hA
        obtain ⟨B0, hBt⟩ := hBt
        have e0 : XR ds hs L rd = dF ds rd + max A0 B0 := by rw [hA, hBt]; exact hrec
        have hA0 : 0 ≤ A0 := by
          rw [hA]
          split
          · exact Int.le_trans (by decide) (hself (L - 1))
          · exact Int.le_refl _
        refine g_kIfQ (.int A0) (fun h Q' q' => ?_) (fun h Q' q' => ?_) ?_
        · have h := of_decide_eq_true h
          rw [hA, if_pos (by omega)] at q'
          walk_at "go"
          refine g_crow RW4 (ixN_neg1 (by omega)) fun p hp => ?_
          walk_at "go"
          exact g_ixL (SqL.of hp) (rowX_at hrd) q'
        · have h := of_decide_eq_false h
          rw [hA, if_neg (by omega)] at q'
          walk_at "go"
          exact q'
        walk_at "go"
        refine g_kIfSQ [some (.ref c), some (.int (L : Int)), some (.ref row), some (.int ((bF hs : Nat) : Int)), some (.int (t : Int)), some (.int (rd : Int)), some (.int (hF hs rd : Nat)), some (.int (max A0 B0))] (fun h D' q' => ?_) (fun h D' q' => ?_) ?_
        · have h := of_decide_eq_true h
          have h0 : hF hs rd = 0 := by omega
          rw [h0, if_pos (Nat.zero_le _), Nat.sub_zero] at hBt
          rw [h0, hBt] at q'
          walk_at "go"
          refine g_ixL (v := .int (XR ds hs L (prv ds.length rd))) (SqL.of hrow4) ?_ ?_
          · rw [atI_prev (by rw [List.length_map, hl4]; exact hrd), List.length_map, hl4, List.getElem?_map, hpp h0]
            rfl
          walk_at "go"
          rw [h0]
          exact q'
        · have h := of_decide_eq_false h
          walk_at "go"
          refine g_kIfSQ _ (fun h2 D2 q2 => ?_) (fun h2 D2 q2 => ?_) q'
          · have h2 := of_decide_eq_true h2
            rw [if_pos (by omega)] at hBt
            rw [hBt] at q2
            walk_at "go"
            refine g_crow (i := L - hF hs rd) RW4 (ixN_int' (by omega) (by omega)) fun p hp => ?_
            walk_at "go"
            refine g_ixL (SqL.of hp) (rowX_prev hrd) ?_
            walk_at "go"
            exact q2
          · have h2 := of_decide_eq_false h2
            rw [if_neg (by omega)] at hBt
            rw [hBt, Int.max_eq_left hA0] at q2
            walk_at "go"
            exact q2
        walk_at "go"
        refine g_setL hrow4 (by rw [List.length_map, hl4]; exact ixN_nat' hrd) fun H5 e5 hrow5 => ?_
        rw [map_set'] at hrow5
        refine ⟨_, _, _, _, _, rfl, Exb.ex nrow e4 e5, hrow5, by rw [List.length_set]; exact hl4, fun r hr hp => ?_⟩
        rcases hall r hr hp with rfl | hlt
        · rw [List.getElem?_set_self (by omega)]
          congr 1
          rw [e0]
          omega
        · have hne : rd ≠ r := by
            intro z
            rw [z] at hpos
            omega
          rw [List.getElem?_set_ne hne]
          exact hy4 r hr hlt
      · rintro σ H4 ⟨ys4, v4, v5, v6, v7, rfl, e4, hrow4, hl4, hy4⟩
        walk_at "go"
        refine q row H4 nrow e4 ?_
        rw [hrow4]
        congr 2
        refine congrArg _ (List.ext_getElem? fun i => ?_)
        by_cases z : i < ds.length
        · rw [hy4 i z (by unfold posn; split <;> omega), rowX_get z]
        · rw [List.getElem?_eq_none (by omega), List.getElem?_eq_none (by rw [rowX_len]; omega)]
end
end G48

namespace G48
open PySem PySem.Spec PyProof.Rows L2 Evl
abbrev N_Course_is_shifted : List Str := ["self", "number", "early", "late", "end"]
theorem sc_Course_is_shifted : FnScope N_Course_is_shifted ["self", "number"] (defScope s_Course_is_shifted) := ⟨rfl, rfl, rfl, by decide +kernel, rfl, by decide +kernel, by decide +kernel⟩
theorem b_Course_is_shifted : BindL "Course.is_shifted" "is_shifted" s_Course_is_shifted ["self", "number"] := fun _ _ _ _ _ _ us hl => match us, hl with | [_, _], _ => rfl
abbrev N_Course_is_settled : List Str := ["self", "last", "number"]
theorem sc_Course_is_settled : FnScope N_Course_is_settled ["self"] (defScope s_Course_is_settled) := ⟨rfl, rfl, rfl, by decide +kernel, rfl, by decide +kernel, by decide +kernel⟩
theorem b_Course_is_settled : BindL "Course.is_settled" "is_settled" s_Course_is_settled ["self"] := fun _ _ _ _ _ _ us hl => match us, hl with | [_], _ => rfl
abbrev N_Course___init__ : List Str := ["self", "ring", "is_slow"]
theorem sc_Course___init__ : FnScope N_Course___init__ ["self", "ring"] (defScope s_Course___init__) := ⟨rfl, rfl, rfl, by decide +kernel, rfl, by decide +kernel, by decide +kernel⟩
theorem b_Course___init__ : BindL "Course.__init__" "__init__" s_Course___init__ ["self", "ring"] := fun _ _ _ _ _ _ us hl => match us, hl with | [_, _], _ => rfl
abbrev N_Course_end : List Str := ["self", "reader", "number", "turns", "rest"]
theorem sc_Course_end : FnScope N_Course_end ["self", "reader", "number"] (defScope s_Course_end) := ⟨rfl, rfl, rfl, by decide +kernel, rfl, by decide +kernel, by decide +kernel⟩
theorem b_Course_end : BindL "Course.end" "end" s_Course_end ["self", "reader", "number"] := fun _ _ _ _ _ _ us hl => match us, hl with | [_, _, _], _ => rfl
end G48
/-! Course: is_shifted, is_settled, __init__, end -/
namespace G48
open PySem PySem.Spec PyProof.Rows L2 Evl
/-! the steps -/
local macro_rules | `(tactic| walk_at "as") => `(tactic| with_reducible assumption)
local macro_rules | `(tactic| walk_at "hp") => `(tactic| first
  | with_reducible assumption
  | ((with_reducible apply SqT.of); walk_at "as")
  | ((with_reducible apply SqL.of); walk_at "as")
  | ((with_reducible apply ex_at); (focus walk_at "as"); walk_at "hp")
  | ((with_reducible apply ex_t); (focus walk_at "as"); walk_at "hp")
  | ((with_reducible apply ex_l); (focus walk_at "as"); walk_at "hp")
  | ((with_reducible apply exb_ins); (focus walk_at "as"); (focus walk_at "hp"); walk_at "hp")
  | ((with_reducible apply exb_t); (focus walk_at "as"); (focus walk_at "hp"); walk_at "hp")
  | ((with_reducible apply exb_at); (focus walk_at "as"); (focus walk_at "ne"); walk_at "hp")
  | ((with_reducible apply exb_l); (focus walk_at "as"); (focus walk_at "ne"); walk_at "hp"))
local macro_rules | `(tactic| walk_at "ne") => `(tactic| first
  | with_reducible assumption
  | exact Ne.symm (by with_reducible assumption)
  | exact ne_of_none (by with_reducible assumption) (by with_reducible assumption)
  | exact Ne.symm (ne_of_none (by with_reducible assumption) (by with_reducible assumption)))
local macro_rules | `(tactic| walk_at "tr") => `(tactic| first
  | rfl
  | with_reducible assumption
  | exact decide_eq_true (by first | with_reducible assumption | omega)
  | exact decide_eq_false (by first | with_reducible assumption | omega)
  | (rw [Bool.not_eq_true']; exact decide_eq_false (by first | with_reducible assumption | omega))
  | (rw [Bool.not_eq_false']; exact decide_eq_true (by first | with_reducible assumption | omega)))
local macro_rules | `(tactic| walk_at "nn") => `(tactic| first | with_reducible assumption | (exact List.cons_ne_nil _ _))
local macro_rules | `(tactic| walk_at "sz") => `(tactic| first | (exact sz1000 (Nat.le_of_ble_eq_true rfl)) | (refine sz1000 ?_; simp only [List.length_map, List.length_cons, List.length_nil, List.length_append]; omega) | with_reducible assumption)
local macro_rules | `(tactic| walk_at "sl") => `(tactic| first | with_reducible assumption | (refine lt1000 ?_; simp only [List.length_map, List.length_cons, List.length_nil, List.length_append]; omega) | (refine lt1000 ?_; omega))
local macro_rules | `(tactic| walk_at "ix") => `(tactic| first | rfl | with_reducible assumption)
local macro_rules | `(tactic| walk_at "rg") => `(tactic| exact RgOk.of_le (by omega) (by omega) (by omega) (by omega))
local macro_rules | `(tactic| walk_at "sp") => `(tactic| fail "sp")
local macro_rules | `(tactic| walk_at "cl") => `(tactic| with_reducible assumption)
local macro_rules | `(tactic| walk_at "lk") => `(tactic| with_reducible assumption)
local macro_rules | `(tactic| walk_at "it") => `(tactic| first | rfl | with_reducible assumption | exact atI_nat (by with_reducible assumption))
local macro_rules | `(tactic| walk_at "g1") => `(tactic| first
  | (with_reducible apply g_var); (focus rfl)
  | with_reducible apply g_c
  | with_reducible apply g_seq
  | with_reducible apply g_asg
  | with_reducible apply gg_name
  | with_reducible apply g_op
  | with_reducible apply g_cons
  | with_reducible apply g_nil
  | with_reducible apply g_cb
  | with_reducible apply g_fld
  | ((with_reducible apply g_kFld); (focus walk_at "hp"); (focus walk_at "cl"); (focus walk_at "cl"); (focus walk_at "lk"))
  | with_reducible apply g_call
  | walk_at "sp"
  | with_reducible apply g_ret
  | with_reducible apply g_drop
  | with_reducible apply g_test
  | with_reducible apply g_B
  | with_reducible apply g_kTest
  | with_reducible apply g_ifS
  | with_reducible apply g_kIfST
  | with_reducible apply g_kIfSF
  | with_reducible apply g_add
  | with_reducible apply g_sub
  | with_reducible apply g_lt
  | with_reducible apply g_le
  | with_reducible apply g_gt
  | with_reducible apply g_ge
  | with_reducible apply g_eqI
  | with_reducible apply g_neI
  | ((with_reducible apply g_mod); (focus first | decide | omega))
  | ((with_reducible apply g_mul); (focus first | (left; constructor <;> omega) | (right; constructor <;> omega)))
  | ((with_reducible apply g_fdiv); (focus (constructor <;> omega)))
  | ((with_reducible apply g_ixT); (focus walk_at "hp"); (focus walk_at "it"))
  | ((with_reducible apply g_ixL); (focus walk_at "hp"); (focus walk_at "it"))
  | with_reducible apply g_and
  | with_reducible apply g_or
  | with_reducible apply g_not
  | with_reducible apply g_kNotT
  | with_reducible apply g_kNotF
  | with_reducible apply g_if
  | with_reducible apply g_kAndT
  | with_reducible apply g_kAndF
  | with_reducible apply g_kOrT
  | with_reducible apply g_kOrF
  | with_reducible apply g_kIfT
  | with_reducible apply g_kIfF
  | with_reducible apply g_next
  | with_reducible apply g_andV
  | with_reducible apply g_orV
  | with_reducible apply g_notV
  | with_reducible apply g_kNotV
  | with_reducible apply g_kAndVT
  | with_reducible apply g_kAndVF
  | with_reducible apply g_chain
  | with_reducible apply g_kChainT
  | with_reducible apply g_kChainF
  | with_reducible apply g_tup
  | with_reducible apply g_lst
  | ((with_reducible apply g_kT); (focus walk_at "sz"); intro _ _ _ _ _)
  | ((with_reducible apply g_kL); (focus walk_at "sz"); intro _ _ _ _ _)
  | with_reducible apply g_un
  | with_reducible apply g_neg
  | with_reducible apply g_meth
  | ((with_reducible apply g_kMeth); (focus walk_at "hp"); (focus walk_at "lk"))
  | with_reducible apply g_prop
  | ((with_reducible apply g_kProp); (focus walk_at "hp"))
  | with_reducible apply g_make
  | with_reducible apply g_par
  | with_reducible apply g_kPar
  | ((with_reducible apply g_lenLM); (focus walk_at "hp"))
  | ((with_reducible apply g_lenTM); (focus walk_at "hp"))
  | ((with_reducible apply g_lenL); (focus walk_at "hp"))
  | ((with_reducible apply g_lenT); (focus walk_at "hp"))
  | with_reducible apply g_int1
  | with_reducible apply g_max2
  | with_reducible apply g_min2
  | ((with_reducible apply g_listL); (focus walk_at "hp"); intro _ _ _ _ _)
  | ((with_reducible apply g_listT); (focus walk_at "hp"); intro _ _ _ _ _)
  | ((with_reducible apply g_tupL); (focus walk_at "hp"); intro _ _ _ _ _)
  | ((with_reducible apply g_sum); (focus walk_at "hp"))
  | with_reducible apply g_sfld
  | with_reducible apply g_sl
  | with_reducible apply g_nopart
  | with_reducible apply g_part
  | with_reducible apply g_kPart
  | with_reducible apply g_lstRg
  | with_reducible apply g_rg1
  | with_reducible apply g_kRg1
  | with_reducible apply g_bm
  | with_reducible apply gg_sub
  | ((with_reducible apply gg_tup); (focus walk_at "hp"); (focus rfl))
  | with_reducible apply gg_cons
  | with_reducible apply gg_nil
  | with_reducible apply g_forL
  | with_reducible apply g_forT
  | with_reducible apply g_forR1
  | with_reducible apply g_forR2
  | with_reducible apply g_forE
  | with_reducible apply g_forEL
  | ((with_reducible apply g_maxT); (focus walk_at "hp"); (focus walk_at "nn"))
  | ((with_reducible apply g_maxL); (focus walk_at "hp"); (focus walk_at "nn"))
  | ((with_reducible apply g_catA); (focus walk_at "hp"); (focus walk_at "hp"); (focus walk_at "sz"); intro _ _ _ _)
  | ((with_reducible apply g_slA); (focus walk_at "hp"); intro _ _ _ _)
  | ((with_reducible apply g_tupD); (focus walk_at "hp"); intro _ _ _ _ _)
  | ((with_reducible apply g_setL); (focus walk_at "hp"); (focus walk_at "ix"); intro _ _ _)
  | ((with_reducible apply g_append); (focus walk_at "hp"); (focus walk_at "sl"); intro _ _ _)
  | ((with_reducible apply g_aug); (focus rfl))
  | with_reducible apply g_ipI
  | with_reducible apply g_retN
  | with_reducible apply g_lcR1
  | with_reducible apply g_lcR2
  | with_reducible apply g_lcL
  | with_reducible apply g_lcU
  | with_reducible apply g_lcN
  | ((with_reducible apply g_kLcG); (focus rfl))
  | with_reducible apply g_yes
  | with_reducible apply g_kLcTT
  | with_reducible apply g_kLcTF
  | ((with_reducible apply g_kLcE); (focus walk_at "hp"); (focus walk_at "sl"); intro _ _ _)
  | ((with_reducible apply g_pow); (focus (constructor <;> (try constructor) <;> decide)))
  | ((with_reducible apply g_kLRg); (focus walk_at "rg"); intro _ _ _ _ _)
  | ((with_reducible apply g_cat); (focus walk_at "hp"); (focus walk_at "hp"); (focus walk_at "sz"); intro _ _ _ _ _)
  | ((with_reducible apply g_slL); (focus walk_at "hp"); intro _ _ _ _ _)
  | with_reducible apply g_bmT
  | with_reducible apply g_break
  | with_reducible apply g_cont)
local macro_rules | `(tactic| walk_at "g0") => `(tactic| try dsimp only [L2.cxOf, L2.Cx.nox, L2.Cx.wish])
local macro_rules | `(tactic| walk_at "yn") => `(tactic| first
  | ((with_reducible apply y_kIfS); (focus walk_at "tr"))
  | ((with_reducible apply n_kIfS); (focus walk_at "tr"))
  | ((with_reducible apply y_kOr); (focus walk_at "tr"))
  | ((with_reducible apply n_kOr); (focus walk_at "tr"))
  | ((with_reducible apply y_kAnd); (focus walk_at "tr"))
  | ((with_reducible apply n_kAnd); (focus walk_at "tr"))
  | ((with_reducible apply y_kNot); (focus walk_at "tr"))
  | ((with_reducible apply n_kNot); (focus walk_at "tr"))
  | ((with_reducible apply y_kIf); (focus walk_at "tr"))
  | ((with_reducible apply n_kIf); (focus walk_at "tr"))
  | ((with_reducible apply y_kAndV); (focus walk_at "tr"))
  | ((with_reducible apply n_kAndV); (focus walk_at "tr"))
  | ((with_reducible apply y_kOrV); (focus walk_at "tr"))
  | ((with_reducible apply n_kOrV); (focus walk_at "tr"))
  | ((with_reducible apply y_kChain); (focus walk_at "tr"))
  | ((with_reducible apply n_kChain); (focus walk_at "tr"))
  | ((with_reducible apply y_kLcT); (focus walk_at "tr"))
  | ((with_reducible apply n_kLcT); (focus walk_at "tr"))
  | ((with_reducible apply y_kWh); (focus walk_at "tr"))
  | ((with_reducible apply n_kWh); (focus walk_at "tr")))
local macro_rules | `(tactic| walk_at "go") => `(tactic| repeat (first | walk_at "g1" | walk_at "yn"))
local macro_rules | `(tactic| walk_at "hp") => `(tactic| first
  | ((with_reducible apply RingIn.ex); (focus walk_at "as"); walk_at "hp")
  | ((with_reducible apply RingAt.ex); (focus walk_at "as"); walk_at "hp")
  | ((with_reducible apply RingIn.exb); (focus walk_at "as"); (focus walk_at "hp"); walk_at "hp")
  | ((with_reducible apply RingAt.exb); (focus walk_at "as"); (focus walk_at "hp"); walk_at "hp")
  | ((with_reducible apply TupK.ex); (focus walk_at "as"); walk_at "hp")
  | ((with_reducible apply TupK.exb); (focus walk_at "as"); (focus walk_at "hp"); walk_at "hp"))
local macro_rules | `(tactic| walk_at "lk") => `(tactic| first | with_reducible exact rf_spans | with_reducible exact rf_heaps | with_reducible exact rf_total | with_reducible exact rf_nr | with_reducible exact rf_wd)
local macro_rules | `(tactic| walk_at "sp") => `(tactic| first
  | ((with_reducible apply g_isiTup); (focus walk_at "hp"))
  | ((with_reducible apply g_isiLst); (focus walk_at "hp"))
  | ((with_reducible apply g_isint); (focus omega); (focus omega))
  | ((with_reducible apply g_checkn); (focus omega); (focus omega))
  | ((with_reducible apply g_rbooks); (focus walk_at "hp"))
  | ((with_reducible apply g_rpace); (focus walk_at "hp"); intro _ _ _ _)
  | ((with_reducible apply g_rlen); (focus walk_at "hp"))
  | ((with_reducible apply g_rneed); (focus walk_at "hp"); (focus omega))
  | ((with_reducible apply g_rneedM); (focus walk_at "hp"))
  | ((with_reducible apply g_rwithM); (focus walk_at "hp"))
  | ((with_reducible apply g_rspans); (focus walk_at "hp"); (focus with_reducible assumption))
  | ((with_reducible apply g_rheaps); (focus walk_at "hp"); (focus with_reducible assumption))
  | ((with_reducible apply g_rtotal); (focus walk_at "hp"); (focus with_reducible assumption)))

/-- a course made: its first settled reading -/
def SetF (ds hs : List Int) (F : Nat) : Prop := (∀ n, F ≤ n → ShR ds hs n) ∧ (F = 0 ∨ ¬ ShR ds hs (F - 1))
structure CrsAt (K : PySem.W.Frag) (C CC : Addr) (H : Hp) (c r a b Rw : Addr) (ds hs : List Int) (L F : Nat) : Prop where
  obj : ∃ dx fs, H c = some (.ins CC dx (putF "first" (.int (F : Int)) fs)) ∧ CF r Rw ds.length (evN ds hs) (shN ds hs) fs ∧ fs.length ≤ 10
  ring : RingIn K C H r a b ds hs
  rows : RowsAt H Rw ds hs L
  le : F + evN ds hs ≤ L ∧ L ≤ 900
theorem CF.first {r Rw : Addr} {N e : Nat} {s : Int} {fs : List (Str × V)} {v : V} (h : CF r Rw N e s fs) : CF r Rw N e s (putF "first" v fs) := by
  obtain ⟨h1, h2, h3, h4, h5, h6, h7, h8, h9, h10⟩ := h
  refine ⟨?_, ?_, ?_, ?_, ?_, ?_, ?_, ?_, ?_, ?_⟩
  all_goals (rw [lookup_putF, if_neg (by decide +kernel)]; assumption)
theorem putF_putF (f : Str) (u v : V) : ∀ fs : List (Str × V), putF f v (putF f u fs) = putF f v fs
  | [] => by
    show (if f = f then _ else _) = _
    rw [if_pos rfl]
    rfl
  | (k, x) :: t => by
    show putF f v (if k = f then (k, u) :: t else (k, x) :: putF f u t) = if k = f then (k, v) :: t else (k, x) :: putF f v t
    by_cases h : k = f
    · rw [if_pos h, if_pos h]
      show (if k = f then _ else _) = _
      rw [if_pos h]
    · rw [if_neg h, if_neg h]
      show (if k = f then _ else _) = _
      rw [if_neg h, putF_putF f u v t]
section
variable {K : PySem.W.Frag} {C CC : Addr} {H H' : Hp} {c r a b Rw l : Addr} {ds hs : List Int} {L F : Nat} {ys : List V} {Q : VK} {E : XK} {tr : TA} {σ : L2.St} {sp : Sp}
theorem CrsAt.into (R : CrsAt K C CC H c r a b Rw ds hs L F) : CrsIn K C CC H c r a b Rw ds hs L := ⟨let ⟨dx, fs, h, f, _⟩ := R.obj; ⟨dx, _, h, f.first⟩, R.ring, R.rows⟩
theorem CrsAt.ex (e : Ex H H') (R : CrsAt K C CC H c r a b Rw ds hs L F) : CrsAt K C CC H' c r a b Rw ds hs L F := ⟨let ⟨dx, fs, h, f⟩ := R.obj; ⟨dx, fs, e _ _ h, f⟩, R.ring.ex e, R.rows.ex e, R.le⟩
theorem g_cfirst (R : CrsAt K C CC H c r a b Rw ds hs L F) (k : CourseC K CC) (q : Q (.int (F : Int)) H) : kFld K "first" Q (.ref c) H := let ⟨dx, fs, h, f, _⟩ := R.obj; g_kFld h k.cl k.n6 (by rw [lookup_putF, if_pos rfl]) q
theorem g_cmNext (R : CrsIn K C CC H c r a b Rw ds hs L) (q : tr σ H fun vs H2 => sp (.ref c :: vs) H2 Q E) : kMeth CC "next_row" sp E tr σ Q (.ref c) H := let ⟨dx, fs, h, f⟩ := R.obj; g_kMeth h f.m1 q
theorem g_cmShifted (R : CrsIn K C CC H c r a b Rw ds hs L) (q : tr σ H fun vs H2 => sp (.ref c :: vs) H2 Q E) : kMeth CC "is_shifted" sp E tr σ Q (.ref c) H := let ⟨dx, fs, h, f⟩ := R.obj; g_kMeth h f.m2 q
theorem g_cmSettled (R : CrsIn K C CC H c r a b Rw ds hs L) (q : tr σ H fun vs H2 => sp (.ref c :: vs) H2 Q E) : kMeth CC "is_settled" sp E tr σ Q (.ref c) H := let ⟨dx, fs, h, f⟩ := R.obj; g_kMeth h f.m3 q
theorem g_cmEnd (R : CrsIn K C CC H c r a b Rw ds hs L) (q : tr σ H fun vs H2 => sp (.ref c :: vs) H2 Q E) : kMeth CC "end" sp E tr σ Q (.ref c) H := let ⟨dx, fs, h, f⟩ := R.obj; g_kMeth h f.m4 q
theorem g_cmArrival (R : CrsIn K C CC H c r a b Rw ds hs L) (q : tr σ H fun vs H2 => sp (.ref c :: vs) H2 Q E) : kMeth CC "arrival" sp E tr σ Q (.ref c) H := let ⟨dx, fs, h, f⟩ := R.obj; g_kMeth h f.m5 q
theorem evN_pos (O : RingOk ds hs) : 1 ≤ evN ds hs ∧ evN ds hs ≤ 12 := by
  have := O.one
  have := O.twelve
  unfold evN
  split <;> omega
theorem shN_bd (O : RingOk ds hs) : 1 ≤ shN ds hs ∧ shN ds hs ≤ 240 := by
  have := O.days.mx
  have := O.days.sum
  unfold shN
  split <;> omega
theorem ShR_late (O : RingOk ds hs) {n : Nat} (h : 360 ≤ n) : ShR ds hs n := by
  have G := O.rg
  have o1 := O.one
  have o2 := O.twelve
  have om := O.days.mx
  have eB : ((hs.sum.toNat : Nat) : Int) = hs.sum := by omega
  unfold ShR evN shN
  by_cases hc : ds.sum ≤ mx ds * hs.sum
  · rw [if_pos hc, if_pos hc]
    refine slow_shift G (by rw [eB]; exact hc) (by omega) ?_
    rw [eB]
    have h1 : mx ds * hs.sum ≤ 30 * hs.sum := Int.mul_le_mul_of_nonneg_right (by omega) (by omega)
    omega
  · rw [if_neg hc, if_neg hc]
    exact quick_shift G (by rw [eB]; omega) (by omega)
theorem row_ne {i : Nat} {p : Addr} {ps : List Addr} (O : RingOk ds hs) (h : H p = some (.lst ((rowX ds hs i).map V.int))) (hw : H Rw = some (.lst (ps.map V.ref))) : p ≠ Rw := by
  intro z
  rw [z, hw] at h
  have e : ps.map V.ref = (rowX ds hs i).map V.int := by
    injection h with h
    injection h
  have hl := congrArg List.length e
  rw [List.length_map, List.length_map, rowX_len] at hl
  have h0 := congrArg (fun t : List V => t[0]?) e
  have h2 := O.two
  simp only [List.getElem?_map] at h0
  rw [rowX_get (by omega), List.getElem?_eq_getElem (by omega)] at h0
  cases h0
/-- a row appended -/
theorem RowsAt.app {p : Addr} {ps : List Addr} (O : RingOk ds hs) (hw : H Rw = some (.lst (ps.map V.ref))) (hr : ∀ (i : Nat) (q : Addr), ps[i]? = some q → H q = some (.lst ((rowX ds hs i).map V.int))) (hp : H p = some (.lst ((rowX ds hs ps.length).map V.int)))
    (e : Exb Rw H H') (hw' : H' Rw = some (.lst (ps.map V.ref ++ [.ref p]))) : RowsAt H' Rw ds hs (ps.length + 1) := by
  refine ⟨ps ++ [p], by rw [hw', List.map_append]; rfl, by rw [List.length_append]; rfl, fun i q hq => ?_⟩
  by_cases z : i < ps.length
  · rw [List.getElem?_append_left z] at hq
    exact e _ _ (row_ne O (hr i q hq) hw) (hr i q hq)
  · rw [List.getElem?_append_right (by omega)] at hq
    have hl : i = ps.length := by
      have := (List.getElem?_eq_some_iff.mp hq).1
      simp only [List.length_cons, List.length_nil] at this
      omega
    subst hl
    rw [Nat.sub_self] at hq
    cases hq
    exact e _ _ (row_ne O hp hw) hp
end
local macro_rules | `(tactic| walk_at "hp") => `(tactic| first
  | ((with_reducible apply CrsIn.ex); (focus walk_at "as"); walk_at "hp")
  | ((with_reducible apply RowsAt.ex); (focus walk_at "as"); walk_at "hp"))
local macro_rules | `(tactic| walk_at "sp") => `(tactic| first
  | ((with_reducible apply g_crows); (focus walk_at "hp"); (focus with_reducible assumption))
  | ((with_reducible apply g_csize); (focus walk_at "hp"); (focus with_reducible assumption))
  | ((with_reducible apply g_cevery); (focus walk_at "hp"); (focus with_reducible assumption))
  | ((with_reducible apply g_cshift); (focus walk_at "hp"); (focus with_reducible assumption))
  | ((with_reducible apply g_cring); (focus walk_at "hp"); (focus with_reducible assumption))
  | ((with_reducible apply g_cfirst); (focus walk_at "hp"); (focus with_reducible assumption))
  | ((with_reducible apply g_clen); (focus walk_at "hp"))
  | ((with_reducible apply g_cmShifted); (focus walk_at "hp"))
  | ((with_reducible apply g_cmSettled); (focus walk_at "hp"))
  | ((with_reducible apply g_cmNext); (focus walk_at "hp"))
  | ((with_reducible apply g_cmEnd); (focus walk_at "hp"))
  | ((with_reducible apply g_cmArrival); (focus walk_at "hp")))

section
variable {P : Program} {w : World} {K : PySem.W.Frag} {mg : Str → Option Value} {base : Heap} {C CC : Addr}
def sp_is_shifted (K : PySem.W.Frag) (C CC : Addr) : Sp := fun vs H Q _ => ∃ (c r a b Rw : Addr) (ds hs : List Int) (L n : Nat), vs = [.ref c, .int (n : Int)] ∧ CrsIn K C CC H c r a b Rw ds hs L ∧ n + evN ds hs < L ∧ ∀ (v : Bool) H', Ex H H' → (v = true ↔ ShR ds hs n) → Q (.bl v) H'
theorem ok_is_shifted (Z : Blt mg) (RC : CourseC K CC) (G : CFun K CC "is_shifted" "Course.is_shifted" s_Course_is_shifted) : Mf P w K mg base CC 1 "is_shifted" ["self", "number"] (sp_is_shifted K C CC) := by
  refine Mf.of G sc_Course_is_shifted b_Course_is_shifted (fun vs H Q E h => ?_) (fun f cdv A outer s H vs Q E hr h => ?_)
  · obtain ⟨c, r, a, b, Rw, ds, hs, L, n, rfl, _⟩ := h
    rfl
  · obtain ⟨c, r, a, b, Rw, ds, hs, L, n, rfl, CI, hL, q⟩ := h
    have RW := CI.rows
    refine ⟨_, PSs.nox (pss_cons (ps_par (i := 2) (j := 3) rfl sc_Course_is_shifted.nd rfl rfl (by decide) rfl rfl (pa_cons (pe_ix ix_list (pe_fld (pv 0) rfl) (pv 1) (fun _ _ => rfl)) (pa_cons (pe_ix ix_list (pe_fld (pv 0) rfl) (pe_op op_add (pv 1) (pe_fld (pv 0) rfl)) (fun _ _ => rfl)) pa_nil)) (by rfl))
      (pss_one (ps_ret (pe_cmpR (op_eqD hr.units) (pe_lc (own := [("end", 4)]) rfl sc_Course_is_shifted.nd (pi_list (pv 2)) (blkOk_by (N := N_Course_is_shifted) (sc := defScope s_Course_is_shifted) (by decide +kernel)) (fun _ _ _ _ _ => (pg_name (i := 4) sc_Course_is_shifted.nd rfl (by first | exact Or.inl rfl | exact Or.inr rfl))) (fun _ _ _ _ _ => pts_nil) (fun _ _ _ _ _ => (pe_op op_add (pv 4) (pe_fldK K (pv 0) rfl)))) (pv 3) (nomark _))))), ?_⟩
    walk_at "g0"
    walk_at "go"
    refine g_crow RW (ixN_nat' (by omega : n < L)) fun p1 hp1 => ?_
    walk_at "go"
    refine g_crow (i := n + evN ds hs) RW (ixN_int' (by omega) hL) fun p2 hp2 => ?_
    walk_at "go"
    refine g_kLcL (SqL.of hp1) (fun A i H' => Ex H H' ∧ H' A = some (.lst ((((rowX ds hs n).take i).map fun x => x + shN ds hs).map V.int))) (fun A H1 nA e1 hA => ⟨e1, hA⟩) (fun A i H1 _ _ h => ex_l h.1 (SqL.of hp1)) ?_ ?_
    · rintro A i v H1 nA hv ⟨e1, hA⟩
      obtain ⟨x, rfl, hx, hm, hi⟩ := at_int hv
      have CI1 := CI.ex e1
      rw [rowX_len] at hi
      have o8 := CI.ring.ok.eight
      walk_at "go"
      refine g_kLcE hA (by rw [List.length_map, List.length_map, List.length_take]; exact lt1000 (by rw [rowX_len]; omega)) fun H2 e2 hA2 => ⟨Exb.ex nA e1 e2, ?_⟩
      rw [hA2, map_app, List.take_add_one, hx, List.map_append (l₂ := (some x).toList)]
      rfl
    · rintro A H1 nA ⟨e1, hA⟩
      rw [List.length_map, List.take_length] at hA
      have hp21 := e1 _ _ hp2
      walk_at "go"
      refine g_eqLI (SqL.of hA) (SqL.of hp21) ?_
      exact q _ H1 e1 (by rw [decide_eq_true_iff]; exact rowX_shift)
def sp_is_settled (K : PySem.W.Frag) (C CC : Addr) : Sp := fun vs H Q _ => ∃ (c r a b Rw : Addr) (ds hs : List Int) (L : Nat), vs = [.ref c] ∧ CrsIn K C CC H c r a b Rw ds hs L ∧ L ≤ 900 ∧
  ∀ (v : Bool) H', Ex H H' → (v = true ↔ evN ds hs + hs.sum.toNat ≤ L ∧ ∀ m, L - evN ds hs - hs.sum.toNat ≤ m → m < L - evN ds hs → ShR ds hs m) → Q (.bl v) H'
theorem ok_is_settled (Z : Blt mg) (R : RingC K C) (RC : CourseC K CC) (M_Course_is_shifted : Mf P w K mg base CC 1 "is_shifted" ["self", "number"] (sp_is_shifted K C CC)) (G : CFun K CC "is_settled" "Course.is_settled" s_Course_is_settled) :
    Mf P w K mg base CC 3 "is_settled" ["self"] (sp_is_settled K C CC) := by
  refine Mf.of G sc_Course_is_settled b_Course_is_settled (fun vs H Q E h => ?_) (fun f cdv A outer s H vs Q E hr h => ?_)
  · obtain ⟨c, r, a, b, Rw, ds, hs, L, rfl, _⟩ := h
    rfl
  · obtain ⟨c, r, a, b, Rw, ds, hs, L, rfl, CI, hL, q⟩ := h
    have cl_Ring := R.cl
    have cl_Course := RC.cl
    have RI := CI.ring
    have RW := CI.rows
    have O := RI.ok
    have o1 := O.one
    have o2 := O.twelve
    have ev := evN_pos O
    refine ⟨_, PSs.nox (pss_cons (ps_set (i := 1) sc_Course_is_settled.nd rfl (by first | exact Or.inl rfl | exact Or.inr rfl) (pe_op op_sub (pe_callB c_len (by rfl) Z.zlen PySem.boot_len (pa_cons (pe_fld (pv 0) rfl) pa_nil)) (pe_fld (pv 0) rfl)))
      (pss_cons (ps_if (pt_cmpR op_lt (pv 1) (pe_fld (pe_fld (pv 0) rfl) rfl) (nomark _)) (pss_one (ps_ret pe_bl)) pss_nil)
      (pss_one (ps_ret (pe_callB (cr_all rfl) (by rfl) Z.zall (by decide +kernel) (pa_cons (pe_lc (own := [("number", 2)]) rfl sc_Course_is_settled.nd (pi_range2 (by rfl) Z.zrange (pa_cons (pe_op op_sub (pv 1) (pe_fld (pe_fld (pv 0) rfl) rfl)) (pa_cons (pv 1) pa_nil))) (blkOk_by (N := N_Course_is_settled) (sc := defScope s_Course_is_settled) (by decide +kernel)) (fun _ _ _ _ _ => (pg_name (i := 2) sc_Course_is_settled.nd rfl (by first | exact Or.inl rfl | exact Or.inr rfl))) (fun _ _ _ _ _ => pts_nil) (fun _ _ _ _ _ => (pm (pv 0) cl_Course M_Course_is_shifted hr (pa_cons (pv 2) pa_nil)))) pa_nil)))))), ?_⟩
    walk_at "g0"
    walk_at "go"
    refine g_kIfS (fun h => ?_) (fun h => ?_)
    · have h := of_decide_eq_true h
      walk_at "go"
      exact q _ H (Ex.refl _) ⟨(fun z => by cases z), (fun z => by omega)⟩
    · have h := of_decide_eq_false h
      walk_at "go"
      have elo : ∀ i : Nat, (L : Int) - (evN ds hs : Nat) - hs.sum + (i : Int) = ((L - evN ds hs - hs.sum.toNat + i : Nat) : Int) := fun i => by omega
      refine g_kLcR2 ⟨by omega, by omega, by omega, by omega⟩ (fun A i H' => ∃ bs : List Bool, Ex H H' ∧ H' A = some (.lst (bs.map V.bl)) ∧ bs.length = i ∧ ∀ (j : Nat) (v : Bool), bs[j]? = some v → (v = true ↔ ShR ds hs (L - evN ds hs - hs.sum.toNat + j))) (fun A H1 nA e1 hA => ⟨[], e1, hA, rfl, fun j v h => by cases h⟩) ?_ ?_
      · rintro A i H1 nA hi ⟨bs, e1, hA, rfl, hbs⟩
        have CI1 := CI.ex e1
        rw [elo]
        walk_at "go"
        refine ⟨c, r, a, b, Rw, ds, hs, L, _, rfl, CI1, by omega, fun v H2 e2 hv => ?_⟩
        refine g_kLcE (e2 _ _ hA) (by rw [List.length_map]; exact lt1000 (by omega)) fun H3 e3 hA3 => ⟨bs ++ [v], Exb.ex nA (e1.trans e2) e3, by rw [hA3, List.map_append]; rfl, by rw [List.length_append]; rfl, fun j u hu => ?_⟩
        by_cases z : j < bs.length
        · rw [List.getElem?_append_left z] at hu
          exact hbs j u hu
        · rw [List.getElem?_append_right (by omega)] at hu
          have hl : j = bs.length := by
            have := (List.getElem?_eq_some_iff.mp hu).1
            simp only [List.length_cons, List.length_nil] at this
            omega
          subst hl
          rw [Nat.sub_self] at hu
          cases hu
          exact hv
      · rintro A H1 nA ⟨bs, e1, hA, hbl, hbs⟩
        walk_at "go"
        refine ⟨A, bs, rfl, SqL.of hA, q _ H1 e1 ⟨fun hall => ⟨by omega, fun m h1 h2 => ?_⟩, fun ⟨_, hall⟩ => ?_⟩⟩
        · have hj : m - (L - evN ds hs - hs.sum.toNat) < bs.length := by omega
          have h3 := List.all_eq_true.mp hall _ (List.getElem_mem hj)
          have h4 := (hbs _ _ (List.getElem?_eq_getElem hj)).mp h3
          rw [show L - evN ds hs - hs.sum.toNat + (m - (L - evN ds hs - hs.sum.toNat)) = m by omega] at h4
          exact h4
        · refine List.all_eq_true.mpr fun v hv => ?_
          obtain ⟨j, hj, e⟩ := List.getElem_of_mem hv
          exact (hbs j v (by rw [List.getElem?_eq_getElem hj, e])).mpr (hall _ (by omega) (by omega))
def sp_Course_init (K : PySem.W.Frag) (C CC : Addr) : Sp := fun vs H Q _ => ∃ (c r a b dx : Addr) (ds hs : List Int), vs = [.ref c, .ref r] ∧ H c = some (.ins CC dx []) ∧ RingIn K C H r a b ds hs ∧
  ∀ Rw L F H', Exb c H H' → CrsAt K C CC H' c r a b Rw ds hs L F → SetF ds hs F → Q .non H'
theorem RingIn.exI {H H' : Hp} {l r a b CX dx : Addr} {fs : List (Str × V)} {ds hs : List Int} (e : Exb l H H') (hl : H l = some (.ins CX dx fs)) (ne : r ≠ l) (R : RingIn K C H r a b ds hs) : RingIn K C H' r a b ds hs :=
  ⟨let ⟨dx, h⟩ := R.obj; ⟨dx, e _ _ ne h⟩, exb_ti e hl R.sp, exb_ti e hl R.hp, R.ok⟩
theorem g_fldaug {H : Hp} {σ : L2.St} {f : Str} {ta tv : TE} {rd : V → V → Hp → VK → Prop} {D : Ends} (q : ta σ H fun x H1 => ∃ a C dx fs v, x = .ref a ∧ H1 a = some (.ins C dx fs) ∧ Cls K C ∧ NoAttr K C f ∧ fs.lookup f = some v ∧
  tv σ H1 fun y H2 => rd v y H2 fun z H3 => ∃ dx' fs', H3 a = some (.ins C dx' fs') ∧ fs'.length < 1000 ∧ D.nx σ (upd H3 a (.ins C dx' (putF f z fs')))) : sFldAug K ta tv rd f D σ H := q
theorem lenp {f : Str} {v : V} {fs : List (Str × V)} {k : Nat} (h : fs.length ≤ k) : (putF f v fs).length ≤ k + 1 := Nat.le_trans (length_putF _ _ _) (Nat.succ_le_succ h)
theorem len0 : ([] : List (Str × V)).length ≤ 0 := Nat.le_refl _
theorem lt_of_lenp {n k : Nat} (h : n ≤ k) (hk : Nat.blt k 1000 = true) : n < 1000 := Nat.lt_of_le_of_lt h (by simpa [Nat.blt_eq] using hk)
theorem g_kIfQX {ta tb : TE} {σ : L2.St} {Q : VK} {c : Bool} {H : Hp} (v : V) (h1 : c = true → ∀ Q' : VK, (∀ H', Ex H H' → Q' v H') → ta σ H Q') (h2 : c = false → ∀ Q' : VK, (∀ H', Ex H H' → Q' v H') → tb σ H Q') (q : ∀ H', Ex H H' → Q v H') : kIf ta tb σ Q c H := g_kIf (fun h => h1 h Q q) (fun h => h2 h Q q)
theorem cf_make {r Rw : Addr} {N e : Nat} {s : Int} : CF r Rw N e s (putF "rows" (.ref Rw) (putF "shift" (.int s) (putF "every" (.int (e : Int)) (putF "size" (.int (N : Int)) (putF "ring" (.ref r) []))))) := by
  refine ⟨?_, ?_, ?_, ?_, ?_, ?_, ?_, ?_, ?_, ?_⟩
  all_goals (repeat (first | rw [lookup_putF, if_pos rfl] | rw [lookup_putF, if_neg (by decide +kernel)]))
  all_goals rfl
theorem ok_Course_init (Z : Blt mg) (R : RingC K C) (RC : CourseC K CC) (M_Course_is_settled : Mf P w K mg base CC 3 "is_settled" ["self"] (sp_is_settled K C CC)) (M_Course_is_shifted : Mf P w K mg base CC 1 "is_shifted" ["self", "number"] (sp_is_shifted K C CC))
    (M_Course_next_row : Mf P w K mg base CC 1 "next_row" ["self"] (sp_next_row K C CC)) (G : IFun K mg "Course" CC "Course.__init__" s_Course___init__) : If P w K mg base "Course" CC 5 ["self", "ring"] (sp_Course_init K C CC) := by
  refine If.of G sc_Course___init__ b_Course___init__ (fun vs H Q E h => ?_) (fun f cdv A outer s H vs Q E hr h => ?_)
  · obtain ⟨c, r, a, b, dx, ds, hs, rfl, _⟩ := h
    rfl
  · obtain ⟨c, r, a, b, dx, ds, hs, rfl, hc, RI, q⟩ := h
    have cl_Ring := R.cl
    have cl_Course := RC.cl
    have O := RI.ok
    have o1 := O.one
    have o2 := O.twelve
    have o8 := O.eight
    have hne := O.days.ne
    have ev := evN_pos O
    have om := O.days.mx
    have nrc : r ≠ c := by
      obtain ⟨dr, hr⟩ := RI.obj
      intro z
      rw [z, hc] at hr
      cases hr
    have hS := RI.sp
    refine ⟨_, PSs.nox (pss_cons (ps_fld (pv 0) (pv 1) rfl)
      (pss_cons (ps_fld (pv 0) (pe_callB c_len (by rfl) Z.zlen PySem.boot_len (pa_cons (pe_fld (pv 1) rfl) pa_nil)) rfl)
      (pss_cons (ps_set (i := 2) sc_Course___init__.nd rfl (by first | exact Or.inl rfl | exact Or.inr rfl) (pe_cmpR op_ge (pe_op op_mul (pe_callB (cr_maxT rfl hr.units) (by rfl) Z.zmax (by decide +kernel) (pa_cons (pe_fld (pv 1) rfl) pa_nil)) (pe_fld (pv 1) rfl)) (pe_callB (cr_sum rfl) (by rfl) Z.zsum (by decide +kernel) (pa_cons (pe_callTy c_list_of (by rfl) Z.zlist (by decide +kernel) (pa_cons (pe_fld (pv 1) rfl) pa_nil)) pa_nil)) (nomark _)))
      (pss_cons (ps_fld (pv 0) (pe_ifExp (pt_val (pv 2)) pe_int (pe_fld (pv 1) rfl)) rfl)
      (pss_cons (ps_fld (pv 0) (pe_ifExp (pt_val (pv 2)) (pe_callB (cr_maxT rfl hr.units) (by rfl) Z.zmax (by decide +kernel) (pa_cons (pe_fld (pv 1) rfl) pa_nil)) (pe_callB (cr_sum rfl) (by rfl) Z.zsum (by decide +kernel) (pa_cons (pe_callTy c_list_of (by rfl) Z.zlist (by decide +kernel) (pa_cons (pe_fld (pv 1) rfl) pa_nil)) pa_nil))) rfl)
      (pss_cons (ps_fld (pv 0) (pe_lst pa_nil) rfl)
      (pss_cons (ps_while PassesOwn.never (pt_not (pt_val (pm0 (pv 0) cl_Course M_Course_is_settled hr))) (pss_one (ps_expr (pe_bm PySem.F.plainAttrs_list PySem.F.slot_list_append PySem.F.type_list_append mt_append (pe_fld (pv 0) rfl) (pa_cons (pm0 (pv 0) cl_Course M_Course_next_row hr) pa_nil)))))
      (pss_cons (ps_fld (pv 0) (pe_op op_sub (pe_callB c_len (by rfl) Z.zlen PySem.boot_len (pa_cons (pe_fld (pv 0) rfl) pa_nil)) (pe_fld (pv 0) rfl)) rfl)
      (pss_one (ps_while PassesOwn.never (PW.pt (pw_and (pt_cmpR op_gt (pe_fld (pv 0) rfl) pe_int (nomark _)) (pw_and1 (pt_val (pm (pv 0) cl_Course M_Course_is_shifted hr (pa_cons (pe_op op_sub (pe_fld (pv 0) rfl) pe_int) pa_nil)))))) (pss_one (ps_fldaug (pv 0) pe_int in_sub)))))))))))), ?_⟩
    walk_at "g0"
    walk_at "go"
    refine g_kSFld hc cl_Course RC.n1 (by decide) fun H1 e1 hc1 => ?_
    have RI1 := RI.exI e1 hc nrc
    have hS1 := RI1.sp
    walk_at "go"
    refine g_kSFld hc1 cl_Course RC.n2 (lt_of_lenp (lenp len0) rfl) fun H2 e2 hc2 => ?_
    have RI2 := RI1.exI e2 hc1 nrc
    have hS2 := RI2.sp
    walk_at "go"
    rename_i l3 H3 n3 e3 hl3
    have RI3 := RI2.ex e3
    have hS3 := RI3.sp
    have hc3 := e3 _ _ hc2
    walk_at "go"
    refine g_kIfQ (.int (evN ds hs : Nat)) (fun h Q' q' => ?_) (fun h Q' q' => ?_) ?_
    · have h := of_decide_eq_true h
      have e : evN ds hs = 1 := if_pos h
      rw [e] at q'
      exact q'
    · have h := of_decide_eq_false h
      have e : evN ds hs = hs.sum.toNat := if_neg h
      have e' : ((evN ds hs : Nat) : Int) = hs.sum := by omega
      rw [e'] at q'
      walk_at "go"
      exact q'
    walk_at "go"
    refine g_kSFld hc3 cl_Course RC.n3 (lt_of_lenp (lenp (lenp len0)) rfl) fun H4 e4 hc4 => ?_
    have RI4 := RI3.exI e4 hc3 nrc
    have hS4 := RI4.sp
    walk_at "go"
    refine g_kIfQX (.int (shN ds hs)) (fun h Q' q' => ?_) (fun h Q' q' => ?_) fun H5 e5 => ?_
    · have h := of_decide_eq_true h
      have e : shN ds hs = mx ds := if_pos h
      rw [e] at q'
      walk_at "go"
      exact q' _ (Ex.refl _)
    · have h := of_decide_eq_false h
      have e : shN ds hs = ds.sum := if_neg h
      rw [e] at q'
      walk_at "go"
      rename_i l5 H5 n5 e5 hl5
      exact q' _ e5
    have RI5 := RI4.ex e5
    have hc5 := e5 _ _ hc4
    walk_at "go"
    refine g_kSFld hc5 cl_Course RC.n4 (lt_of_lenp (lenp (lenp (lenp len0))) rfl) fun H6 e6 hc6 => ?_
    have RI6 := RI5.exI e6 hc5 nrc
    walk_at "go"
    rename_i Rw H7 nw e7 hw7
    have hc7 := e7 _ _ hc6
    have RI7 := RI6.ex e7
    have hrw : Rw ≠ c := Ne.symm (ne_of_none hc6 nw)
    have nw0 : H Rw = none := by
      cases hz : H Rw with
      | none => rfl
      | some o => rw [e6 _ _ hrw (e5 _ _ (e4 _ _ hrw (e3 _ _ (e2 _ _ hrw (e1 _ _ hrw hz)))))] at nw; cases nw
    refine g_kSFld hc7 cl_Course RC.n5 (lt_of_lenp (lenp (lenp (lenp (lenp len0)))) rfl) fun H8 e8 hc8 => ?_
    have RI8 := RI7.exI e8 hc7 nrc
    have hw8 := e8 _ _ hrw hw7
    have e08 : Exb c H H8 := (((((((e1.trans e2).trans (Exb.of e3)).trans e4).trans (Exb.of e5)).trans e6).trans (Exb.of e7)).trans e8)
    generalize hfs : putF "rows" (V.ref Rw) _ = fs at hc8
    have hcf : CF r Rw ds.length (evN ds hs) (shN ds hs) fs := by rw [← hfs]; exact cf_make
    have hfl : fs.length ≤ 5 := by rw [← hfs]; exact lenp (lenp (lenp (lenp (lenp len0))))
    clear hfs
    generalize (decide (ds.sum ≤ mx ds * hs.sum)) = slow
    walk_at "go"
    refine g_while (fun m σ H' => ∃ (ps : List Addr), σ = [some (.ref c), some (.ref r), some (.bl slow)] ∧ Exb c H H' ∧ H' c = some (.ins CC dx fs) ∧ RingIn K C H' r a b ds hs ∧ (H' Rw = some (.lst (ps.map V.ref)) ∧ ∀ (i : Nat) (p : Addr), ps[i]? = some p → H' p = some (.lst ((rowX ds hs i).map V.int))) ∧ ps.length ≤ 400 ∧ m = 1000 - ps.length) 1000
      ⟨[], rfl, e08, hc8, RI8, ⟨hw8, fun i p h => by cases h⟩, by simp, rfl⟩ ?_
    rintro m σ H9 ⟨ps, rfl, e9, hc9, RI9, ⟨hw9, hr9⟩, hpl, rfl⟩
    have CI9 : CrsIn K C CC H9 c r a b Rw ds hs ps.length := ⟨⟨dx, fs, hc9, hcf⟩, RI9, ⟨ps, hw9, rfl, hr9⟩⟩
    walk_at "go"
    refine ⟨c, r, a, b, Rw, ds, hs, ps.length, rfl, CI9, by omega, fun v H10 e10 hv => ?_⟩
    walk_at "go"
    have CI10 := CI9.ex e10
    cases v with
    | false =>
      walk_at "go"
      refine g_kBM_list (SqL.of (e10 _ _ hw9)) ?_
      walk_at "go"
      refine ⟨c, r, a, b, Rw, ds, hs, ps.length, rfl, CI10, by omega, fun p H11 np e11 hp => ?_⟩
      walk_at "go"
      have e911 := e10.trans e11
      have hw11 := e911 _ _ hw9
      have hns : ¬ (evN ds hs + hs.sum.toNat ≤ ps.length ∧ ∀ m, ps.length - evN ds hs - hs.sum.toNat ≤ m → m < ps.length - evN ds hs → ShR ds hs m) := fun z => by
        have := hv.mpr z
        cases this
      have hlt : ps.length < 400 := by
        by_cases z : ps.length < 400
        · exact z
        · exact absurd ⟨by omega, fun m h1 _ => ShR_late O (by omega)⟩ hns
      rename_i H12 e12 hw12
      have happ := RowsAt.app O hw11 (fun i q hq => e911 _ _ (hr9 i q hq)) hp e12 hw12
      obtain ⟨ps2, w1, w2, w3⟩ := happ
      have hcw : c ≠ Rw := Ne.symm hrw
      exact ⟨1000 - ps2.length, by omega, ps2, rfl, Exb.ex2 nw0 (e9.trans (Exb.of e911)) e12, e12 _ _ hcw (e911 _ _ hc9), (RI9.ex e911).exb e12 hw11, ⟨w1, w3⟩, by omega, rfl⟩
    | true =>
      obtain ⟨hge, hall⟩ := hv.mp rfl
      have hc10 := e10 _ _ hc9
      have RI10 := RI9.ex e10
      have RW10 := CI10.rows
      walk_at "go"
      refine g_kSFld hc10 cl_Course RC.n6 (lt_of_lenp hfl rfl) fun H11 e11 hc11 => ?_
      have RI11 := RI10.exI e11 hc10 nrc
      have RW11 := RW10.exI e11 hc10
      have e011 := (e9.trans (Exb.of e10)).trans e11
      walk_at "go"
      refine g_while (fun m σ H' => ∃ (F : Nat), σ = [some (.ref c), some (.ref r), some (.bl slow)] ∧ Exb c H H' ∧ H' c = some (.ins CC dx (putF "first" (.int (F : Int)) fs)) ∧ RingIn K C H' r a b ds hs ∧ RowsAt H' Rw ds hs ps.length ∧ F + evN ds hs ≤ ps.length ∧ (∀ n, F ≤ n → n < ps.length - evN ds hs → ShR ds hs n) ∧ m = F) (ps.length - evN ds hs)
        ⟨ps.length - evN ds hs, rfl, e011, by rw [hc11, show ((ps.length : Int) - (evN ds hs : Nat)) = ((ps.length - evN ds hs : Nat) : Int) by omega], RI11, RW11, by omega, fun n h1 h2 => absurd h2 (by omega), rfl⟩ ?_
      rintro m σ H12 ⟨F, rfl, e12, hc12, RI12, RW12, hF, hsh, hmF⟩
      have CI12 : CrsIn K C CC H12 c r a b Rw ds hs ps.length := ⟨⟨dx, _, hc12, hcf.first⟩, RI12, RW12⟩
      have CA12 : CrsAt K C CC H12 c r a b Rw ds hs ps.length F := ⟨⟨dx, fs, hc12, hcf, by omega⟩, RI12, RW12, by omega, by omega⟩
      have fin : ∀ H', Ex H12 H' → (F = 0 ∨ ¬ ShR ds hs (F - 1)) → Q .non H' := fun H' e hz => by
        refine q Rw ps.length F H' (e12.trans (Exb.of e)) (CA12.ex e) ⟨?_, hz⟩
        refine Sh_all O.rg (lo := F) (hi := ps.length - evN ds hs) ?_ hsh
        by_cases y : F + hs.sum.toNat ≤ ps.length - evN ds hs
        · exact y
        · rcases hz with hz | hz
          · omega
          · exact absurd (hall (F - 1) (by omega) (by omega)) hz
      walk_at "go"
      refine g_kAnd (fun h => ?_) (fun h => ?_)
      · have h := of_decide_eq_true h
        have hF1 : (F : Int) - 1 = ((F - 1 : Nat) : Int) := by omega
        walk_at "go"
        rw [hF1]
        walk_at "go"
        refine ⟨c, r, a, b, Rw, ds, hs, ps.length, F - 1, rfl, CI12, by omega, fun u H13 e13 hu => ?_⟩
        have CA13 := CA12.ex e13
        cases u with
        | false =>
          walk_at "go"
          refine fin H13 e13 (.inr fun z => ?_)
          have := hu.mpr z
          cases this
        | true =>
          have hsF := hu.mp rfl
          have hc13 := e13 _ _ hc12
          walk_at "go"
          refine g_fldaug ?_
          walk_at "go"
          refine ⟨c, CC, dx, _, _, rfl, hc13, RC.cl, RC.n6, by rw [lookup_putF, if_pos rfl], ?_⟩
          walk_at "go"
          refine ⟨F, 1, rfl, rfl, dx, _, hc13, lt_of_lenp (lenp hfl) rfl, F - 1, by omega, F - 1, rfl, ?_, ?_, ?_, ?_, by omega, ?_, rfl⟩
          · exact (e12.trans (Exb.of e13)).trans Exb.upd
          · rw [upd_same, putF_putF, hF1]
          · exact (RI12.ex e13).exI (Exb.upd) hc13 nrc
          · exact (RW12.ex e13).exI (Exb.upd) hc13
          · intro n h1 h2
            by_cases z : n = F - 1
            · rw [z]; exact hsF
            · exact hsh n (by omega) h2
      · have h := of_decide_eq_false h
        walk_at "go"
        exact fin H12 (Ex.refl _) (.inl (by omega))
def sp_Course_end (K : PySem.W.Frag) (C CC : Addr) : Sp := fun vs H Q _ => ∃ (c r a b Rw : Addr) (ds hs : List Int) (L F k n : Nat), vs = [.ref c, .int (k : Int), .int (n : Int)] ∧ CrsAt K C CC H c r a b Rw ds hs L F ∧ SetF ds hs F ∧ k < ds.length ∧ ∀ H', Ex H H' → Q (.int (XR ds hs n k)) H'
theorem ok_Course_end (Z : Blt mg) (RC : CourseC K CC) (G : CFun K CC "end" "Course.end" s_Course_end) : Mf P w K mg base CC 1 "end" ["self", "reader", "number"] (sp_Course_end K C CC) := by
  refine Mf.of G sc_Course_end b_Course_end (fun vs H Q E h => ?_) (fun f cdv A outer s H vs Q E hr h => ?_)
  · obtain ⟨c, r, a, b, Rw, ds, hs, L, F, k, n, rfl, _⟩ := h
    rfl
  · obtain ⟨c, r, a, b, Rw, ds, hs, L, F, k, n, rfl, CA, hset, hk, q⟩ := h
    have CI := CA.into
    have RW := CI.rows
    have hle := CA.le
    have ev := evN_pos CI.ring.ok
    have sb := shN_bd CI.ring.ok
    refine ⟨_, PSs.nox (pss_cons (ps_if (pt_cmpR op_lt (pv 2) (pe_callB c_len (by rfl) Z.zlen PySem.boot_len (pa_cons (pe_fld (pv 0) rfl) pa_nil)) (nomark _)) (pss_one (ps_ret (pe_ix ix_list (pe_ix ix_list (pe_fld (pv 0) rfl) (pv 2) (fun _ _ => rfl)) (pv 1) (fun _ _ => rfl)))) pss_nil)
      (pss_cons (ps_asg (pe_callB c_divmod (by rfl) Z.zdivmod (by decide +kernel) (pa_cons (pe_op op_sub (pv 2) (pe_fld (pv 0) rfl)) (pa_cons (pe_fld (pv 0) rfl) pa_nil))) (pg_tup (by rfl) (pgs_cons (pg_name (i := 3) sc_Course_end.nd rfl (by first | exact Or.inl rfl | exact Or.inr rfl)) (pgs_cons (pg_name (i := 4) sc_Course_end.nd rfl (by first | exact Or.inl rfl | exact Or.inr rfl)) pgs_nil))))
      (pss_one (ps_ret (pe_op op_add (pe_ix ix_list (pe_ix ix_list (pe_fld (pv 0) rfl) (pe_op op_add (pe_fld (pv 0) rfl) (pv 4)) (fun _ _ => rfl)) (pv 1) (fun _ _ => rfl)) (pe_op op_mul (pv 3) (pe_fld (pv 0) rfl))))))), ?_⟩
    walk_at "g0"
    walk_at "go"
    refine g_kIfS (fun h => ?_) (fun h => ?_)
    · have h := of_decide_eq_true h
      walk_at "go"
      refine g_crow RW (ixN_nat' (by omega : n < L)) fun p hp => ?_
      walk_at "go"
      refine g_ixL (SqL.of hp) (rowX_at hk) ?_
      exact q H (Ex.refl _)
    · have h := of_decide_eq_false h
      walk_at "go"
      refine g_divmod ⟨by omega, by omega⟩ fun p H1 np e1 hp => ?_
      have CI1 := CI.ex e1
      have CA1 := CA.ex e1
      have RW1 := CI1.rows
      walk_at "go"
      have h1 := Int.mul_ediv_add_emod ((n : Int) - F) (evN ds hs : Nat)
      have h2 := Int.emod_nonneg ((n : Int) - F) (b := ((evN ds hs : Nat) : Int)) (by omega)
      have h3 := Int.emod_lt_of_pos ((n : Int) - F) (b := ((evN ds hs : Nat) : Int)) (by omega)
      have h4 : 0 ≤ ((n : Int) - F) / (evN ds hs : Nat) := Int.ediv_nonneg (by omega) (by omega)
      obtain ⟨t, ht⟩ : ∃ t : Nat, (t : Int) = ((n : Int) - F) / (evN ds hs : Nat) := ⟨(((n : Int) - F) / (evN ds hs : Nat)).toNat, by omega⟩
      obtain ⟨u, hu⟩ : ∃ u : Nat, (u : Int) = ((n : Int) - F) % (evN ds hs : Nat) := ⟨(((n : Int) - F) % (evN ds hs : Nat)).toNat, by omega⟩
      rw [← ht, ← hu] at h1
      rw [← hu] at h3
      rw [← ht, ← hu]
      refine g_crow (i := F + u) RW1 (ixN_int' (by omega) (by omega)) fun p2 hp2 => ?_
      walk_at "go"
      refine g_ixL (SqL.of hp2) (rowX_at hk) ?_
      walk_at "go"
      have e := Sh_rounds hset.1 hk t (F + u) (by omega)
      have e2 : F + u + t * evN ds hs = n := by
        have : ((evN ds hs : Nat) : Int) * (t : Int) = ((t * evN ds hs : Nat) : Int) := by rw [Int.natCast_mul, Int.mul_comm]
        omega
      rw [e2] at e
      have := q H1 e1
      rw [show XR ds hs n k = XR ds hs (F + u) k + t * shN ds hs from e] at this
      exact this
end
end G48

/-! own __call__, __getitem__ -/
namespace G48
open PySem PySem.Spec PyProof.Rows L2 Evl PySem.Calls
section
variable (P : Program) (w : World) (K : PySem.W.Frag) (mg : Str → Option Value) (base : Heap)
/-- a method called through the object itself -/
structure Cf (C : Addr) (k : Nat) (m : Str) (ps : List Str) (sp : Sp) : Prop where
  ex : ∃ f fd, Meth K C m f ∧ PySem.W.fnIn K f = true ∧ Binds K fd ps [] ∧ FnOk P w K mg base (L2.CX P w) k f fd ps sp
end
section
variable {P : Program} {w : World} {K : PySem.W.Frag} {mg : Str → Option Value} {base : Heap}
theorem fnIn_of {x q : Str} {st : Stmt} {f : Addr} {fd : FuncData} (F : Fun K x q st f fd) : PySem.W.fnIn K f = true := by
  obtain ⟨oc, od, kV, doc, pm, an, cdv, ct, osl, rfl, lk, hcd⟩ := F.ex
  unfold PySem.W.fnIn
  rw [lk]
theorem Cf.of {C : Addr} {m q : Str} {st : Stmt} {N ps : List Str} {k : Nat} {sp : Sp} (G : CFun K C m q st) (S : FnScope N ps (defScope st)) (hb : BindL q m st ps)
    (len : ∀ vs H Q E, sp vs H Q E → vs.length = ps.length) (body : ∀ f, Body P w K mg base q N st f k sp) : Cf P w K mg base C (k + 1) m ps sp := by
  obtain ⟨f, fd, hg, F⟩ := G.ex
  exact ⟨f, fd, hg, fnIn_of F, F.binds hb, F.okX S len (body f)⟩
end
def tCallO (C : Addr) (sp : Sp) (E : XK) (ta : TE) (t : TA) : TE := fun σ H Q => ta σ H fun x H1 => ∃ a, x = .ref a ∧ t σ H1 fun vs H2 => (∃ dx fs, H2 a = some (.ins C dx fs)) ∧ sp (.ref a :: vs) H2 Q E
def rItO (C : Addr) (sp : Sp) (E : XK) : R2 := fun x y H Q => ∃ a, x = .ref a ∧ (∃ dx fs, H a = some (.ins C dx fs)) ∧ sp [.ref a, y] H Q E
section
variable {X : Cx} {k j : Nat} {x : Str} {ps : List Str} {sp : Sp} {E : XK} {p pos : Pos} {e o i : Expr} {es : List Expr} {t : TA} {ta tb : TE} {C : Addr} {m : Str}
theorem own_callWith {M : Model} {A : Around} {EE : Value → Shared → Prop} {QQ : Value → Shared → Prop} {s : Shared} {a : Addr} {args : List (Bool × Sem Value)} {kws : List (Option Str × Sem Value)} (hp : (args.any (·.1) || kws.any (·.1.isNone)) = false)
    (h : wpAny M A (evalArgs (.ref a) true args kws) (fun u s1 => (∃ ox, s1.heap.get? a = some ox ∧ ox.data = .plain) ∧ wpAny M A (call (.ref a) u.pos u.kw) QQ EE s1) EE s) : wpAny M A (callWith pos (.ref a) [] args kws) QQ EE s := by
  unfold callWith
  apply wpAny_bind
  apply wpAny_holding
  refine wpAny_mono h ?_ (fun _ _ y => y)
  rintro u s1 ⟨⟨ox, hox, hd⟩, hc⟩
  apply wpAny_bind
  apply wpAny_standAt
  have L : PySem.W.Looks M s1.heap (keeperOf (.ref a)) .caller := by
    refine PySem.W.Looks.andThen (PySem.W.Looks.ld (part := none) hox) ?_
    simp only [hd]
    exact .now
  simp only [hp]
  apply wpAny_bind
  refine L.here ?_
  refine wpAny_bind (wpAny_mono (wpAny_operateT hc) ?_ (fun _ _ y => y))
  intro r s2 hr
  exact wpAny_bind (wpAny_holding (wpAny_point (wpAny_pure hr)))
theorem pe_callO (he : PE X (.Name x p) ta) (D : Cf X.prog X.w X.K X.mg X.base C k "__call__" ps sp) (hr : Room j X.A) (ha : PA X (e :: es) t) (hx : Passes (L2.CX X.prog X.w) X E := by exact passL) (hk : k ≤ j := by decide)
    (hst : starEach (e :: es) X.env = (false, eval e X.env) :: starEach es X.env := by rfl) (hpl : (backTo pos (starEach es X.env)).any (·.1) = false := by rfl) :
    PE X (.Call (.Name x p) (e :: es) [] pos) (tCallO C sp E ta t) := by
  refine ⟨fun pins s σ H Q I h => ?_⟩
  refine wpAny_Call_Name_kw (thn (he.run pins s σ H _ I h) fun fv s0 ⟨v, H0, I0, r0, a, ev, q0⟩ => ?_)
  subst ev
  obtain rfl : fv = Value.ref a := r0
  obtain ⟨f, fd, hm, hfn, b, F⟩ := D.ex
  have hA := ha.run pos pins s0 σ H0 _ I0 q0
  rw [hst] at hA ⊢
  refine own_callWith (by show ((false || (backTo pos (starEach es X.env)).any (·.1)) || false) = false; rw [hpl]; rfl) (Calls.evalArgs_plain (thn hA fun us s1 ⟨vs, H1, I1, r1, ⟨dx, fs, ea⟩, q1⟩ => ?_))
  obtain ⟨mA, O, _, _, _, _⟩ := ins_get I1.hok ea
  obtain ⟨od, J, _⟩ := O.look
  refine ⟨⟨_, J.at_, rfl⟩, ?_⟩
  have r2 : Vals (.ref a :: vs) (.ref a :: us) := .cons rfl r1
  have r3 : Vals ((.ref a :: vs) ++ []) ((.ref a :: us) ++ []) := by rw [List.append_nil, List.append_nil]; exact r2
  have hl : (Value.ref a :: us).length = ps.length := by rw [← r2.length]; exact F.len _ _ _ _ q1
  refine wpAny_call (PySem.W.kco_code I1.kIn J rfl hm.at_ hm.fn hfn (codeAny_mono (F.run X.A X.stack s1 H1 ⟨.ref a :: us, []⟩ (.ref a :: us) (.ref a :: vs) Q E (hr.mono hk) I1.env0 (by
    have hb := b s1 (.ref a :: us) I1.kIn (by rw [List.append_nil]; exact hl)
    rw [List.append_nil] at hb
    exact hb) r2 q1) fun r s' hq => ?_))
  cases r with
  | error e => exact hx pins σ H1 s1 e s' I1 hq
  | ok fl =>
    cases fl with
    | ret u => exact I1.after hq
    | next => exact False.elim hq
    | brk => exact False.elim hq
    | cont => exact False.elim hq
/-- o[i], by the own __getitem__ -/
theorem pe_itO (ho : PE X o ta) (D : Cf X.prog X.w X.K X.mg X.base C k "__getitem__" ps sp) (hr : Room j X.A) (hi : PE X i tb) (hx : Passes (L2.CX X.prog X.w) X E := by exact passL) (hk : k + 1 ≤ j := by decide)
    (hsl : ∀ v u, subscripted i true v u = runValue (.builtin "lifetime.subscript" ⟨[v, u], []⟩) := by intro _ _; with_unfolding_all rfl) :
    PE X (.Subscript o i pos) (tOp (rItO C sp E) ta tb) := by
  refine ⟨fun pins s σ H Q I h => ?_⟩
  refine Subscript_ (binT ho hi I h fun v u s2 x y H2 I2 rx ry ⟨a, ex, ⟨dx, fs, ea⟩, q⟩ => ?_)
  subst ex
  obtain rfl : v = Value.ref a := rx
  obtain ⟨f, fd, hm, hfn, b, F⟩ := D.ex
  obtain ⟨mA, O, _, _, _, _⟩ := ins_get I2.hok ea
  obtain ⟨od, J, _⟩ := O.look
  obtain ⟨m0, fr⟩ := I2.fr
  refine PySem.W.sub_K fr I2.ok.mod.kin J hm.at_ hfn hm.fn ?_ (hsl _ _)
  exact run_in1 F (hr.mono hk) b .nil hx I2 (us := [.ref a, u]) (vs := [.ref a, y]) (.cons rfl (.cons ry .nil)) q
end
end G48

namespace G48
open PySem PySem.Spec PyProof.Rows L2 Evl
abbrev N_Ring_days : List Str := ["self"]
theorem sc_Ring_days : FnScope N_Ring_days ["self"] (defScope s_Ring_days) := ⟨rfl, rfl, rfl, by decide +kernel, rfl, by decide +kernel, by decide +kernel⟩
theorem b_Ring_days : BindL "Ring.days" "days" s_Ring_days ["self"] := fun _ _ _ _ _ _ us hl => match us, hl with | [_], _ => rfl
abbrev N_Ring_starts : List Str := ["self"]
theorem sc_Ring_starts : FnScope N_Ring_starts ["self"] (defScope s_Ring_starts) := ⟨rfl, rfl, rfl, by decide +kernel, rfl, by decide +kernel, by decide +kernel⟩
theorem b_Ring_starts : BindL "Ring.starts" "starts" s_Ring_starts ["self"] := fun _ _ _ _ _ _ us hl => match us, hl with | [_], _ => rfl
abbrev N_Ring___getitem__ : List Str := ["self", "reader"]
theorem sc_Ring___getitem__ : FnScope N_Ring___getitem__ ["self", "reader"] (defScope s_Ring___getitem__) := ⟨rfl, rfl, rfl, by decide +kernel, rfl, by decide +kernel, by decide +kernel⟩
theorem b_Ring___getitem__ : BindL "Ring.__getitem__" "__getitem__" s_Ring___getitem__ ["self", "reader"] := fun _ _ _ _ _ _ us hl => match us, hl with | [_, _], _ => rfl
abbrev N_Ring___call__ : List Str := ["self", "reader", "number"]
theorem sc_Ring___call__ : FnScope N_Ring___call__ ["self", "reader", "number"] (defScope s_Ring___call__) := ⟨rfl, rfl, rfl, by decide +kernel, rfl, by decide +kernel, by decide +kernel⟩
theorem b_Ring___call__ : BindL "Ring.__call__" "__call__" s_Ring___call__ ["self", "reader", "number"] := fun _ _ _ _ _ _ us hl => match us, hl with | [_, _, _], _ => rfl
end G48
/-! a ring's course asked: calls, days, heaps -/
namespace G48
open PySem PySem.Spec PyProof.Rows L2 Evl
/-! the steps -/
local macro_rules | `(tactic| walk_at "as") => `(tactic| with_reducible assumption)
local macro_rules | `(tactic| walk_at "hp") => `(tactic| first
  | with_reducible assumption
  | ((with_reducible apply SqT.of); walk_at "as")
  | ((with_reducible apply SqL.of); walk_at "as")
  | ((with_reducible apply ex_at); (focus walk_at "as"); walk_at "hp")
  | ((with_reducible apply ex_t); (focus walk_at "as"); walk_at "hp")
  | ((with_reducible apply ex_l); (focus walk_at "as"); walk_at "hp")
  | ((with_reducible apply exb_ins); (focus walk_at "as"); (focus walk_at "hp"); walk_at "hp")
  | ((with_reducible apply exb_t); (focus walk_at "as"); (focus walk_at "hp"); walk_at "hp")
  | ((with_reducible apply exb_at); (focus walk_at "as"); (focus walk_at "ne"); walk_at "hp")
  | ((with_reducible apply exb_l); (focus walk_at "as"); (focus walk_at "ne"); walk_at "hp"))
local macro_rules | `(tactic| walk_at "ne") => `(tactic| first
  | with_reducible assumption
  | exact Ne.symm (by with_reducible assumption)
  | exact ne_of_none (by with_reducible assumption) (by with_reducible assumption)
  | exact Ne.symm (ne_of_none (by with_reducible assumption) (by with_reducible assumption)))
local macro_rules | `(tactic| walk_at "tr") => `(tactic| first
  | rfl
  | with_reducible assumption
  | exact decide_eq_true (by first | with_reducible assumption | omega)
  | exact decide_eq_false (by first | with_reducible assumption | omega)
  | (rw [Bool.not_eq_true']; exact decide_eq_false (by first | with_reducible assumption | omega))
  | (rw [Bool.not_eq_false']; exact decide_eq_true (by first | with_reducible assumption | omega)))
local macro_rules | `(tactic| walk_at "nn") => `(tactic| first | with_reducible assumption | (exact List.cons_ne_nil _ _))
local macro_rules | `(tactic| walk_at "sz") => `(tactic| first | (exact sz1000 (Nat.le_of_ble_eq_true rfl)) | (refine sz1000 ?_; simp only [List.length_map, List.length_cons, List.length_nil, List.length_append]; omega) | with_reducible assumption)
local macro_rules | `(tactic| walk_at "sl") => `(tactic| first | with_reducible assumption | (refine lt1000 ?_; simp only [List.length_map, List.length_cons, List.length_nil, List.length_append]; omega) | (refine lt1000 ?_; omega))
local macro_rules | `(tactic| walk_at "ix") => `(tactic| first | rfl | with_reducible assumption)
local macro_rules | `(tactic| walk_at "rg") => `(tactic| exact RgOk.of_le (by omega) (by omega) (by omega) (by omega))
local macro_rules | `(tactic| walk_at "sp") => `(tactic| fail "sp")
local macro_rules | `(tactic| walk_at "cl") => `(tactic| with_reducible assumption)
local macro_rules | `(tactic| walk_at "lk") => `(tactic| with_reducible assumption)
local macro_rules | `(tactic| walk_at "it") => `(tactic| first | rfl | with_reducible assumption | exact atI_nat (by with_reducible assumption))
local macro_rules | `(tactic| walk_at "g1") => `(tactic| first
  | (with_reducible apply g_var); (focus rfl)
  | with_reducible apply g_c
  | with_reducible apply g_seq
  | with_reducible apply g_asg
  | with_reducible apply gg_name
  | with_reducible apply g_op
  | with_reducible apply g_cons
  | with_reducible apply g_nil
  | with_reducible apply g_cb
  | with_reducible apply g_fld
  | ((with_reducible apply g_kFld); (focus walk_at "hp"); (focus walk_at "cl"); (focus walk_at "cl"); (focus walk_at "lk"))
  | with_reducible apply g_call
  | walk_at "sp"
  | with_reducible apply g_ret
  | with_reducible apply g_drop
  | with_reducible apply g_test
  | with_reducible apply g_B
  | with_reducible apply g_kTest
  | with_reducible apply g_ifS
  | with_reducible apply g_kIfST
  | with_reducible apply g_kIfSF
  | with_reducible apply g_add
  | with_reducible apply g_sub
  | with_reducible apply g_lt
  | with_reducible apply g_le
  | with_reducible apply g_gt
  | with_reducible apply g_ge
  | with_reducible apply g_eqI
  | with_reducible apply g_neI
  | ((with_reducible apply g_mod); (focus first | decide | omega))
  | ((with_reducible apply g_mul); (focus first | (left; constructor <;> omega) | (right; constructor <;> omega)))
  | ((with_reducible apply g_fdiv); (focus (constructor <;> omega)))
  | ((with_reducible apply g_ixT); (focus walk_at "hp"); (focus walk_at "it"))
  | ((with_reducible apply g_ixL); (focus walk_at "hp"); (focus walk_at "it"))
  | with_reducible apply g_and
  | with_reducible apply g_or
  | with_reducible apply g_not
  | with_reducible apply g_kNotT
  | with_reducible apply g_kNotF
  | with_reducible apply g_if
  | with_reducible apply g_kAndT
  | with_reducible apply g_kAndF
  | with_reducible apply g_kOrT
  | with_reducible apply g_kOrF
  | with_reducible apply g_kIfT
  | with_reducible apply g_kIfF
  | with_reducible apply g_next
  | with_reducible apply g_andV
  | with_reducible apply g_orV
  | with_reducible apply g_notV
  | with_reducible apply g_kNotV
  | with_reducible apply g_kAndVT
  | with_reducible apply g_kAndVF
  | with_reducible apply g_chain
  | with_reducible apply g_kChainT
  | with_reducible apply g_kChainF
  | with_reducible apply g_tup
  | with_reducible apply g_lst
  | ((with_reducible apply g_kT); (focus walk_at "sz"); intro _ _ _ _ _)
  | ((with_reducible apply g_kL); (focus walk_at "sz"); intro _ _ _ _ _)
  | with_reducible apply g_un
  | with_reducible apply g_neg
  | with_reducible apply g_meth
  | ((with_reducible apply g_kMeth); (focus walk_at "hp"); (focus walk_at "lk"))
  | with_reducible apply g_prop
  | ((with_reducible apply g_kProp); (focus walk_at "hp"))
  | with_reducible apply g_make
  | with_reducible apply g_par
  | with_reducible apply g_kPar
  | ((with_reducible apply g_lenLM); (focus walk_at "hp"))
  | ((with_reducible apply g_lenTM); (focus walk_at "hp"))
  | ((with_reducible apply g_lenL); (focus walk_at "hp"))
  | ((with_reducible apply g_lenT); (focus walk_at "hp"))
  | with_reducible apply g_int1
  | with_reducible apply g_max2
  | with_reducible apply g_min2
  | ((with_reducible apply g_listL); (focus walk_at "hp"); intro _ _ _ _ _)
  | ((with_reducible apply g_listT); (focus walk_at "hp"); intro _ _ _ _ _)
  | ((with_reducible apply g_tupL); (focus walk_at "hp"); intro _ _ _ _ _)
  | ((with_reducible apply g_sum); (focus walk_at "hp"))
  | with_reducible apply g_sfld
  | with_reducible apply g_sl
  | with_reducible apply g_nopart
  | with_reducible apply g_part
  | with_reducible apply g_kPart
  | with_reducible apply g_lstRg
  | with_reducible apply g_rg1
  | with_reducible apply g_kRg1
  | with_reducible apply g_bm
  | with_reducible apply gg_sub
  | ((with_reducible apply gg_tup); (focus walk_at "hp"); (focus rfl))
  | with_reducible apply gg_cons
  | with_reducible apply gg_nil
  | with_reducible apply g_forL
  | with_reducible apply g_forT
  | with_reducible apply g_forR1
  | with_reducible apply g_forR2
  | with_reducible apply g_forE
  | with_reducible apply g_forEL
  | ((with_reducible apply g_maxT); (focus walk_at "hp"); (focus walk_at "nn"))
  | ((with_reducible apply g_maxL); (focus walk_at "hp"); (focus walk_at "nn"))
  | ((with_reducible apply g_catA); (focus walk_at "hp"); (focus walk_at "hp"); (focus walk_at "sz"); intro _ _ _ _)
  | ((with_reducible apply g_slA); (focus walk_at "hp"); intro _ _ _ _)
  | ((with_reducible apply g_tupD); (focus walk_at "hp"); intro _ _ _ _ _)
  | ((with_reducible apply g_setL); (focus walk_at "hp"); (focus walk_at "ix"); intro _ _ _)
  | ((with_reducible apply g_append); (focus walk_at "hp"); (focus walk_at "sl"); intro _ _ _)
  | ((with_reducible apply g_aug); (focus rfl))
  | with_reducible apply g_ipI
  | with_reducible apply g_retN
  | with_reducible apply g_lcR1
  | with_reducible apply g_lcR2
  | with_reducible apply g_lcL
  | with_reducible apply g_lcU
  | with_reducible apply g_lcN
  | ((with_reducible apply g_kLcG); (focus rfl))
  | with_reducible apply g_yes
  | with_reducible apply g_kLcTT
  | with_reducible apply g_kLcTF
  | ((with_reducible apply g_kLcE); (focus walk_at "hp"); (focus walk_at "sl"); intro _ _ _)
  | ((with_reducible apply g_pow); (focus (constructor <;> (try constructor) <;> decide)))
  | ((with_reducible apply g_kLRg); (focus walk_at "rg"); intro _ _ _ _ _)
  | ((with_reducible apply g_cat); (focus walk_at "hp"); (focus walk_at "hp"); (focus walk_at "sz"); intro _ _ _ _ _)
  | ((with_reducible apply g_slL); (focus walk_at "hp"); intro _ _ _ _ _)
  | with_reducible apply g_bmT
  | with_reducible apply g_break
  | with_reducible apply g_cont)
local macro_rules | `(tactic| walk_at "g0") => `(tactic| try dsimp only [L2.cxOf, L2.Cx.nox, L2.Cx.wish])
local macro_rules | `(tactic| walk_at "yn") => `(tactic| first
  | ((with_reducible apply y_kIfS); (focus walk_at "tr"))
  | ((with_reducible apply n_kIfS); (focus walk_at "tr"))
  | ((with_reducible apply y_kOr); (focus walk_at "tr"))
  | ((with_reducible apply n_kOr); (focus walk_at "tr"))
  | ((with_reducible apply y_kAnd); (focus walk_at "tr"))
  | ((with_reducible apply n_kAnd); (focus walk_at "tr"))
  | ((with_reducible apply y_kNot); (focus walk_at "tr"))
  | ((with_reducible apply n_kNot); (focus walk_at "tr"))
  | ((with_reducible apply y_kIf); (focus walk_at "tr"))
  | ((with_reducible apply n_kIf); (focus walk_at "tr"))
  | ((with_reducible apply y_kAndV); (focus walk_at "tr"))
  | ((with_reducible apply n_kAndV); (focus walk_at "tr"))
  | ((with_reducible apply y_kOrV); (focus walk_at "tr"))
  | ((with_reducible apply n_kOrV); (focus walk_at "tr"))
  | ((with_reducible apply y_kChain); (focus walk_at "tr"))
  | ((with_reducible apply n_kChain); (focus walk_at "tr"))
  | ((with_reducible apply y_kLcT); (focus walk_at "tr"))
  | ((with_reducible apply n_kLcT); (focus walk_at "tr"))
  | ((with_reducible apply y_kWh); (focus walk_at "tr"))
  | ((with_reducible apply n_kWh); (focus walk_at "tr")))
local macro_rules | `(tactic| walk_at "go") => `(tactic| repeat (first | walk_at "g1" | walk_at "yn"))
local macro_rules | `(tactic| walk_at "hp") => `(tactic| first
  | ((with_reducible apply RingIn.ex); (focus walk_at "as"); walk_at "hp")
  | ((with_reducible apply RingAt.ex); (focus walk_at "as"); walk_at "hp")
  | ((with_reducible apply RingIn.exb); (focus walk_at "as"); (focus walk_at "hp"); walk_at "hp")
  | ((with_reducible apply RingAt.exb); (focus walk_at "as"); (focus walk_at "hp"); walk_at "hp")
  | ((with_reducible apply TupK.ex); (focus walk_at "as"); walk_at "hp")
  | ((with_reducible apply TupK.exb); (focus walk_at "as"); (focus walk_at "hp"); walk_at "hp"))
local macro_rules | `(tactic| walk_at "lk") => `(tactic| first | with_reducible exact rf_spans | with_reducible exact rf_heaps | with_reducible exact rf_total | with_reducible exact rf_nr | with_reducible exact rf_wd)
local macro_rules | `(tactic| walk_at "sp") => `(tactic| first
  | ((with_reducible apply g_isiTup); (focus walk_at "hp"))
  | ((with_reducible apply g_isiLst); (focus walk_at "hp"))
  | ((with_reducible apply g_isint); (focus omega); (focus omega))
  | ((with_reducible apply g_checkn); (focus omega); (focus omega))
  | ((with_reducible apply g_rbooks); (focus walk_at "hp"))
  | ((with_reducible apply g_rpace); (focus walk_at "hp"); intro _ _ _ _)
  | ((with_reducible apply g_rlen); (focus walk_at "hp"))
  | ((with_reducible apply g_rneed); (focus walk_at "hp"); (focus omega))
  | ((with_reducible apply g_rneedM); (focus walk_at "hp"))
  | ((with_reducible apply g_rwithM); (focus walk_at "hp"))
  | ((with_reducible apply g_rspans); (focus walk_at "hp"); (focus with_reducible assumption))
  | ((with_reducible apply g_rheaps); (focus walk_at "hp"); (focus with_reducible assumption))
  | ((with_reducible apply g_rtotal); (focus walk_at "hp"); (focus with_reducible assumption)))

local macro_rules | `(tactic| walk_at "hp") => `(tactic| first
  | ((with_reducible apply CrsIn.ex); (focus walk_at "as"); walk_at "hp")
  | ((with_reducible apply RowsAt.ex); (focus walk_at "as"); walk_at "hp"))
local macro_rules | `(tactic| walk_at "sp") => `(tactic| first
  | ((with_reducible apply g_crows); (focus walk_at "hp"); (focus with_reducible assumption))
  | ((with_reducible apply g_csize); (focus walk_at "hp"); (focus with_reducible assumption))
  | ((with_reducible apply g_cevery); (focus walk_at "hp"); (focus with_reducible assumption))
  | ((with_reducible apply g_cshift); (focus walk_at "hp"); (focus with_reducible assumption))
  | ((with_reducible apply g_cring); (focus walk_at "hp"); (focus with_reducible assumption))
  | ((with_reducible apply g_cfirst); (focus walk_at "hp"); (focus with_reducible assumption))
  | ((with_reducible apply g_clen); (focus walk_at "hp"))
  | ((with_reducible apply g_cmShifted); (focus walk_at "hp"))
  | ((with_reducible apply g_cmSettled); (focus walk_at "hp"))
  | ((with_reducible apply g_cmNext); (focus walk_at "hp"))
  | ((with_reducible apply g_cmEnd); (focus walk_at "hp"))
  | ((with_reducible apply g_cmArrival); (focus walk_at "hp")))

def kCallB (C : Addr) (sp : Sp) (E : XK) (a : Addr) (Q : VK) (vs : List V) (H2 : Hp) : Prop := (∃ dx fs, H2 a = some (.ins C dx fs)) ∧ sp (.ref a :: vs) H2 Q E
def kCallO (C : Addr) (sp : Sp) (E : XK) (t : TA) (σ : L2.St) (Q : VK) : VK := fun x H1 => ∃ a, x = .ref a ∧ t σ H1 (kCallB C sp E a Q)
theorem g_tCallO {C : Addr} {sp : Sp} {E : XK} {ta : TE} {t : TA} {σ : L2.St} {H : Hp} {Q : VK} (q : ta σ H (kCallO C sp E t σ Q)) : tCallO C sp E ta t σ H Q := q
theorem g_kCallO {C a : Addr} {sp : Sp} {E : XK} {t : TA} {σ : L2.St} {H : Hp} {Q : VK} (q : t σ H (kCallB C sp E a Q)) : kCallO C sp E t σ Q (.ref a) H := ⟨a, rfl, q⟩
section
variable {P : Program} {w : World} {K : PySem.W.Frag} {mg : Str → Option Value} {base : Heap} {C CC : Addr}
theorem ok_Ring_days (Z : Blt mg) (R : RingC K C) (G : PFun K C "days" "Ring.days" s_Ring_days) : Pf P w K mg base C 1 "days" ["self"] (sp_Ring_days K C) := by
  refine Pf.of G sc_Ring_days b_Ring_days (fun vs H Q E h => ?_) (fun f cdv A outer s H vs Q E hr h => ?_)
  · obtain ⟨r, a, b, ds, hs, rfl, _⟩ := h
    rfl
  · obtain ⟨r, a, b, ds, hs, rfl, RI, q⟩ := h
    have cl_Ring := R.cl
    refine ⟨_, PSs.nox (pss_one (ps_ret (pe_fld (pv 0) rfl))), ?_⟩
    walk_at "g0"
    walk_at "go"
    exact q
theorem ok_Ring_starts (Z : Blt mg) (R : RingC K C) (G : PFun K C "starts" "Ring.starts" s_Ring_starts) : Pf P w K mg base C 1 "starts" ["self"] (sp_Ring_starts K C) := by
  refine Pf.of G sc_Ring_starts b_Ring_starts (fun vs H Q E h => ?_) (fun f cdv A outer s H vs Q E hr h => ?_)
  · obtain ⟨r, a, b, ds, hs, rfl, _⟩ := h
    rfl
  · obtain ⟨r, a, b, ds, hs, rfl, RI, q⟩ := h
    have cl_Ring := R.cl
    refine ⟨_, PSs.nox (pss_one (ps_ret (pe_fld (pv 0) rfl))), ?_⟩
    walk_at "g0"
    walk_at "go"
    exact q
theorem g_rdays {H : Hp} {Q : VK} {E : XK} {r a b : Addr} {ds hs : List Int} (R : RingIn K C H r a b ds hs) (q : Q (.ref a) H) : kProp C (sp_Ring_days K C) E Q (.ref r) H :=
  let ⟨dx, ho⟩ := R.obj; ⟨r, dx, _, rfl, ho, r, a, b, ds, hs, rfl, R, q⟩
theorem g_rstarts {H : Hp} {Q : VK} {E : XK} {r a b : Addr} {ds hs : List Int} (R : RingIn K C H r a b ds hs) (q : Q (.ref b) H) : kProp C (sp_Ring_starts K C) E Q (.ref r) H :=
  let ⟨dx, ho⟩ := R.obj; ⟨r, dx, _, rfl, ho, r, a, b, ds, hs, rfl, R, q⟩
def sp_Ring_get (K : PySem.W.Frag) (C : Addr) : Sp := fun vs H Q _ => ∃ (r a b : Addr) (ds hs : List Int) (k : Nat), vs = [.ref r, .int (k : Int)] ∧ RingIn K C H r a b ds hs ∧ k < ds.length ∧ ∀ p H', Ex H H' → SqT K H' p [.int (dF ds k), .int (hF hs k : Nat)] → Q (.ref p) H'
theorem ok_Ring_get (Z : Blt mg) (R : RingC K C) (D_is_integer : Df P w K mg base 1 "is_integer" ["value", "low", "high"] (sp_is_integer K)) (G : CFun K C "__getitem__" "Ring.__getitem__" s_Ring___getitem__) : Cf P w K mg base C 2 "__getitem__" ["self", "reader"] (sp_Ring_get K C) := by
  refine Cf.of G sc_Ring___getitem__ b_Ring___getitem__ (fun vs H Q E h => ?_) (fun f cdv A outer s H vs Q E hr h => ?_)
  · obtain ⟨r, a, b, ds, hs, k, rfl, _⟩ := h
    rfl
  · obtain ⟨r, a, b, ds, hs, k, rfl, RI, hk, q⟩ := h
    have cl_Ring := R.cl
    have O := RI.ok
    have hxd := dF_at' (ds := ds) hk
    have hxh := O.hF_at hk
    have hS := RI.sp
    have hT := RI.hp
    refine ⟨_, PSs.nox (pss_cons (ps_if (pt_not (pt_val (pg D_is_integer hr (pa_cons (pv 1) (pa_cons pe_int (pa_cons (pe_op op_sub (pe_callB c_len (by rfl) Z.zlen PySem.boot_len (pa_cons (pe_fld (pv 0) rfl) pa_nil)) pe_int) pa_nil)))))) (pss_one ps_never) pss_nil)
      (pss_one (ps_ret (pe_tup (pa_cons (pe_ix ix_tup (pe_fld (pv 0) rfl) (pv 1) (fun _ _ => rfl)) (pa_cons (pe_ix ix_tup (pe_fld (pv 0) rfl) (pv 1) (fun _ _ => rfl)) pa_nil)))))), ?_⟩
    walk_at "g0"
    walk_at "go"
    rename_i p H1 np e1 hp
    exact q p H1 e1 (SqT.of hp)
theorem g_rget {H : Hp} {Q : VK} {E : XK} {r a b : Addr} {ds hs : List Int} {k : Nat} (R : RingIn K C H r a b ds hs) (hk : k < ds.length) (q : ∀ p H', Ex H H' → SqT K H' p [.int (dF ds k), .int (hF hs k : Nat)] → Q (.ref p) H') : rItO C (sp_Ring_get K C) E (.ref r) (.int (k : Int)) H Q :=
  let ⟨dx, ho⟩ := R.obj; ⟨r, rfl, ⟨dx, _, ho⟩, r, a, b, ds, hs, k, rfl, R, hk, q⟩
/-- Course(ring) -/
theorem g_mkCourse {H : Hp} {Q : VK} {E : XK} {r a b : Addr} {ds hs : List Int} (RI : RingIn K C H r a b ds hs) (q : ∀ c Rw L F H', H c = none → Ex H H' → CrsAt K C CC H' c r a b Rw ds hs L F → SetF ds hs F → Q (.ref c) H') : kMake CC (sp_Course_init K C CC) E Q [.ref r] H := by
  intro x dx nx ndx ne
  have e1 : Ex H (upd (upd H dx (.own x)) x (.ins CC dx [])) := fun c o h => by
    rw [upd_ne (ne_of_none h nx), upd_ne (ne_of_none h ndx)]
    exact h
  exact ⟨x, r, a, b, dx, ds, hs, rfl, upd_same, RI.ex e1, fun Rw L F H' e2 CA hset => ⟨rfl, q x Rw L F H' nx (Exb.ex nx e1 e2) CA hset⟩⟩
def sp_Ring_call (K : PySem.W.Frag) (C : Addr) : Sp := fun vs H Q _ => ∃ (r a b : Addr) (ds hs : List Int) (k n : Nat), vs = [.ref r, .int (k : Int), .int (n : Int)] ∧ RingIn K C H r a b ds hs ∧ k < ds.length ∧ (n : Int) ≤ 1000000000000000000 ∧ ∀ H', Ex H H' → Q (.int (XR ds hs n k)) H'
local macro_rules | `(tactic| walk_at "hp") => `(tactic| first
  | ((with_reducible apply CrsAt.ex); (focus walk_at "as"); walk_at "hp")
  | ((with_reducible apply CrsAt.into); walk_at "hp"))
local macro_rules | `(tactic| walk_at "g1") => `(tactic| first
  | ((with_reducible apply g_callO); (focus walk_at "hp"))
  | with_reducible apply g_tCallO
  | with_reducible apply g_kCallO)
local macro_rules | `(tactic| walk_at "sp") => `(tactic| first
  | ((with_reducible apply g_rdays); (focus walk_at "hp"))
  | ((with_reducible apply g_rstarts); (focus walk_at "hp"))
  | ((with_reducible apply g_rget); (focus walk_at "hp"); (focus with_reducible assumption); intro _ _ _ _)
  | ((with_reducible apply g_rcall); (focus walk_at "hp"); (focus with_reducible assumption); (focus omega); intro _ _)
  | ((with_reducible apply g_mkCourse); (focus walk_at "hp"); intro _ _ _ _ _ _ _ _ _)
  | ((with_reducible apply g_ncheckn); (focus omega); (focus omega)))

theorem ok_Ring_call (Z : Blt mg) (R : RingC K C) (RC : CourseC K CC) (c_MAX_NUMBER : ∃ t, mg "MAX_NUMBER" = some (.int 1000000000000000000 t)) (M_Ring_need_reader : Mf P w K mg base C 2 "need_reader" ["self", "reader"] (sp_Ring_need K C)) (D_check_number : Df P w K mg base 2 "check_number" ["number", "low", "high"] sp_check_number)
    (I_Course : If P w K mg base "Course" CC 5 ["self", "ring"] (sp_Course_init K C CC)) (M_Course_end : Mf P w K mg base CC 1 "end" ["self", "reader", "number"] (sp_Course_end K C CC)) (G : CFun K C "__call__" "Ring.__call__" s_Ring___call__) : Cf P w K mg base C 7 "__call__" ["self", "reader", "number"] (sp_Ring_call K C) := by
  refine Cf.of G sc_Ring___call__ b_Ring___call__ (fun vs H Q E h => ?_) (fun f cdv A outer s H vs Q E hr h => ?_)
  · obtain ⟨r, a, b, ds, hs, k, n, rfl, _⟩ := h
    rfl
  · obtain ⟨r, a, b, ds, hs, k, n, rfl, RI, hk, hn, q⟩ := h
    have cl_Ring := R.cl
    have cl_Course := RC.cl
    refine ⟨_, PSs.nox (pss_cons (ps_expr (pm (pv 0) cl_Ring M_Ring_need_reader hr (pa_cons (pv 1) pa_nil)))
      (pss_cons (ps_expr (pg D_check_number hr (pa_cons (pv 2) (pa_cons pe_int (pa_cons (pint c_MAX_NUMBER) pa_nil)))))
      (pss_one (ps_ret (pm (pk I_Course hr (pa_cons (pv 0) pa_nil)) cl_Course M_Course_end hr (pa_cons (pv 1) (pa_cons (pv 2) pa_nil))))))), ?_⟩
    walk_at "g0"
    walk_at "go"
    rename_i c Rw L F H1 n1 e1 CA hset
    walk_at "go"
    exact ⟨c, r, a, b, Rw, ds, hs, L, F, k, n, rfl, CA, hset, hk, fun H2 e2 => q H2 (e1.trans e2)⟩
theorem g_callO {H : Hp} {Q : VK} {E : XK} {r a b : Addr} {ds hs : List Int} {vs : List V} (R : RingIn K C H r a b ds hs) (q : sp_Ring_call K C (.ref r :: vs) H Q E) : kCallB C (sp_Ring_call K C) E r Q vs H :=
  let ⟨dx, ho⟩ := R.obj; ⟨⟨dx, _, ho⟩, q⟩
theorem g_rcall {H : Hp} {Q : VK} {E : XK} {r a b : Addr} {ds hs : List Int} {k n : Nat} (R : RingIn K C H r a b ds hs) (hk : k < ds.length) (hn : (n : Int) ≤ 1000000000000000000) (q : ∀ H', Ex H H' → Q (.int (XR ds hs n k)) H') : sp_Ring_call K C [.ref r, .int (k : Int), .int (n : Int)] H Q E :=
  ⟨r, a, b, ds, hs, k, n, rfl, R, hk, hn, q⟩
local macro_rules | `(tactic| walk_at "hp") => `(tactic| first
  | ((with_reducible apply CrsAt.ex); (focus walk_at "as"); walk_at "hp")
  | ((with_reducible apply CrsAt.into); walk_at "hp"))
local macro_rules | `(tactic| walk_at "g1") => `(tactic| first
  | ((with_reducible apply g_callO); (focus walk_at "hp"))
  | with_reducible apply g_tCallO
  | with_reducible apply g_kCallO)
local macro_rules | `(tactic| walk_at "sp") => `(tactic| first
  | ((with_reducible apply g_rdays); (focus walk_at "hp"))
  | ((with_reducible apply g_rstarts); (focus walk_at "hp"))
  | ((with_reducible apply g_rget); (focus walk_at "hp"); (focus with_reducible assumption); intro _ _ _ _)
  | ((with_reducible apply g_rcall); (focus walk_at "hp"); (focus with_reducible assumption); (focus omega); intro _ _)
  | ((with_reducible apply g_mkCourse); (focus walk_at "hp"); intro _ _ _ _ _ _ _ _ _)
  | ((with_reducible apply g_ncheckn); (focus omega); (focus omega)))

def sp_begin_day (K : PySem.W.Frag) (C : Addr) : Sp := fun vs H Q _ => ∃ (r a b : Addr) (ds hs : List Int) (k n : Nat), vs = [.ref r, .int (k : Int), .int (n : Int)] ∧ RingIn K C H r a b ds hs ∧ k < ds.length ∧ (n : Int) ≤ 1000000000000000000 ∧ ∀ H', Ex H H' → Q (.int (XR ds hs n k - dF ds k)) H'
/-! days: readings ended -/
def CntP (ds hs : List Int) (k : Nat) (t : Int) (c : Nat) : Prop := (∀ n, n < c → XR ds hs n k ≤ t) ∧ t < XR ds hs c k
theorem XR_step {ds hs : List Int} (O : RingOk ds hs) {k : Nat} (hk : k < ds.length) (n : Nat) : dF ds k + XR ds hs n k ≤ XR ds hs (n + 1) k := by
  have := X_same O.rg.toRg hk (n := n + 1) (by omega)
  exact this
theorem dF_pos {ds hs : List Int} (O : RingOk ds hs) {k : Nat} (hk : k < ds.length) : 1 ≤ dF ds k ∧ dF ds k ≤ 30 := by
  rw [dF_at hk]
  exact O.dd _ (List.getElem_mem hk)
theorem XR_mono {ds hs : List Int} (O : RingOk ds hs) {k : Nat} (hk : k < ds.length) {m n : Nat} (h : m ≤ n) : XR ds hs m k ≤ XR ds hs n k := by
  induction n with
  | zero => rw [show m = 0 by omega]; exact Int.le_refl _
  | succ n ih =>
    by_cases z : m = n + 1
    · rw [z]; exact Int.le_refl _
    · have h1 := ih (by omega)
      have h2 := XR_step O hk n
      have h3 := dF_pos O hk
      omega
theorem XR_ge {ds hs : List Int} (O : RingOk ds hs) {k : Nat} (hk : k < ds.length) (n : Nat) : (n : Int) < XR ds hs n k := by
  induction n with
  | zero => exact Int.lt_of_lt_of_le (by decide) (X_self O.rg.toRg hk (n := 0)).2
  | succ n ih =>
    have h2 := XR_step O hk n
    have h3 := dF_pos O hk
    omega
def sp_ended_by (K : PySem.W.Frag) (C CC : Addr) : Sp := fun vs H Q _ => ∃ (c r a b Rw : Addr) (ds hs : List Int) (L F k : Nat) (t : Int), vs = [.ref c, .int (k : Int), .int t] ∧ CrsAt K C CC H c r a b Rw ds hs L F ∧ SetF ds hs F ∧ k < ds.length ∧ 0 ≤ t ∧ ∀ n H', Ex H H' → CntP ds hs k t n → Q (.int (n : Nat)) H'
def sp_readings_by (K : PySem.W.Frag) (C : Addr) : Sp := fun vs H Q _ => ∃ (r a b : Addr) (ds hs : List Int) (k : Nat) (t : Int), vs = [.ref r, .int (k : Int), .int t] ∧ RingIn K C H r a b ds hs ∧ k < ds.length ∧ (0 ≤ t ∧ t ≤ 1000000000000000000) ∧ ∀ n H', Ex H H' → CntP ds hs k t n → Q (.int (n : Nat)) H'
def sp_waiting (K : PySem.W.Frag) (C CC : Addr) : Sp := fun vs H Q _ => ∃ (c r a b Rw : Addr) (ds hs : List Int) (L F k : Nat) (t : Int), vs = [.ref c, .int (k : Int), .int t] ∧ CrsAt K C CC H c r a b Rw ds hs L F ∧ SetF ds hs F ∧ k < ds.length ∧ 0 ≤ t ∧
  ∀ n1 n2 H', Ex H H' → CntP ds hs (prv ds.length k) t n1 → CntP ds hs k (t + dF ds k) n2 → Q (.int ((hF hs k : Nat) + (n1 : Int) - (n2 : Int))) H'
theorem prv_mod {N k : Nat} (h : k < N) : ((k : Int) - 1) % (N : Int) = ((prv N k : Nat) : Int) := by
  unfold prv
  by_cases z : k = 0
  · subst z
    rw [if_pos rfl]
    have e : ((0 : Nat) : Int) - 1 = ((N - 1 : Nat) : Int) + (N : Int) * (-1) := by omega
    rw [e, Int.add_mul_emod_self_left, Int.emod_eq_of_lt (by omega) (by omega)]
  · rw [if_neg z, Int.emod_eq_of_lt (by omega) (by omega)]
    omega
def sp_heap_on (K : PySem.W.Frag) (C : Addr) : Sp := fun vs H Q _ => ∃ (r a b : Addr) (ds hs : List Int) (k : Nat) (t : Int), vs = [.ref r, .int (k : Int), .int t] ∧ RingIn K C H r a b ds hs ∧ k < ds.length ∧ (0 ≤ t ∧ t ≤ 1000000000000000000) ∧
  ∀ n1 n2 H', Ex H H' → CntP ds hs (prv ds.length k) t n1 → CntP ds hs k (t + dF ds k) n2 → Q (.int ((hF hs k : Nat) + (n1 : Int) - (n2 : Int))) H'
def sp_settled (K : PySem.W.Frag) (C : Addr) : Sp := fun vs H Q _ => ∃ (r a b : Addr) (ds hs : List Int), vs = [.ref r] ∧ RingIn K C H r a b ds hs ∧ ∀ p F H', Ex H H' → SetF ds hs F → F ≤ 900 → SqT K H' p [.int (F : Int), .int (evN ds hs : Nat), .int (shN ds hs)] → Q (.ref p) H'
end
end G48

--lib V
/-! a call of any expression that gives an own instance -/
namespace G48
open PySem PySem.Spec PyProof.Rows L2 Evl
section
variable {X : Cx} {k j : Nat} {ps : List Str} {sp : Sp} {E : XK} {pos : Pos} {e fe : Expr} {es : List Expr} {t : TA} {ta : TE} {C : Addr}
theorem pe_callOE (he : PE X fe ta) (D : Cf X.prog X.w X.K X.mg X.base C k "__call__" ps sp) (hr : Room j X.A) (ha : PA X (e :: es) t) (hx : Passes (L2.CX X.prog X.w) X E := by exact passL) (hk : k ≤ j := by decide)
    (hst : starEach (e :: es) X.env = (false, eval e X.env) :: starEach es X.env := by rfl) (hpl : (backTo pos (starEach es X.env)).any (·.1) = false := by rfl)
    (ht : eval (.Call fe (e :: es) [] pos) X.env = (do callWith pos (← eval fe X.env) [] (backTo pos (starEach (e :: es) X.env)) (backToKw pos (keywordEach [] X.env))) := by rfl) :
    PE X (.Call fe (e :: es) [] pos) (tCallO C sp E ta t) := by
  refine ⟨fun pins s σ H Q I h => ?_⟩
  refine Call_ (thn (he.run pins s σ H _ I h) fun fv s0 ⟨v, H0, I0, r0, a, ev, q0⟩ => ?_) ht
  subst ev
  obtain rfl : fv = Value.ref a := r0
  obtain ⟨f, fd, hm, hfn, b, F⟩ := D.ex
  have hA := ha.run pos pins s0 σ H0 _ I0 q0
  rw [hst] at hA ⊢
  refine own_callWith (by show ((false || (backTo pos (starEach es X.env)).any (·.1)) || false) = false; rw [hpl]; rfl) (Calls.evalArgs_plain (thn hA fun us s1 ⟨vs, H1, I1, r1, ⟨dx, fs, ea⟩, q1⟩ => ?_))
  obtain ⟨mA, O, _, _, _, _⟩ := ins_get I1.hok ea
  obtain ⟨od, J, _⟩ := O.look
  refine ⟨⟨_, J.at_, rfl⟩, ?_⟩
  have r2 : Vals (.ref a :: vs) (.ref a :: us) := .cons rfl r1
  have r3 : Vals ((.ref a :: vs) ++ []) ((.ref a :: us) ++ []) := by rw [List.append_nil, List.append_nil]; exact r2
  have hl : (Value.ref a :: us).length = ps.length := by rw [← r2.length]; exact F.len _ _ _ _ q1
  refine wpAny_call (PySem.W.kco_code I1.kIn J rfl hm.at_ hm.fn hfn (codeAny_mono (F.run X.A X.stack s1 H1 ⟨.ref a :: us, []⟩ (.ref a :: us) (.ref a :: vs) Q E (hr.mono hk) I1.env0 (by
    have hb := b s1 (.ref a :: us) I1.kIn (by rw [List.append_nil]; exact hl)
    rw [List.append_nil] at hb
    exact hb) r2 q1) fun r s' hq => ?_))
  cases r with
  | error e => exact hx pins σ H1 s1 e s' I1 hq
  | ok fl =>
    cases fl with
    | ret u => exact I1.after hq
    | next => exact False.elim hq
    | brk => exact False.elim hq
    | cont => exact False.elim hq
end
end G48

/-! tuples turned about; own operators with a value of another kind; a class method with a star parameter -/
namespace G48
open PySem PySem.Spec PyProof.Rows L2 Evl
/-! ### t[::-1] -/
theorem places_rev (n : Nat) : Builtin.Slice.slicePlaces ((n : Int) - 1) (-1) (-1) = n := by
  unfold Builtin.Slice.slicePlaces
  rw [if_neg (by decide : ¬ ((-1 : Int) > 0)), show (- -1 : Int) = 1 by decide, Int.ediv_one]
  split <;> omega
theorem fm_congr {α β : Type} {f g : α → Option β} : ∀ {xs : List α}, (∀ x ∈ xs, f x = g x) → xs.filterMap f = xs.filterMap g
  | [], _ => rfl
  | x :: xs, h => by
    rw [List.filterMap_cons, List.filterMap_cons, h x (List.mem_cons_self ..), fm_congr fun y hy => h y (List.mem_cons_of_mem _ hy)]
theorem pick_rev (xs : Array Value) : ((List.range xs.size).filterMap fun (k : Nat) => xs[(((xs.size : Int) - 1) + (k : Int) * (-1)).toNat]?).toArray = xs.toList.reverse.toArray := by
  have h := PySem.W.krv_pick xs
  unfold slicePick at h
  rw [PySem.W.krv_bounds] at h
  rw [← h]
  show _ = ((sliceRange ((xs.size : Int) - 1) (-1) (-1)).filterMap (xs[·]?)).toArray
  rw [PySem.W.krv_sliceRange, List.filterMap_map]
  rw [fm_congr fun k hk => ?_]
  have := List.mem_range.mp hk
  show _ = xs[xs.size - 1 - k]?
  rw [show (((xs.size : Int) - 1) + (k : Int) * (-1)).toNat = xs.size - 1 - k by omega]
section
variable {prog : Program} {w : World} {A : Around} {s : Shared} {E : Value → Shared → Prop}
theorem sliceApplied_rev {sl : Addr} {vl vu vs : Value} {n : Nat} {Q : Int × Int × Nat → Shared → Prop} (hs : s.heap.IsSliceOf sl vl vu vs) (pl : IsPart vl none) (pu : IsPart vu none) (ps : IsPart vs (some (-1)))
    (h : Q ((n : Int) - 1, -1, n) s) : wpAny (model prog w) A (Builtin.Slice.sliceApplied (.ref sl) (pure (n : Int))) Q E s := by
  obtain ⟨os, hos, hcs, hds⟩ := id hs
  unfold Builtin.Slice.sliceApplied Builtin.Slice.sliceFields
  refine wpAny_bind (wpAny_bind (wpAny_field hos hds (x := vl) rfl (wpAny_bind (wpAny_field hos hds (x := vu) rfl (wpAny_bind (wpAny_field hos hds (x := vs) rfl (wpAny_pure ?_)))))))
  refine wpAny_bind (HT.slicePart_ ps ?_)
  show wpAny _ _ (if ((-1 : Int) == 0) = true then _ else _) _ _ s
  rw [if_neg (by decide)]
  refine wpAny_bind (HT.slicePart_ pl (wpAny_bind (HT.slicePart_ pu (wpAny_bind (wpAny_pure ?_)))))
  show wpAny _ _ (pure (((n : Int) - 1), (-1 : Int), Builtin.Slice.slicePlaces ((n : Int) - 1) (-1) (-1))) _ _ s
  rw [places_rev]
  exact wpAny_pure h
theorem getItem_tuple_rev {t sl : Addr} {items : Array Value} {vl vu vs : Value} {Q : Value → Shared → Prop} (ht : IsTup s.heap t items) (hs : s.heap.IsSliceOf sl vl vu vs) (pl : IsPart vl none) (pu : IsPart vu none) (ps : IsPart vs (some (-1)))
    (h : Q (.ref s.heap.objs.size) { s with heap := s.heap.push { cls := .type "tuple", data := .seq items.toList.reverse.toArray } }) (hsz : items.size ≤ sizeLine) : wpAny (model prog w) A (getItem (.ref t) (.ref sl)) Q E s := by
  have htake : sizeOk (.seq items.toList.reverse.toArray) := by
    show items.toList.reverse.toArray.size ≤ sizeLine
    rw [List.size_toArray, List.length_reverse, Array.length_toList]
    exact hsz
  obtain ⟨os, hos, hcs, hds⟩ := id hs
  have hTs : s.TypeIs (.ref sl) "slice" := ⟨os, hos, hcs⟩
  unfold getItem
  try with_reducible refine wpAny_holding ?_
  first | refine wpAny_bind (wpAny_pure ?_) | skip
  refine wpAny_bind (wpAny_sequenceKey ht.typeIs (by decide) ?_)
  refine wpAny_bind (wpAny_callSpecial?_slot (name := Str.ofString "__getitem__") ht.typeIs PyProof.Rows.slot_tuple_getitem
    (wpAny_call_entry PyProof.Rows.slot_tuple_getitem ht.typeIs PyProof.Rows.entry_tuple_getitem ?_ (PyProof.Rows.args_tuple_getitem _ _)))
  show wpAny _ _ (Builtin.Tuple.tupleItemsOf (.ref t) >>= _) _ _ s
  refine wpAny_bind (tupleItemsOf_ ht ?_)
  refine wpAny_bind (wpAny_typeOf hTs ?_)
  rw [if_pos (by decide)]
  refine wpAny_bind (sliceApplied_rev hs pl pu ps ?_)
  have hno : ¬ ((((items.size : Int) - 1) == 0 && (-1 : Int) == 1 && items.size == items.size) = true) := by
    intro q
    rw [Bool.and_eq_true, Bool.and_eq_true] at q
    exact absurd (eq_of_beq q.1.2) (by decide)
  show wpAny _ _ (if (((items.size : Int) - 1) == 0 && (-1 : Int) == 1 && items.size == items.size) = true then _ else _) _ _ s
  rw [if_neg hno, pick_rev]
  first
    | exact wpAny_bind (m := Builtin.Tuple.tupleExact _) (wpAny_newObj_type (wpAny_pure ⟨_, rfl, wpAny_pure h⟩) htake)
    | exact wpAny_bind (m := Builtin.Tuple.tupleExact _) (wpAny_newObj_type (wpAny_bind (wpAny_pure (wpAny_pure ⟨_, rfl, wpAny_pure h⟩))) htake)
    | exact wpAny_bind (wpAny_bind (m := Builtin.Tuple.tupleExact _) (wpAny_newObj_type (wpAny_pure (wpAny_pure ⟨_, rfl, wpAny_pure h⟩)) htake))
    | exact wpAny_bind (wpAny_bind (m := Builtin.Tuple.tupleExact _) (wpAny_newObj_type (wpAny_pure ⟨_, rfl, wpAny_pure h⟩) htake))
end
def tRevT (K : PySem.W.Frag) (te : TE) : TE := fun σ H Q => te σ H fun x H1 => ∃ a xs, x = .ref a ∧ SqT K H1 a xs ∧ ∀ p, H1 p = none → Q (.ref p) (upd H1 p (.tup xs.reverse))
theorem pe_revT {X : Cx} {e : Expr} {te : TE} {k : Nat} {p1 p2 p3 pos : Pos} (he : PE X e te) : PE X (.Subscript e (.Slice none none (some (.UnaryOp .USub (.Constant (.int 1) k p1) p2)) p3) pos) (tRevT X.K te) := by
  refine ⟨fun pins s σ H Q I h => ?_⟩
  refine Subscript_ (thn (he.run pins s σ H _ I h) fun v s1 ⟨x, H1, I1, r1, q1⟩ => ?_)
  obtain ⟨a, xs, ex, hx, q⟩ := q1
  subst ex
  cases r1
  have hst : PO X (some (.UnaryOp .USub (.Constant (.int 1) k p1) p2)) (tPart (tUn (rU fun i => .int (-i)) (tC (.int 1)))) := po_some (pe_un un_neg pe_int)
  refine wpAny_Slice (thn (po_none.run pins s1 σ H1 (fun o H2 => o = none ∧ H2 = H1) I1 ⟨rfl, rfl⟩) fun vl s2 ⟨l, H2, I2, pl, el, e2⟩ => ?_)
  subst el e2
  refine thn (po_none.run pins s2 σ H2 (fun o H3 => o = none ∧ H3 = H2) I2 ⟨rfl, rfl⟩) fun vu s3 ⟨u, H3, I3, pu, eu, e3⟩ => ?_
  subst eu e3
  refine thn (hst.run pins s3 σ H3 (fun o H4 => o = some (-1) ∧ H4 = H3) I3 ⟨1, rfl, -1, rfl, rfl, rfl⟩) fun vs s4 ⟨o, H4, I4, ps, eo, e4⟩ => ?_
  subst eo e4
  have I5 : Inv X pins σ H4 { s4 with heap := s4.heap.push { cls := .type "slice", data := .fields #[vl, vu, vs] } } := I4.kept (t' := s4.toks) fun b ob q => Heap.get?_push_of_some _ q
  obtain ⟨its, r, ht, hz⟩ := I5.tuple hx
  have hlen := r.length
  show wpAny (model X.prog X.w) X.A (subscriptTail e (.Slice none none (some (.UnaryOp .USub (.Constant (.int 1) k p1) p2)) p3) (.ref a) (.ref s4.heap.objs.size)) (EP X pins σ Q) X.xe { s4 with heap := s4.heap.push { cls := .type "slice", data := .fields #[vl, vu, vs] } }
  refine tail_any (ops := [.ref a, .ref s4.heap.objs.size]) ht.typeIs (PyProof.Rows.slot_tuple_getitem.lookup) ?_ (by with_unfolding_all rfl)
  refine getItem_tuple_rev ht (Heap.IsSliceOf.new _ vl vu vs) pl pu ps ?_ (by rw [List.size_toArray]; omega)
  refine ⟨.ref _, _, I5.laid (t' := s4.toks) (o := .tup xs.reverse) (fun b ob q => Heap.get?_push_of_some _ q) (Nat.le_refl _) ?_, rfl, q _ (I5.hok.fresh (Nat.le_refl _))⟩
  exact ⟨by rw [List.length_reverse]; exact hz, _, r.reverse, IsTup.new _ _⟩
def kRevT (K : PySem.W.Frag) (Q : VK) : VK := fun x H1 => ∃ a xs, x = .ref a ∧ SqT K H1 a xs ∧ ∀ p, H1 p = none → Q (.ref p) (upd H1 p (.tup xs.reverse))
theorem g_revT {K : PySem.W.Frag} {te : TE} {σ : L2.St} {H : Hp} {Q : VK} (q : te σ H (kRevT K Q)) : tRevT K te σ H Q := q
theorem g_kRevT {K : PySem.W.Frag} {H : Hp} {Q : VK} {a : Addr} {xs : List V} (h : SqT K H a xs) (q : ∀ p H2, Ex H H2 → SqT K H2 p xs.reverse → Q (.ref p) H2) : kRevT K Q (.ref a) H := ⟨a, xs, rfl, h, fun p hp => q p _ (Ex.new hp) (SqT.of upd_same)⟩
/-! ### o >> v, v None, a bool, an int, a text -/
def shrKd (y : V) : Prop := y = .non ∨ (∃ b, y = .bl b) ∨ (∃ i, y = .int i) ∨ ∃ t, y = .str t
def rShrV (C : Addr) (sp : Sp) (E : XK) : R2 := fun x y H Q => ∃ a, x = .ref a ∧ shrKd y ∧ (∃ dx fs, H a = some (.ins C dx fs)) ∧ sp [.ref a, y] H (fun v H2 => ∃ p, v = .ref p ∧ Q v H2) E
section
variable {X : Cx} {k j : Nat} {ps : List Str} {sp : Sp} {E : XK} {C : Addr}
theorem op_shrV (D : Cf X.prog X.w X.K X.mg X.base C k "__rshift__" ps sp) (S : ShrV X.K C) (hr : Room j X.A) (hx : Passes (L2.CX X.prog X.w) X E := by exact passL) (hk : k ≤ j := by decide) : OpR X (binaryOp .RShift) (rShrV C sp E) := by
  intro pins s σ H x y v u Q I rx ry h
  obtain ⟨a, rfl, hy, ⟨dx, fs, ea⟩, q⟩ := h
  obtain rfl : v = Value.ref a := rx
  obtain ⟨f, fd, hm, hfn, b, F⟩ := D.ex
  obtain ⟨mA, O, _, _, _, _⟩ := ins_get I.hok ea
  obtain ⟨od, J, _⟩ := O.look
  obtain ⟨m0, fr⟩ := I.fr
  have go : ∀ T ∈ shrT, typeOf u = pure (.type T) → wpAny (model X.prog X.w) X.A (binaryOp .RShift (.ref a) u) (EP X pins σ Q) X.xe s := fun T hT ht => by
    obtain ⟨⟨fo, h1⟩, ⟨ro, h2⟩, h3⟩ := S.hT T hT
    refine PySem.W.ksp_binT (T := T) fr I.ok.mod.kin J ht S.hc hm.at_ hm.fn S.hr (.inl rfl) h1 h2 h3 ?_
    refine thn (run_fn F (hr.mono hk) b .nil hx I (us := [.ref a, u]) (vs := [.ref a, y]) (.cons rfl (.cons ry .nil)) q) fun w s1 hw => ?_
    obtain ⟨v1, H1, I1, rv, p, ev, q1⟩ := hw
    subst ev
    obtain rfl : w = Value.ref p := rv
    exact ⟨.ref p, H1, I1, rfl, q1⟩
  rcases hy with rfl | ⟨c, rfl⟩ | ⟨i, rfl⟩ | ⟨t, rfl⟩
  · obtain rfl : u = Value.none := ry
    exact go "NoneType" (by decide) rfl
  · obtain rfl : u = Value.bool c := ry
    exact go "bool" (by decide) rfl
  · obtain ⟨t, rfl⟩ := ry
    exact go "int" (by decide) rfl
  · obtain ⟨t, rfl⟩ := ry
    exact go "str" (by decide) rfl
end
/-! ### o == t, t a tuple, by an own def -/
theorem tb_tup {M : Model} {h : Heap} {b : Addr} {its : Array Value} (ht : IsTup h b its) : PySem.W.Looks M h (typeOf (.ref b)) (.type "tuple") := by
  obtain ⟨o, ho, hc, n, hd⟩ := ht
  exact fun A Q E s k q => wpAny_typeOf ⟨o, k _ _ ho, hc⟩ q
def rEqT (K : PySem.W.Frag) (C : Addr) (sp : Sp) (E : XK) : R2 := fun x y H Q => ∃ a b xs, x = .ref a ∧ y = .ref b ∧ (∃ dx fs, H a = some (.ins C dx fs)) ∧ SqT K H b xs ∧ sp [.ref a, .ref b] H (kBl Q) E
theorem op_eqOT {X : Cx} {k j : Nat} {ps : List Str} {sp : Sp} {E : XK} {C : Addr} (D : Mf X.prog X.w X.K X.mg X.base C k "__eq__" ps sp) (S : EqtC X.K C) (hr : Room j X.A) (hx : Passes (L2.CX X.prog X.w) X E := by exact passL) (hk : k ≤ j := by decide) : OpR X (compareOp .Eq) (rEqT X.K C sp E) := by
  intro pins s σ H x y v u Q I rx ry h
  obtain ⟨a, b, xs, rfl, rfl, ⟨dx, fs, ha⟩, hb', q⟩ := h
  obtain rfl : v = Value.ref a := rx
  obtain rfl : u = Value.ref b := ry
  obtain ⟨f, fd, hm, hb, F⟩ := D.ex
  obtain ⟨mA, J, _⟩ := ins_get I.hok ha
  obtain ⟨od, J, _⟩ := J.look
  obtain ⟨its, r, ht, hz⟩ := I.tuple hb'
  obtain ⟨m, hF⟩ := I.fr
  show wpAny (model X.prog X.w) X.A (richCompare .Eq (.ref a) (.ref b)) (EP X pins σ Q) X.xe s
  refine PySem.W.cmp_K (op := .Eq) (tb := .type "tuple") hr.units0 hF I.ok.mod.kin J (tb_tup ht) S.nf hm.at_ hm.fn ?_
  refine thn (run_fn F (hr.mono hk) hb .nil hx I (us := [.ref a, .ref b]) (vs := [.ref a, .ref b]) (.cons rfl (.cons rfl .nil)) q) fun v s1 hv => ?_
  obtain ⟨z, H1, I1, rz, c, ez, q1⟩ := hv
  subst ez
  cases rz
  exact ⟨.bl c, H1, I1, rfl, q1⟩
theorem g_eqOT {K : PySem.W.Frag} {C a b : Addr} {sp : Sp} {E : XK} {H : Hp} {Q : VK} {dx : Addr} {fs : List (Str × V)} {xs : List V} (h1 : H a = some (.ins C dx fs)) (h2 : SqT K H b xs) (q : sp [.ref a, .ref b] H (kBl Q) E) : rEqT K C sp E (.ref a) (.ref b) H Q := ⟨a, b, xs, rfl, rfl, ⟨dx, fs, h1⟩, h2, q⟩
/-! ### cls(..), cls a parameter -/
def tMakeV (C : Addr) (sp : Sp) (E : XK) (tf : TE) (t : TA) : TE := fun σ H Q => tf σ H fun y H1 => y = .ref C ∧ tMake C sp [] E t σ H1 Q
theorem pkV {X : Cx} {k j : Nat} {x xn : Str} {ps : List Str} {sp : Sp} {E : XK} {C : Addr} {p pos : Pos} {e : Expr} {es : List Expr} {tf : TE} {t : TA} (D : If X.prog X.w X.K X.mg X.base xn C k ps sp) (hr : Room j X.A) (hf : PE X (.Name x p) tf) (ha : PA X (e :: es) t) (hx : Passes (L2.CX X.prog X.w) X E := by exact passL) (hk : k + 1 ≤ j := by decide)
    (he : starEach (e :: es) X.env = (false, eval e X.env) :: starEach es X.env := by rfl) (hpl : (backTo pos (starEach es X.env)).any (·.1) = false := by rfl) :
    PE X (.Call (.Name x p) (e :: es) [] pos) (tMakeV C sp E tf t) := by
  obtain ⟨f, fd, M, hm, b, F⟩ := D.ex
  refine ⟨fun pins s σ H Q I h => ?_⟩
  refine wpAny_Call_Name_kw (thn (hf.run pins s σ H _ I h) fun fv s0 ⟨v, H0, I0, r0, ev, q0⟩ => ?_)
  subst ev
  obtain rfl : fv = Value.ref C := r0
  refine PySem.W.callWith_K (h₀ := X.base) I0.ok.mod.kin M.kp (thn (ha.run pos pins s0 σ H0 _ I0 q0) fun us s1 ⟨vs, H1, I1, r, q⟩ => ⟨I1.kIn, ?_⟩) he hpl
  exact run_make M F (hr.mono hk) b .nil hx I1 r q
def kMakeV (C : Addr) (sp : Sp) (E : XK) (t : TA) (σ : L2.St) (Q : VK) : VK := fun y H1 => y = .ref C ∧ tMake C sp [] E t σ H1 Q
theorem g_makeV {C : Addr} {sp : Sp} {E : XK} {tf : TE} {t : TA} {σ : L2.St} {H : Hp} {Q : VK} (q : tf σ H (kMakeV C sp E t σ Q)) : tMakeV C sp E tf t σ H Q := q
theorem g_kMakeV {C : Addr} {sp : Sp} {E : XK} {t : TA} {σ : L2.St} {H : Hp} {Q : VK} (q : tMake C sp [] E t σ H Q) : kMakeV C sp E t σ Q (.ref C) H := ⟨rfl, q⟩
/-! ### a class method with a star parameter -/
/-- what a def with a star parameter binds -/
abbrev BindS (q x : Str) (st : Stmt) (p1 pv : Str) : Prop := ∀ (kV doc pm : Value) (an : Option Addr) (cdv ct : Value) (us rest : List Value), us.length = [p1].length → bindArgs (PySem.W.fnOf x q (defArgs st) (defBody st) (defScope st) .none kV doc pm an cdv ct) ⟨us ++ rest, []⟩ = (newTuple rest >>= fun t => pure ([p1].zip us ++ [(pv, t)]))
structure SFun (K : PySem.W.Frag) (C : Addr) (m q : Str) (st : Stmt) : Prop where
  ex : CmC K C m ∧ ∃ fd, Fun K m q st (cmA K C m) fd
structure Sf (P : Program) (w : World) (K : PySem.W.Frag) (mg : Str → Option Value) (base : Heap) (C : Addr) (k : Nat) (m : Str) (sp : Sp) : Prop where
  ex : ∃ p g, ClX.CRead K C (.type "type") ∧ ClX.CMet K C (.type "type") m p g ∧ FnR P w K mg base (L2.CX P w) k g sp
theorem Sf.of {P : Program} {w : World} {K : PySem.W.Frag} {mg : Str → Option Value} {base : Heap} {C : Addr} {m q p1 pv : Str} {st : Stmt} {N : List Str} {k : Nat} {sp0 sp : Sp} (G : SFun K C m q st) (S : FnScope N [p1, pv] (defScope st)) (hb : BindS q m st p1 pv)
    (hs : ∀ vs H Q E, sp vs H Q E → ∃ w rest, vs = w :: rest ∧ rest.length ≤ sizeLine ∧ ∀ p, H p = none → sp0 [w, .ref p] (upd H p (.tup rest)) Q E) (body : ∀ f, Body P w K mg base q N st f k sp0) : Sf P w K mg base C (k + 1) m sp := by
  obtain ⟨c, fd, F⟩ := G.ex
  obtain ⟨oc, od, kV, doc, pm, an, cdv, ct, osl, rfl, lk, hcd⟩ := F.ex
  have hf : PySem.W.fnIn K (cmA K C m) = true := by
    unfold PySem.W.fnIn
    rw [lk]
  refine ⟨_, _, c.rd, ⟨c.wr.1, c.wr.2, hf⟩, ?_⟩
  have R := StX.fn_star (P := P) (w := w) (mg := mg) (base := base) (CX := L2.CX P w) (ps := [p1]) (pv := pv) (sp := sp0) (k := k) lk hcd S StX.cxUp (fun us rest hl => hb kV doc pm an cdv ct us rest hl) (fun A outer s H vs Q E hr h => body _ cdv A outer s H vs Q E hr h)
  intro A outer s H us vs Q E hr e0 rv h
  refine R A outer s H us vs Q E hr e0 rv ?_
  obtain ⟨w, rest, rfl, hl, hq⟩ := hs vs H Q E h
  exact ⟨[w], rest, rfl, rfl, hl, hq⟩
/-- a class method without a star parameter -/
theorem Sf.ofN {P : Program} {w : World} {K : PySem.W.Frag} {mg : Str → Option Value} {base : Heap} {C : Addr} {m q : Str} {st : Stmt} {N ps : List Str} {k : Nat} {sp : Sp} (G : SFun K C m q st) (S : FnScope N ps (defScope st)) (hb : BindL q m st ps)
    (len : ∀ vs H Q E, sp vs H Q E → vs.length = ps.length) (body : ∀ f, Body P w K mg base q N st f k sp) : Sf P w K mg base C (k + 1) m sp := by
  obtain ⟨c, fd, F⟩ := G.ex
  have OK := F.okX S len (body _)
  have bd := F.binds hb
  refine ⟨_, _, c.rd, ⟨c.wr.1, c.wr.2, fnIn_of F⟩, ?_⟩
  intro A outer s H us vs Q E hr e0 rv h
  have KX : K.In s.heap := e0.mod.kin.keeps fun b o e => (e0.bs b o e).1
  have hl : us.length = ps.length := by rw [← rv.length]; exact OK.len _ _ _ _ h
  have hb2 := bd s us KX (by rw [List.append_nil]; exact hl)
  rw [List.append_nil] at hb2
  exact OK.run A outer s H ⟨us, []⟩ us vs Q E hr e0 hb2 rv h
theorem pcm {X : Cx} {k j : Nat} {C : Addr} {sp : Sp} {E : XK} {o e : Expr} {es : List Expr} {m : Str} {pos apos : Pos} {ta : TE} {t : TA} {pl : Sem Bool} (ho : PE X o ta) (D : Sf X.prog X.w X.K X.mg X.base C k m sp) (hr : Room j X.A) (ha : PA X (e :: es) t) (hx : Passes (L2.CX X.prog X.w) X E := by exact passL) (hk : k ≤ j := by decide)
    (hst : starEach (e :: es) X.env = (false, eval e X.env) :: starEach es X.env := by rfl) (hpl : (backTo pos (starEach es X.env)).any (·.1) = false := by rfl)
    (ht : eval (.Call (.Attribute o m apos) (e :: es) [] pos) X.env = (do
      let ov ← eval o X.env
      standAt apos.atName
      let (f, first) ← holding [ov] (getMethod ov m pl)
      callWith pos f first (backTo pos (starEach (e :: es) X.env)) (backToKw pos (keywordEach [] X.env))) := by rfl) : PE X (.Call (.Attribute o m apos) (e :: es) [] pos) (ClX.tCMeth C sp E ta t) := by
  obtain ⟨p, g, r, c, F⟩ := D.ex
  exact ClX.pe_cmeth ho r c F (hr.mono hk) hx ha hst hpl ht
def kCMeth (C : Addr) (sp : Sp) (E : XK) (t : TA) (σ : L2.St) (Q : VK) : VK := fun x H1 => x = .ref C ∧ t σ H1 fun vs H2 => sp (.ref C :: vs) H2 Q E
theorem g_cm {C : Addr} {sp : Sp} {E : XK} {ta : TE} {t : TA} {σ : L2.St} {H : Hp} {Q : VK} (q : ta σ H (kCMeth C sp E t σ Q)) : ClX.tCMeth C sp E ta t σ H Q := q
theorem g_kCM {C : Addr} {sp : Sp} {E : XK} {t : TA} {σ : L2.St} {H : Hp} {Q : VK} (q : t σ H fun vs H2 => sp (.ref C :: vs) H2 Q E) : kCMeth C sp E t σ Q (.ref C) H := ⟨rfl, q⟩
end G48

namespace G48
open PySem PySem.Spec PyProof.Rows L2 Evl
abbrev N__law_raised : List Str := ["_law_work", "e", "_law_kinds"]
theorem sc__law_raised : FnScope N__law_raised ["_law_work"] (defScope s__law_raised) := ⟨rfl, rfl, rfl, by decide +kernel, rfl, by decide +kernel, by decide +kernel⟩
theorem b__law_raised : BindL "_law_raised" "_law_raised" s__law_raised ["_law_work"] := fun _ _ _ _ _ _ us hl => match us, hl with | [_], _ => rfl
end G48
/-! `_law_raised`: the word of the error that a lambda raises, or None -/
namespace G48
open PySem PySem.Spec PyProof.Rows L2 Evl
/-! the steps -/
local macro_rules | `(tactic| walk_at "as") => `(tactic| with_reducible assumption)
local macro_rules | `(tactic| walk_at "hp") => `(tactic| first
  | with_reducible assumption
  | ((with_reducible apply SqT.of); walk_at "as")
  | ((with_reducible apply SqL.of); walk_at "as")
  | ((with_reducible apply ex_at); (focus walk_at "as"); walk_at "hp")
  | ((with_reducible apply ex_t); (focus walk_at "as"); walk_at "hp")
  | ((with_reducible apply ex_l); (focus walk_at "as"); walk_at "hp")
  | ((with_reducible apply exb_ins); (focus walk_at "as"); (focus walk_at "hp"); walk_at "hp")
  | ((with_reducible apply exb_t); (focus walk_at "as"); (focus walk_at "hp"); walk_at "hp")
  | ((with_reducible apply exb_at); (focus walk_at "as"); (focus walk_at "ne"); walk_at "hp")
  | ((with_reducible apply exb_l); (focus walk_at "as"); (focus walk_at "ne"); walk_at "hp"))
local macro_rules | `(tactic| walk_at "ne") => `(tactic| first
  | with_reducible assumption
  | exact Ne.symm (by with_reducible assumption)
  | exact ne_of_none (by with_reducible assumption) (by with_reducible assumption)
  | exact Ne.symm (ne_of_none (by with_reducible assumption) (by with_reducible assumption)))
local macro_rules | `(tactic| walk_at "tr") => `(tactic| first
  | rfl
  | with_reducible assumption
  | exact decide_eq_true (by first | with_reducible assumption | omega)
  | exact decide_eq_false (by first | with_reducible assumption | omega)
  | (rw [Bool.not_eq_true']; exact decide_eq_false (by first | with_reducible assumption | omega))
  | (rw [Bool.not_eq_false']; exact decide_eq_true (by first | with_reducible assumption | omega)))
local macro_rules | `(tactic| walk_at "nn") => `(tactic| first | with_reducible assumption | (exact List.cons_ne_nil _ _))
local macro_rules | `(tactic| walk_at "sz") => `(tactic| first | (exact sz1000 (Nat.le_of_ble_eq_true rfl)) | (refine sz1000 ?_; simp only [List.length_map, List.length_cons, List.length_nil, List.length_append]; omega) | with_reducible assumption)
local macro_rules | `(tactic| walk_at "sl") => `(tactic| first | with_reducible assumption | (refine lt1000 ?_; simp only [List.length_map, List.length_cons, List.length_nil, List.length_append]; omega) | (refine lt1000 ?_; omega))
local macro_rules | `(tactic| walk_at "ix") => `(tactic| first | rfl | with_reducible assumption)
local macro_rules | `(tactic| walk_at "rg") => `(tactic| exact RgOk.of_le (by omega) (by omega) (by omega) (by omega))
local macro_rules | `(tactic| walk_at "sp") => `(tactic| fail "sp")
local macro_rules | `(tactic| walk_at "cl") => `(tactic| with_reducible assumption)
local macro_rules | `(tactic| walk_at "lk") => `(tactic| with_reducible assumption)
local macro_rules | `(tactic| walk_at "it") => `(tactic| first | rfl | with_reducible assumption | exact atI_nat (by with_reducible assumption))
local macro_rules | `(tactic| walk_at "g1") => `(tactic| first
  | (with_reducible apply g_var); (focus rfl)
  | with_reducible apply g_c
  | with_reducible apply g_seq
  | with_reducible apply g_asg
  | with_reducible apply gg_name
  | with_reducible apply g_op
  | with_reducible apply g_cons
  | with_reducible apply g_nil
  | with_reducible apply g_cb
  | with_reducible apply g_fld
  | ((with_reducible apply g_kFld); (focus walk_at "hp"); (focus walk_at "cl"); (focus walk_at "cl"); (focus walk_at "lk"))
  | with_reducible apply g_call
  | walk_at "sp"
  | with_reducible apply g_ret
  | with_reducible apply g_drop
  | with_reducible apply g_test
  | with_reducible apply g_B
  | with_reducible apply g_kTest
  | with_reducible apply g_ifS
  | with_reducible apply g_kIfST
  | with_reducible apply g_kIfSF
  | with_reducible apply g_add
  | with_reducible apply g_sub
  | with_reducible apply g_lt
  | with_reducible apply g_le
  | with_reducible apply g_gt
  | with_reducible apply g_ge
  | with_reducible apply g_eqI
  | with_reducible apply g_neI
  | ((with_reducible apply g_mod); (focus first | decide | omega))
  | ((with_reducible apply g_mul); (focus first | (left; constructor <;> omega) | (right; constructor <;> omega)))
  | ((with_reducible apply g_fdiv); (focus (constructor <;> omega)))
  | ((with_reducible apply g_ixT); (focus walk_at "hp"); (focus walk_at "it"))
  | ((with_reducible apply g_ixL); (focus walk_at "hp"); (focus walk_at "it"))
  | with_reducible apply g_and
  | with_reducible apply g_or
  | with_reducible apply g_not
  | with_reducible apply g_kNotT
  | with_reducible apply g_kNotF
  | with_reducible apply g_if
  | with_reducible apply g_kAndT
  | with_reducible apply g_kAndF
  | with_reducible apply g_kOrT
  | with_reducible apply g_kOrF
  | with_reducible apply g_kIfT
  | with_reducible apply g_kIfF
  | with_reducible apply g_next
  | with_reducible apply g_andV
  | with_reducible apply g_orV
  | with_reducible apply g_notV
  | with_reducible apply g_kNotV
  | with_reducible apply g_kAndVT
  | with_reducible apply g_kAndVF
  | with_reducible apply g_chain
  | with_reducible apply g_kChainT
  | with_reducible apply g_kChainF
  | with_reducible apply g_tup
  | with_reducible apply g_lst
  | ((with_reducible apply g_kT); (focus walk_at "sz"); intro _ _ _ _ _)
  | ((with_reducible apply g_kL); (focus walk_at "sz"); intro _ _ _ _ _)
  | with_reducible apply g_un
  | with_reducible apply g_neg
  | with_reducible apply g_meth
  | ((with_reducible apply g_kMeth); (focus walk_at "hp"); (focus walk_at "lk"))
  | with_reducible apply g_prop
  | ((with_reducible apply g_kProp); (focus walk_at "hp"))
  | with_reducible apply g_make
  | with_reducible apply g_par
  | with_reducible apply g_kPar
  | ((with_reducible apply g_lenLM); (focus walk_at "hp"))
  | ((with_reducible apply g_lenTM); (focus walk_at "hp"))
  | ((with_reducible apply g_lenL); (focus walk_at "hp"))
  | ((with_reducible apply g_lenT); (focus walk_at "hp"))
  | with_reducible apply g_int1
  | with_reducible apply g_max2
  | with_reducible apply g_min2
  | ((with_reducible apply g_listL); (focus walk_at "hp"); intro _ _ _ _ _)
  | ((with_reducible apply g_listT); (focus walk_at "hp"); intro _ _ _ _ _)
  | ((with_reducible apply g_tupL); (focus walk_at "hp"); intro _ _ _ _ _)
  | ((with_reducible apply g_sum); (focus walk_at "hp"))
  | with_reducible apply g_sfld
  | with_reducible apply g_sl
  | with_reducible apply g_nopart
  | with_reducible apply g_part
  | with_reducible apply g_kPart
  | with_reducible apply g_lstRg
  | with_reducible apply g_rg1
  | with_reducible apply g_kRg1
  | with_reducible apply g_bm
  | with_reducible apply gg_sub
  | ((with_reducible apply gg_tup); (focus walk_at "hp"); (focus rfl))
  | with_reducible apply gg_cons
  | with_reducible apply gg_nil
  | with_reducible apply g_forL
  | with_reducible apply g_forT
  | with_reducible apply g_forR1
  | with_reducible apply g_forR2
  | with_reducible apply g_forE
  | with_reducible apply g_forEL
  | ((with_reducible apply g_maxT); (focus walk_at "hp"); (focus walk_at "nn"))
  | ((with_reducible apply g_maxL); (focus walk_at "hp"); (focus walk_at "nn"))
  | ((with_reducible apply g_catA); (focus walk_at "hp"); (focus walk_at "hp"); (focus walk_at "sz"); intro _ _ _ _)
  | ((with_reducible apply g_slA); (focus walk_at "hp"); intro _ _ _ _)
  | ((with_reducible apply g_tupD); (focus walk_at "hp"); intro _ _ _ _ _)
  | ((with_reducible apply g_setL); (focus walk_at "hp"); (focus walk_at "ix"); intro _ _ _)
  | ((with_reducible apply g_append); (focus walk_at "hp"); (focus walk_at "sl"); intro _ _ _)
  | ((with_reducible apply g_aug); (focus rfl))
  | with_reducible apply g_ipI
  | with_reducible apply g_retN
  | with_reducible apply g_lcR1
  | with_reducible apply g_lcR2
  | with_reducible apply g_lcL
  | with_reducible apply g_lcU
  | with_reducible apply g_lcN
  | ((with_reducible apply g_kLcG); (focus rfl))
  | with_reducible apply g_yes
  | with_reducible apply g_kLcTT
  | with_reducible apply g_kLcTF
  | ((with_reducible apply g_kLcE); (focus walk_at "hp"); (focus walk_at "sl"); intro _ _ _)
  | ((with_reducible apply g_pow); (focus (constructor <;> (try constructor) <;> decide)))
  | ((with_reducible apply g_kLRg); (focus walk_at "rg"); intro _ _ _ _ _)
  | ((with_reducible apply g_cat); (focus walk_at "hp"); (focus walk_at "hp"); (focus walk_at "sz"); intro _ _ _ _ _)
  | ((with_reducible apply g_slL); (focus walk_at "hp"); intro _ _ _ _ _)
  | with_reducible apply g_bmT
  | with_reducible apply g_break
  | with_reducible apply g_cont)
local macro_rules | `(tactic| walk_at "g0") => `(tactic| try dsimp only [L2.cxOf, L2.Cx.nox, L2.Cx.wish])
local macro_rules | `(tactic| walk_at "yn") => `(tactic| first
  | ((with_reducible apply y_kIfS); (focus walk_at "tr"))
  | ((with_reducible apply n_kIfS); (focus walk_at "tr"))
  | ((with_reducible apply y_kOr); (focus walk_at "tr"))
  | ((with_reducible apply n_kOr); (focus walk_at "tr"))
  | ((with_reducible apply y_kAnd); (focus walk_at "tr"))
  | ((with_reducible apply n_kAnd); (focus walk_at "tr"))
  | ((with_reducible apply y_kNot); (focus walk_at "tr"))
  | ((with_reducible apply n_kNot); (focus walk_at "tr"))
  | ((with_reducible apply y_kIf); (focus walk_at "tr"))
  | ((with_reducible apply n_kIf); (focus walk_at "tr"))
  | ((with_reducible apply y_kAndV); (focus walk_at "tr"))
  | ((with_reducible apply n_kAndV); (focus walk_at "tr"))
  | ((with_reducible apply y_kOrV); (focus walk_at "tr"))
  | ((with_reducible apply n_kOrV); (focus walk_at "tr"))
  | ((with_reducible apply y_kChain); (focus walk_at "tr"))
  | ((with_reducible apply n_kChain); (focus walk_at "tr"))
  | ((with_reducible apply y_kLcT); (focus walk_at "tr"))
  | ((with_reducible apply n_kLcT); (focus walk_at "tr"))
  | ((with_reducible apply y_kWh); (focus walk_at "tr"))
  | ((with_reducible apply n_kWh); (focus walk_at "tr")))
local macro_rules | `(tactic| walk_at "go") => `(tactic| repeat (first | walk_at "g1" | walk_at "yn"))
local macro_rules | `(tactic| walk_at "hp") => `(tactic| first
  | ((with_reducible apply RingIn.ex); (focus walk_at "as"); walk_at "hp")
  | ((with_reducible apply RingAt.ex); (focus walk_at "as"); walk_at "hp")
  | ((with_reducible apply RingIn.exb); (focus walk_at "as"); (focus walk_at "hp"); walk_at "hp")
  | ((with_reducible apply RingAt.exb); (focus walk_at "as"); (focus walk_at "hp"); walk_at "hp")
  | ((with_reducible apply TupK.ex); (focus walk_at "as"); walk_at "hp")
  | ((with_reducible apply TupK.exb); (focus walk_at "as"); (focus walk_at "hp"); walk_at "hp"))
local macro_rules | `(tactic| walk_at "lk") => `(tactic| first | with_reducible exact rf_spans | with_reducible exact rf_heaps | with_reducible exact rf_total | with_reducible exact rf_nr | with_reducible exact rf_wd)
local macro_rules | `(tactic| walk_at "sp") => `(tactic| first
  | ((with_reducible apply g_isiTup); (focus walk_at "hp"))
  | ((with_reducible apply g_isiLst); (focus walk_at "hp"))
  | ((with_reducible apply g_isint); (focus omega); (focus omega))
  | ((with_reducible apply g_checkn); (focus omega); (focus omega))
  | ((with_reducible apply g_rbooks); (focus walk_at "hp"))
  | ((with_reducible apply g_rpace); (focus walk_at "hp"); intro _ _ _ _)
  | ((with_reducible apply g_rlen); (focus walk_at "hp"))
  | ((with_reducible apply g_rneed); (focus walk_at "hp"); (focus omega))
  | ((with_reducible apply g_rneedM); (focus walk_at "hp"))
  | ((with_reducible apply g_rwithM); (focus walk_at "hp"))
  | ((with_reducible apply g_rspans); (focus walk_at "hp"); (focus with_reducible assumption))
  | ((with_reducible apply g_rheaps); (focus walk_at "hp"); (focus with_reducible assumption))
  | ((with_reducible apply g_rtotal); (focus walk_at "hp"); (focus with_reducible assumption)))

theorem psr_ownR {X : Cx} {C : Addr} {W : WX} {x m : Str} {j n : Nat} {p p2 pos pos' : Pos} (T : ExcR X.K C n) (gC : X.mg x = some (.ref C)) (hc : X.calm = true) (tk : Takes X W) (hg : Gl X x := by rfl) (hdb : (x == ("__debug__" : Str)) = false := by decide) :
    PS X (.Raise (some (.Call (.Name x p) [.Constant (.str m) j p2] [] pos)) none pos') (fun _ σ H => W (.ref C) none σ H) :=
  ps_raise hc tk (pmk_own PySem.F.excBase_ValueError T.ex gC T.kp (raises_own T.sb T.ty) hg hdb)
/-- told: nothing, or the word of an error without fields -/
def RaiseE (K : PySem.W.Frag) (Q : VK) : XK := fun cls d H' =>
  ∃ D j, cls = .ref D ∧ d = none ∧ ExcR K D j ∧ 1 ≤ j ∧ j ≤ 3 ∧ ∀ p H'', H' p = none → Ex H' H'' → H'' p = some (.tup [.str (erWord j)]) → Q (.ref p) H''
def TRaiseP (K : PySem.W.Frag) (tl : XK → Hp → VK → Prop) (H : Hp) (Q : VK) : Prop := tl (RaiseE K Q) H fun _ H' => Q .non H'
section
variable {P : Program} {w : World} {K : PySem.W.Frag} {mg : Str → Option Value} {base : Heap}
theorem DicA.ex {H H' : Hp} {d : Option Addr} (e : Ex H H') (h : DicA H d) : DicA H' d := h.imp id fun ⟨dd, fs, a, b⟩ => ⟨dd, fs, a, e _ _ b⟩
theorem g_isX {H : Hp} {Q : VK} {D a C : Addr} {d : Option Addr} {b : Bool} (hd : DicA H d) (h : PySem.W.kitOne K (.ref D) (.ref C) = some b) (q : Q (.bl b) H) : rIsX K D d a [.ref a, .ref C] H Q := ⟨hd, .ref C, .ref C, b, rfl, fun u r => r, h, q⟩
theorem g_isXt {H : Hp} {Q : VK} {D a : Addr} {d : Option Addr} {T : String} {b : Bool} (hd : DicA H d) (h : PySem.W.kitOne K (.ref D) (.type T) = some b) (q : Q (.bl b) H) : rIsX K D d a [.ref a, .ty T] H Q := ⟨hd, .ty T, .type T, b, rfl, fun u r => r, h, q⟩
def flagsR (j : Nat) : List V := (List.range 6).map fun i => .bl (decide (i = j))
theorem g_cntFlagR {H : Hp} {Q : VK} {a : Addr} {j : Nat} (h : SqL K H a (flagsR j)) (hj : j < 6) (q : Q (.int 1) H) : rCntF K (.ref a) [.bl true] H Q := by
  have e : (flagsR j).countP (fun z => eqV z (.bl true)) = 1 ∧ (flagsR j).all flatV = true := by
    have : j = 0 ∨ j = 1 ∨ j = 2 ∨ j = 3 ∨ j = 4 ∨ j = 5 := by omega
    rcases this with rfl | rfl | rfl | rfl | rfl | rfl <;> exact ⟨rfl, rfl⟩
  refine ⟨a, flagsR j, .bl true, rfl, rfl, h, rfl, e.2, ?_⟩
  rw [e.1]
  exact q
theorem g_idxFlagR {H : Hp} {Q : VK} {a : Addr} {j : Nat} (h : SqL K H a (flagsR j)) (hj : j < 6) (q : Q (.int (j : Nat)) H) : rIndex K (.ref a) [.bl true] H Q := by
  have e : (flagsR j).all flatV = true := by
    have : j = 0 ∨ j = 1 ∨ j = 2 ∨ j = 3 ∨ j = 4 ∨ j = 5 := by omega
    rcases this with rfl | rfl | rfl | rfl | rfl | rfl <;> rfl
  refine ⟨a, flagsR j, .bl true, j, .bl true, rfl, rfl, h, rfl, e, ?_, rfl, fun m z hm hz => ?_, q⟩
  · unfold flagsR
    rw [List.getElem?_map, List.getElem?_range hj]
    simp
  · unfold flagsR at hz
    rw [List.getElem?_map, List.getElem?_range (by omega)] at hz
    have hz : V.bl (decide (m = j)) = z := by simpa using hz
    rw [← hz, decide_eq_false (by omega : ¬ m = j)]
    rfl
theorem ok_raised (Z : Blt mg) (g_ReadingError : mg "ReadingError" = some (.ref (He.ga K "ReadingError"))) (g_BeingRead : mg "BeingRead" = some (.ref (He.ga K "BeingRead"))) (g_InvalidNumber : mg "InvalidNumber" = some (.ref (He.ga K "InvalidNumber"))) (g_UnknownBook : mg "UnknownBook" = some (.ref (He.ga K "UnknownBook")))
    (g_Contradiction : mg "Contradiction" = some (.ref (He.ga K "Contradiction"))) (g_InvalidOperation : mg "InvalidOperation" = some (.ref (He.ga K "InvalidOperation"))) (g_DiaryError : mg "DiaryError" = some (.ref (He.ga K "DiaryError"))) : GivesL P w K mg base N__law_raised "_law_raised" s__law_raised "_law_work" 9 (TRaiseP K) := by
  intro g cdg A outer s H f Q LF tl hr act hLF h
  refine ⟨_, pss_cons (ps_try_as (i := 1) rfl rfl sc__law_raised.nd rfl rfl ⟨rfl, by decide, .inl g_ReadingError⟩ takes0
      (tb := fun W D σ H => ∃ Ech : L2.St → XK, (∀ σ' cls d H', Ech σ' cls d H' → W cls d σ' H') ∧ σ[0]? = some (some (.ref f)) ∧ LF H ∧ tl (Ech σ) H fun _ H' => D.nx σ H')
      (fun W pn xe tk _ => ⟨fun pins s' σ H' D I h' => by
        obtain ⟨Ech, hW, h1, h2, h3⟩ := h'
        exact (pss_one (ps_expr (act W pn xe Ech _ _ tk hW))).run pins s' σ H' D I ⟨h1, h2, h3⟩⟩)
      (fun a oe cls d pn hz hf => pss_err hz fun Dc hz hC => (pss_cons (ps_set (i := 2) sc__law_raised.nd rfl (by first | exact Or.inl rfl | exact Or.inr rfl) (pe_lst (pa_cons (pe_callB (call_isX hC hz hf) (by rfl) Z.zisinstance (by decide +kernel) (pa_cons (pv 1) (pa_cons (pcls g_BeingRead) pa_nil))) (pa_cons (pe_callB (call_isX hC hz hf) (by rfl) Z.zisinstance (by decide +kernel) (pa_cons (pv 1) (pa_cons (pcls g_InvalidNumber) pa_nil))) (pa_cons (pe_callB (call_isX hC hz hf) (by rfl) Z.zisinstance (by decide +kernel) (pa_cons (pv 1) (pa_cons (pcls g_UnknownBook) pa_nil))) pa_nil)))))
      (pss_cons (ps_set (i := 2) sc__law_raised.nd rfl (by first | exact Or.inl rfl | exact Or.inr rfl) (pe_op op_cat (pv 2) (pe_lst (pa_cons (pe_callB (call_isX hC hz hf) (by rfl) Z.zisinstance (by decide +kernel) (pa_cons (pv 1) (pa_cons (pcls g_Contradiction) pa_nil))) (pa_cons (pe_callB (call_isX hC hz hf) (by rfl) Z.zisinstance (by decide +kernel) (pa_cons (pv 1) (pa_cons (pcls g_InvalidOperation) pa_nil))) (pa_cons (pe_callB (call_isX hC hz hf) (by rfl) Z.zisinstance (by decide +kernel) (pa_cons (pv 1) (pa_cons (pcls g_DiaryError) pa_nil))) pa_nil))))))
      (pss_cons (ps_if (PW.pt (pw_or (pt_cmpR op_ne (pe_bmK K PySem.F.plainAttrs_list PySem.F.slot_list_count PySem.F.type_list_count (mt_countFK K) (pv 2) (pa_cons pe_bl pa_nil)) pe_int (nomark _)) (pw_or1 (pt_not (pt_val (pe_callB (call_isX hC hz hf) (by rfl) Z.zisinstance (by decide +kernel) (pa_cons (pv 1) (pa_cons (pe_bltn rfl Z.zValueError (v := .ty "ValueError") (by decide +kernel) rfl) pa_nil)))))))) (pss_one (ps_ret (pe_tup (pa_cons pe_str pa_nil)))) pss_nil)
      (pss_cons (ps_if (pt_val (pe_ix (ix_listK K) (pv 2) pe_int (fun _ _ => rfl))) (pss_one (ps_ret (pe_tup (pa_cons pe_str (pa_cons (pe_errF hC hz hf (pv 1)) pa_nil))))) pss_nil)
      (pss_cons (ps_if (pt_val (pe_ix (ix_listK K) (pv 2) pe_int (fun _ _ => rfl))) (pss_one (ps_ret (pe_tup (pa_cons pe_str (pa_cons (pe_errF hC hz hf (pv 1)) pa_nil))))) pss_nil)
      (pss_cons (ps_if (pt_val (pe_ix (ix_listK K) (pv 2) pe_int (fun _ _ => rfl))) (pss_one (ps_ret (pe_tup (pa_cons pe_str (pa_cons (pe_errF hC hz hf (pv 1)) pa_nil))))) pss_nil)
      (pss_one (ps_ret (pe_tup (pa_cons (pe_ix (ix_listK K) (pe_lst (pa_cons pe_str (pa_cons pe_str (pa_cons pe_str (pa_cons pe_str pa_nil))))) (pe_bmK K PySem.F.plainAttrs_list PySem.F.slot_list_index PySem.F.type_list_index (mt_indexK K) (pv 2) (pa_cons pe_bl pa_nil)) (fun _ _ => rfl)) pa_nil)))))))))))) (pss_one (ps_ret pe_non)), ?_⟩
  have eE : ∀ E' : XK, (fun (σ' : L2.St) (cls : Value) (d : Option Addr) (H' : Hp) => σ' = L2.start N__law_raised [V.ref f] ∧ E' cls d H') (L2.start N__law_raised [V.ref f]) = E' := fun E' => by
    funext cls d H'
    simp
  refine ⟨fun σ' cls d H' => σ' = L2.start N__law_raised [V.ref f] ∧ RaiseE K Q cls d H', ?_, rfl, hLF, ?_⟩
  · rintro σ' cls d H' ⟨rfl, ⟨D, j, rfl, rfl, T, hj1, hj3, q⟩⟩
    refine ⟨true, T.re, fun _ a ha => ⟨D, rfl, T.c, ?_⟩, fun z => by cases z⟩
    have hd : DicA H' none := .inl rfl
    have hj : j = 1 ∨ j = 2 ∨ j = 3 := by omega
    rcases hj with rfl | rfl | rfl
    all_goals
      walk_at "g0"
      walk_at "go"
      refine g_isX hd (T.is_ 0 (by decide)) ?_
      walk_at "go"
      refine g_isX hd (T.is_ 1 (by decide)) ?_
      walk_at "go"
      refine g_isX hd (T.is_ 2 (by decide)) ?_
      walk_at "go"
      rename_i p1 H1 n1 e1 h1
      refine g_isX (hd.ex e1) (T.is_ 3 (by decide)) ?_
      walk_at "go"
      refine g_isX (hd.ex e1) (T.is_ 4 (by decide)) ?_
      walk_at "go"
      refine g_isX (hd.ex e1) (T.is_ 5 (by decide)) ?_
      walk_at "go"
      rename_i p2 H2 n2 e2 h2 p3 H3 n3 e3 h3
      have e03 := (e1.trans e2).trans e3
      refine g_kBM_list (SqL.of h3) ?_
      walk_at "go"
      refine g_cntFlagR (j := _) (SqL.of h3) (by decide) ?_
      walk_at "go"
      refine g_isXt (hd.ex e03) T.ve ?_
      walk_at "go"
      rename_i p4 H4 n4 e4 h4
      refine g_kBM_list (SqL.of (e4 _ _ h3)) ?_
      walk_at "go"
      refine g_idxFlagR (j := _) (SqL.of (e4 _ _ h3)) (by decide) ?_
      walk_at "go"
      rename_i p5 H5 n5 e5 h5
      exact q p5 H5 (fresh_back (e03.trans e4) n5) ((e03.trans e4).trans e5) h5
  · rw [eE]
    exact h
end
end G48

/-! behind a lambda: what is carried over; texts compared; lists of pairs and the empty list -/
namespace G48
open PySem PySem.Spec PyProof.Rows L2 Evl
open LamX (Tabs ExtN)
section
variable {K : PySem.W.Frag} {H H' : Hp} {C : Addr}
theorem Scr.exn {a : Addr} {xs : List V} (e : ExtN H H') : Scr K H a xs → Scr K H' a xs
  | .inl ⟨o, h⟩ => .inl ⟨o, e _ _ h fun _ z => by cases z⟩
  | .inr h => .inr h
theorem DiceAt.exn {d : Addr} (e : ExtN H H') (D : DiceAt K H d) : DiceAt K H' d := by
  obtain ⟨sc, ns, p, m, r, h, hs, z, q⟩ := D
  exact ⟨sc, ns, p, m, r, exn_lst e h, hs.exn e, z, q⟩
theorem RingIn.exn {r a b : Addr} {ds hs : List Int} (e : ExtN H H') (R : RingIn K C H r a b ds hs) : RingIn K C H' r a b ds hs :=
  ⟨let ⟨dx, h⟩ := R.obj; ⟨dx, exn_ins e h⟩, exn_t e R.sp, exn_t e R.hp, R.ok⟩
theorem TupK.exn {a : Addr} {xs : List V} (e : ExtN H H') (h : TupK H a xs) : TupK H' a xs := by
  obtain ⟨o, h, c⟩ := h
  exact ⟨o, e _ _ h (fun _ z => by cases z), c⟩
theorem tabs_exD {T : List (Addr × Str)} {d : Addr} (e : Exb d H H') (D : DiceAt K H d) (t : Tabs T H) : Tabs T H' := let ⟨_, hl⟩ := D.lst; tabs_exb e hl t
variable {Q : VK} {a b : Addr}
theorem strD_sh (x y : Str) (hx : PyData.strOk x = true) (hy : PyData.strOk y = true) : SeqAt.shaped (.tuple [.str x, .str y]) = true := by
  show (PyData.canLay0 (.tuple [.str x, .str y]) && decide (PyData.depth (.tuple [.str x, .str y]) ≤ 64)) = true
  rw [Bool.and_eq_true]
  exact ⟨by simp [PyData.canLay0, PyData.canLayAll0, hx, hy], decide_eq_true (by simp [PyData.depth, PyData.depthAll])⟩
theorem strD_dp {x y : Str} (h : SqT K H a [.str x, .str y]) : Dp K H (.ref a) (.tuple [.str x, .str y]) := .tup h (.cons (.str _) (.cons (.str _) .nil))
theorem strD_eqv (x y : Str) : PyData.eqv (.tuple [.str x, .str y]) (.tuple [.str x, .str y]) = true := by simp [PyData.eqv, PyData.eqvAll]
/-- the error's name is the one that is due -/
theorem g_neTS {x y : Str} (hx : PyData.strOk x = true) (hy : PyData.strOk y = true) (h1 : SqT K H a [.str x, .str y]) (h2 : SqT K H b [.str x, .str y]) (q : Q (.bl false) H) : rNeD K (.ref a) (.ref b) H Q := g_neD (strD_dp h1) (strD_dp h2) (strD_sh _ _ hx hy) (strD_sh _ _ hx hy) (by rw [strD_eqv]; exact q)
theorem nilD_eqv (ps : List PyData) : PyData.eqv (.list ps) (.list []) = ps.isEmpty := by
  cases ps with
  | nil => simp [PyData.eqv, PyData.eqvAll]
  | cons p ps => simp [PyData.eqv, PyData.eqvAll]
theorem g_eqNil {zs : List V} {ps : List (Int × Int)} (h1 : SqL K H a zs) (h2 : pairsV K H zs ps) (h3 : SqL K H b []) (q : Q (.bl ps.isEmpty) H) : rEqD K (.ref a) (.ref b) H Q :=
  g_eqD (.lst h1 h2.dp) (.lst h3 .nil) (pairsL_sh ps) (pairsL_sh []) (by rw [show PyData.list [] = PyData.list [] from rfl, nilD_eqv, List.isEmpty_map]; exact q)
theorem g_neNil {zs : List V} {ps : List (Int × Int)} (h1 : SqL K H a zs) (h2 : pairsV K H zs ps) (h3 : SqL K H b []) (q : Q (.bl (!ps.isEmpty)) H) : rNeD K (.ref a) (.ref b) H Q :=
  g_neD (.lst h1 h2.dp) (.lst h3 .nil) (pairsL_sh ps) (pairsL_sh []) (by rw [nilD_eqv, List.isEmpty_map]; exact q)
theorem g_kIfSM {t1 t2 : TS} {D : Ends} {σ : L2.St} {c : Bool} {H : Hp} (M : L2.St → Hp → Prop) (h1 : c = true → ∀ N : L2.St → Hp → Prop, (∀ σ' H', M σ' H' → N σ' H') → t1 { D with nx := N } σ H) (h2 : c = false → ∀ N : L2.St → Hp → Prop, (∀ σ' H', M σ' H' → N σ' H') → t2 { D with nx := N } σ H)
    (q : ∀ σ' H', M σ' H' → D.nx σ' H') : kIfS t1 t2 D σ c H := g_kIfS (fun h => h1 h D.nx q) fun h => h2 h D.nx q
theorem g_toldL {T : List (Addr × Str)} {t : XK → TE} {TT : (XK → Hp → VK → Prop) → Hp → VK → Prop} {σ : L2.St} {H : Hp} {Q : VK} (h : Tabs T H) (q : ∀ H1, ExtN H H1 → Tabs T H1 → TT (fun E H' Q' => t E σ H' Q') H1 Q) : tToldL T t TT σ H Q := ⟨h, q⟩
end
end G48

namespace G48
open PySem PySem.Spec PyProof.Rows L2 Evl
abbrev N_DaysObserver_accept : List Str := ["self", "kept", "observation"]
theorem sc_DaysObserver_accept : FnScope N_DaysObserver_accept ["self", "kept", "observation"] (defScope s_DaysObserver_accept) := ⟨rfl, rfl, rfl, by decide +kernel, rfl, by decide +kernel, by decide +kernel⟩
theorem b_DaysObserver_accept : BindL "DaysObserver.accept" "accept" s_DaysObserver_accept ["self", "kept", "observation"] := fun _ _ _ _ _ _ us hl => match us, hl with | [_, _, _], _ => rfl
abbrev N_DaysObserver_see_open : List Str := ["self", "reader", "number", "day", "kept", "days", "course"]
theorem sc_DaysObserver_see_open : FnScope N_DaysObserver_see_open ["self", "reader", "number", "day"] (defScope s_DaysObserver_see_open) := ⟨rfl, rfl, rfl, by decide +kernel, rfl, by decide +kernel, by decide +kernel⟩
theorem b_DaysObserver_see_open : BindL "DaysObserver.see_open" "see_open" s_DaysObserver_see_open ["self", "reader", "number", "day"] := fun _ _ _ _ _ _ us hl => match us, hl with | [_, _, _, _], _ => rfl
abbrev N_DaysObserver_see_end : List Str := ["self", "reader", "number", "day", "kept", "days", "course"]
theorem sc_DaysObserver_see_end : FnScope N_DaysObserver_see_end ["self", "reader", "number", "day"] (defScope s_DaysObserver_see_end) := ⟨rfl, rfl, rfl, by decide +kernel, rfl, by decide +kernel, by decide +kernel⟩
theorem b_DaysObserver_see_end : BindL "DaysObserver.see_end" "see_end" s_DaysObserver_see_end ["self", "reader", "number", "day"] := fun _ _ _ _ _ _ us hl => match us, hl with | [_, _, _, _], _ => rfl
end G48
/-! an observer of hidden days -/
namespace G48
open PySem PySem.Spec PyProof.Rows L2 Evl
/-! the steps -/
local macro_rules | `(tactic| walk_at "as") => `(tactic| with_reducible assumption)
local macro_rules | `(tactic| walk_at "hp") => `(tactic| first
  | with_reducible assumption
  | ((with_reducible apply SqT.of); walk_at "as")
  | ((with_reducible apply SqL.of); walk_at "as")
  | ((with_reducible apply ex_at); (focus walk_at "as"); walk_at "hp")
  | ((with_reducible apply ex_t); (focus walk_at "as"); walk_at "hp")
  | ((with_reducible apply ex_l); (focus walk_at "as"); walk_at "hp")
  | ((with_reducible apply exb_ins); (focus walk_at "as"); (focus walk_at "hp"); walk_at "hp")
  | ((with_reducible apply exb_t); (focus walk_at "as"); (focus walk_at "hp"); walk_at "hp")
  | ((with_reducible apply exb_at); (focus walk_at "as"); (focus walk_at "ne"); walk_at "hp")
  | ((with_reducible apply exb_l); (focus walk_at "as"); (focus walk_at "ne"); walk_at "hp"))
local macro_rules | `(tactic| walk_at "ne") => `(tactic| first
  | with_reducible assumption
  | exact Ne.symm (by with_reducible assumption)
  | exact ne_of_none (by with_reducible assumption) (by with_reducible assumption)
  | exact Ne.symm (ne_of_none (by with_reducible assumption) (by with_reducible assumption)))
local macro_rules | `(tactic| walk_at "tr") => `(tactic| first
  | rfl
  | with_reducible assumption
  | exact decide_eq_true (by first | with_reducible assumption | omega)
  | exact decide_eq_false (by first | with_reducible assumption | omega)
  | (rw [Bool.not_eq_true']; exact decide_eq_false (by first | with_reducible assumption | omega))
  | (rw [Bool.not_eq_false']; exact decide_eq_true (by first | with_reducible assumption | omega)))
local macro_rules | `(tactic| walk_at "nn") => `(tactic| first | with_reducible assumption | (exact List.cons_ne_nil _ _))
local macro_rules | `(tactic| walk_at "sz") => `(tactic| first | (exact sz1000 (Nat.le_of_ble_eq_true rfl)) | (refine sz1000 ?_; simp only [List.length_map, List.length_cons, List.length_nil, List.length_append]; omega) | with_reducible assumption)
local macro_rules | `(tactic| walk_at "sl") => `(tactic| first | with_reducible assumption | (refine lt1000 ?_; simp only [List.length_map, List.length_cons, List.length_nil, List.length_append]; omega) | (refine lt1000 ?_; omega))
local macro_rules | `(tactic| walk_at "ix") => `(tactic| first | rfl | with_reducible assumption)
local macro_rules | `(tactic| walk_at "rg") => `(tactic| exact RgOk.of_le (by omega) (by omega) (by omega) (by omega))
local macro_rules | `(tactic| walk_at "sp") => `(tactic| fail "sp")
local macro_rules | `(tactic| walk_at "cl") => `(tactic| with_reducible assumption)
local macro_rules | `(tactic| walk_at "lk") => `(tactic| with_reducible assumption)
local macro_rules | `(tactic| walk_at "it") => `(tactic| first | rfl | with_reducible assumption | exact atI_nat (by with_reducible assumption))
local macro_rules | `(tactic| walk_at "g1") => `(tactic| first
  | (with_reducible apply g_var); (focus rfl)
  | with_reducible apply g_c
  | with_reducible apply g_seq
  | with_reducible apply g_asg
  | with_reducible apply gg_name
  | with_reducible apply g_op
  | with_reducible apply g_cons
  | with_reducible apply g_nil
  | with_reducible apply g_cb
  | with_reducible apply g_fld
  | ((with_reducible apply g_kFld); (focus walk_at "hp"); (focus walk_at "cl"); (focus walk_at "cl"); (focus walk_at "lk"))
  | with_reducible apply g_call
  | walk_at "sp"
  | with_reducible apply g_ret
  | with_reducible apply g_drop
  | with_reducible apply g_test
  | with_reducible apply g_B
  | with_reducible apply g_kTest
  | with_reducible apply g_ifS
  | with_reducible apply g_kIfST
  | with_reducible apply g_kIfSF
  | with_reducible apply g_add
  | with_reducible apply g_sub
  | with_reducible apply g_lt
  | with_reducible apply g_le
  | with_reducible apply g_gt
  | with_reducible apply g_ge
  | with_reducible apply g_eqI
  | with_reducible apply g_neI
  | ((with_reducible apply g_mod); (focus first | decide | omega))
  | ((with_reducible apply g_mul); (focus first | (left; constructor <;> omega) | (right; constructor <;> omega)))
  | ((with_reducible apply g_fdiv); (focus (constructor <;> omega)))
  | ((with_reducible apply g_ixT); (focus walk_at "hp"); (focus walk_at "it"))
  | ((with_reducible apply g_ixL); (focus walk_at "hp"); (focus walk_at "it"))
  | with_reducible apply g_and
  | with_reducible apply g_or
  | with_reducible apply g_not
  | with_reducible apply g_kNotT
  | with_reducible apply g_kNotF
  | with_reducible apply g_if
  | with_reducible apply g_kAndT
  | with_reducible apply g_kAndF
  | with_reducible apply g_kOrT
  | with_reducible apply g_kOrF
  | with_reducible apply g_kIfT
  | with_reducible apply g_kIfF
  | with_reducible apply g_next
  | with_reducible apply g_andV
  | with_reducible apply g_orV
  | with_reducible apply g_notV
  | with_reducible apply g_kNotV
  | with_reducible apply g_kAndVT
  | with_reducible apply g_kAndVF
  | with_reducible apply g_chain
  | with_reducible apply g_kChainT
  | with_reducible apply g_kChainF
  | with_reducible apply g_tup
  | with_reducible apply g_lst
  | ((with_reducible apply g_kT); (focus walk_at "sz"); intro _ _ _ _ _)
  | ((with_reducible apply g_kL); (focus walk_at "sz"); intro _ _ _ _ _)
  | with_reducible apply g_un
  | with_reducible apply g_neg
  | with_reducible apply g_meth
  | ((with_reducible apply g_kMeth); (focus walk_at "hp"); (focus walk_at "lk"))
  | with_reducible apply g_prop
  | ((with_reducible apply g_kProp); (focus walk_at "hp"))
  | with_reducible apply g_make
  | with_reducible apply g_par
  | with_reducible apply g_kPar
  | ((with_reducible apply g_lenLM); (focus walk_at "hp"))
  | ((with_reducible apply g_lenTM); (focus walk_at "hp"))
  | ((with_reducible apply g_lenL); (focus walk_at "hp"))
  | ((with_reducible apply g_lenT); (focus walk_at "hp"))
  | with_reducible apply g_int1
  | with_reducible apply g_max2
  | with_reducible apply g_min2
  | ((with_reducible apply g_listL); (focus walk_at "hp"); intro _ _ _ _ _)
  | ((with_reducible apply g_listT); (focus walk_at "hp"); intro _ _ _ _ _)
  | ((with_reducible apply g_tupL); (focus walk_at "hp"); intro _ _ _ _ _)
  | ((with_reducible apply g_sum); (focus walk_at "hp"))
  | with_reducible apply g_sfld
  | with_reducible apply g_sl
  | with_reducible apply g_nopart
  | with_reducible apply g_part
  | with_reducible apply g_kPart
  | with_reducible apply g_lstRg
  | with_reducible apply g_rg1
  | with_reducible apply g_kRg1
  | with_reducible apply g_bm
  | with_reducible apply gg_sub
  | ((with_reducible apply gg_tup); (focus walk_at "hp"); (focus rfl))
  | with_reducible apply gg_cons
  | with_reducible apply gg_nil
  | with_reducible apply g_forL
  | with_reducible apply g_forT
  | with_reducible apply g_forR1
  | with_reducible apply g_forR2
  | with_reducible apply g_forE
  | with_reducible apply g_forEL
  | ((with_reducible apply g_maxT); (focus walk_at "hp"); (focus walk_at "nn"))
  | ((with_reducible apply g_maxL); (focus walk_at "hp"); (focus walk_at "nn"))
  | ((with_reducible apply g_catA); (focus walk_at "hp"); (focus walk_at "hp"); (focus walk_at "sz"); intro _ _ _ _)
  | ((with_reducible apply g_slA); (focus walk_at "hp"); intro _ _ _ _)
  | ((with_reducible apply g_tupD); (focus walk_at "hp"); intro _ _ _ _ _)
  | ((with_reducible apply g_setL); (focus walk_at "hp"); (focus walk_at "ix"); intro _ _ _)
  | ((with_reducible apply g_append); (focus walk_at "hp"); (focus walk_at "sl"); intro _ _ _)
  | ((with_reducible apply g_aug); (focus rfl))
  | with_reducible apply g_ipI
  | with_reducible apply g_retN
  | with_reducible apply g_lcR1
  | with_reducible apply g_lcR2
  | with_reducible apply g_lcL
  | with_reducible apply g_lcU
  | with_reducible apply g_lcN
  | ((with_reducible apply g_kLcG); (focus rfl))
  | with_reducible apply g_yes
  | with_reducible apply g_kLcTT
  | with_reducible apply g_kLcTF
  | ((with_reducible apply g_kLcE); (focus walk_at "hp"); (focus walk_at "sl"); intro _ _ _)
  | ((with_reducible apply g_pow); (focus (constructor <;> (try constructor) <;> decide)))
  | ((with_reducible apply g_kLRg); (focus walk_at "rg"); intro _ _ _ _ _)
  | ((with_reducible apply g_cat); (focus walk_at "hp"); (focus walk_at "hp"); (focus walk_at "sz"); intro _ _ _ _ _)
  | ((with_reducible apply g_slL); (focus walk_at "hp"); intro _ _ _ _ _)
  | with_reducible apply g_bmT
  | with_reducible apply g_break
  | with_reducible apply g_cont)
local macro_rules | `(tactic| walk_at "g0") => `(tactic| try dsimp only [L2.cxOf, L2.Cx.nox, L2.Cx.wish])
local macro_rules | `(tactic| walk_at "yn") => `(tactic| first
  | ((with_reducible apply y_kIfS); (focus walk_at "tr"))
  | ((with_reducible apply n_kIfS); (focus walk_at "tr"))
  | ((with_reducible apply y_kOr); (focus walk_at "tr"))
  | ((with_reducible apply n_kOr); (focus walk_at "tr"))
  | ((with_reducible apply y_kAnd); (focus walk_at "tr"))
  | ((with_reducible apply n_kAnd); (focus walk_at "tr"))
  | ((with_reducible apply y_kNot); (focus walk_at "tr"))
  | ((with_reducible apply n_kNot); (focus walk_at "tr"))
  | ((with_reducible apply y_kIf); (focus walk_at "tr"))
  | ((with_reducible apply n_kIf); (focus walk_at "tr"))
  | ((with_reducible apply y_kAndV); (focus walk_at "tr"))
  | ((with_reducible apply n_kAndV); (focus walk_at "tr"))
  | ((with_reducible apply y_kOrV); (focus walk_at "tr"))
  | ((with_reducible apply n_kOrV); (focus walk_at "tr"))
  | ((with_reducible apply y_kChain); (focus walk_at "tr"))
  | ((with_reducible apply n_kChain); (focus walk_at "tr"))
  | ((with_reducible apply y_kLcT); (focus walk_at "tr"))
  | ((with_reducible apply n_kLcT); (focus walk_at "tr"))
  | ((with_reducible apply y_kWh); (focus walk_at "tr"))
  | ((with_reducible apply n_kWh); (focus walk_at "tr")))
local macro_rules | `(tactic| walk_at "go") => `(tactic| repeat (first | walk_at "g1" | walk_at "yn"))
local macro_rules | `(tactic| walk_at "hp") => `(tactic| first
  | ((with_reducible apply RingIn.ex); (focus walk_at "as"); walk_at "hp")
  | ((with_reducible apply RingAt.ex); (focus walk_at "as"); walk_at "hp")
  | ((with_reducible apply RingIn.exb); (focus walk_at "as"); (focus walk_at "hp"); walk_at "hp")
  | ((with_reducible apply RingAt.exb); (focus walk_at "as"); (focus walk_at "hp"); walk_at "hp")
  | ((with_reducible apply TupK.ex); (focus walk_at "as"); walk_at "hp")
  | ((with_reducible apply TupK.exb); (focus walk_at "as"); (focus walk_at "hp"); walk_at "hp"))
local macro_rules | `(tactic| walk_at "lk") => `(tactic| first | with_reducible exact rf_spans | with_reducible exact rf_heaps | with_reducible exact rf_total | with_reducible exact rf_nr | with_reducible exact rf_wd)
local macro_rules | `(tactic| walk_at "sp") => `(tactic| first
  | ((with_reducible apply g_isiTup); (focus walk_at "hp"))
  | ((with_reducible apply g_isiLst); (focus walk_at "hp"))
  | ((with_reducible apply g_isint); (focus omega); (focus omega))
  | ((with_reducible apply g_checkn); (focus omega); (focus omega))
  | ((with_reducible apply g_rbooks); (focus walk_at "hp"))
  | ((with_reducible apply g_rpace); (focus walk_at "hp"); intro _ _ _ _)
  | ((with_reducible apply g_rlen); (focus walk_at "hp"))
  | ((with_reducible apply g_rneed); (focus walk_at "hp"); (focus omega))
  | ((with_reducible apply g_rneedM); (focus walk_at "hp"))
  | ((with_reducible apply g_rwithM); (focus walk_at "hp"))
  | ((with_reducible apply g_rspans); (focus walk_at "hp"); (focus with_reducible assumption))
  | ((with_reducible apply g_rheaps); (focus walk_at "hp"); (focus with_reducible assumption))
  | ((with_reducible apply g_rtotal); (focus walk_at "hp"); (focus with_reducible assumption)))

local macro_rules | `(tactic| walk_at "hp") => `(tactic| first
  | ((with_reducible apply CrsIn.ex); (focus walk_at "as"); walk_at "hp")
  | ((with_reducible apply RowsAt.ex); (focus walk_at "as"); walk_at "hp"))
local macro_rules | `(tactic| walk_at "sp") => `(tactic| first
  | ((with_reducible apply g_crows); (focus walk_at "hp"); (focus with_reducible assumption))
  | ((with_reducible apply g_csize); (focus walk_at "hp"); (focus with_reducible assumption))
  | ((with_reducible apply g_cevery); (focus walk_at "hp"); (focus with_reducible assumption))
  | ((with_reducible apply g_cshift); (focus walk_at "hp"); (focus with_reducible assumption))
  | ((with_reducible apply g_cring); (focus walk_at "hp"); (focus with_reducible assumption))
  | ((with_reducible apply g_cfirst); (focus walk_at "hp"); (focus with_reducible assumption))
  | ((with_reducible apply g_clen); (focus walk_at "hp"))
  | ((with_reducible apply g_cmShifted); (focus walk_at "hp"))
  | ((with_reducible apply g_cmSettled); (focus walk_at "hp"))
  | ((with_reducible apply g_cmNext); (focus walk_at "hp"))
  | ((with_reducible apply g_cmEnd); (focus walk_at "hp"))
  | ((with_reducible apply g_cmArrival); (focus walk_at "hp")))

local macro_rules | `(tactic| walk_at "sp") => `(tactic| first
  | ((with_reducible apply g_taken); (focus walk_at "hp"); (focus first | decide | omega); (focus first | decide | omega); intro _ _ _ _ _ _))
local macro_rules | `(tactic| walk_at "hp") => `(tactic| first
  | ((with_reducible apply DiceAt.ex); (focus walk_at "as"); walk_at "hp")
  | ((with_reducible apply exb_tD); (focus walk_at "as"); (focus walk_at "hp"); walk_at "hp")
  | ((with_reducible apply exb_insD); (focus walk_at "as"); (focus walk_at "hp"); walk_at "hp")
  | ((with_reducible apply RingIn.exD); (focus walk_at "as"); (focus walk_at "hp"); walk_at "hp")
  | ((with_reducible apply TupK.exD); (focus walk_at "as"); (focus walk_at "hp"); walk_at "hp"))

local macro_rules | `(tactic| walk_at "hp") => `(tactic| first
  | ((with_reducible apply CrsAt.ex); (focus walk_at "as"); walk_at "hp")
  | ((with_reducible apply CrsAt.into); walk_at "hp"))
local macro_rules | `(tactic| walk_at "g1") => `(tactic| first
  | ((with_reducible apply g_callO); (focus walk_at "hp"))
  | with_reducible apply g_tCallO
  | with_reducible apply g_kCallO)
local macro_rules | `(tactic| walk_at "sp") => `(tactic| first
  | ((with_reducible apply g_rdays); (focus walk_at "hp"))
  | ((with_reducible apply g_rstarts); (focus walk_at "hp"))
  | ((with_reducible apply g_rget); (focus walk_at "hp"); (focus with_reducible assumption); intro _ _ _ _)
  | ((with_reducible apply g_rcall); (focus walk_at "hp"); (focus with_reducible assumption); (focus omega); intro _ _)
  | ((with_reducible apply g_mkCourse); (focus walk_at "hp"); intro _ _ _ _ _ _ _ _ _)
  | ((with_reducible apply g_ncheckn); (focus omega); (focus omega)))

structure ObsC (K : PySem.W.Frag) (OC : Addr) : Prop where
  cl : Cls K OC
  n1 : NoAttr K OC "courses"
  n2 : NoAttr K OC "sample"
  n3 : NoAttr K OC "seen"
/-- the observer's fields -/
structure OF (D r p : Addr) (fs : List (Str × V)) : Prop where
  co : fs.lookup ("courses" : Str) = some (.ref D)
  sa : fs.lookup ("sample" : Str) = some (.ref r)
  se : fs.lookup ("seen" : Str) = some (.ref p)
  m1 : fs.lookup ("see_end" : Str) = none
  m2 : fs.lookup ("see_open" : Str) = none
  m3 : fs.lookup ("accept" : Str) = none
  m4 : fs.lookup ("possible_ends" : Str) = none
  m5 : fs.lookup ("telling_number" : Str) = none
  m6 : fs.lookup ("possible_days" : Str) = none
  m7 : fs.lookup ("observations" : Str) = none
  m8 : fs.lookup ("ring" : Str) = none
  m9 : fs.lookup ("spans" : Str) = none
  len : fs.length ≤ 10
theorem OF.set {D D' r p p' : Addr} {fs : List (Str × V)} (h : OF D r p fs) (hl : (putF "seen" (.ref p') (putF "courses" (.ref D') fs)).length ≤ 10) : OF D' r p' (putF "seen" (.ref p') (putF "courses" (.ref D') fs)) := by
  obtain ⟨h1, h2, h3, h4, h5, h6, h7, h8, h9, h10, h11, h12, h13⟩ := h
  refine ⟨?_, ?_, ?_, ?_, ?_, ?_, ?_, ?_, ?_, ?_, ?_, ?_, hl⟩
  all_goals (repeat (first | rw [lookup_putF, if_pos rfl] | rw [lookup_putF, if_neg (by decide +kernel)]))
  all_goals assumption
theorem OF.make {D r p : Addr} : OF D r p (putF "seen" (.ref p) (putF "sample" (.ref r) (putF "courses" (.ref D) []))) := by
  refine ⟨?_, ?_, ?_, ?_, ?_, ?_, ?_, ?_, ?_, ?_, ?_, ?_, Nat.le_trans (lenp (lenp (lenp len0))) (by decide)⟩
  all_goals (repeat (first | rw [lookup_putF, if_pos rfl] | rw [lookup_putF, if_neg (by decide +kernel)]))
  all_goals rfl
theorem putF_len {f : Str} {v u : V} : ∀ {fs : List (Str × V)}, fs.lookup f = some u → (putF f v fs).length = fs.length
  | [], h => by cases h
  | (g, x) :: fs, h => by
    show (if g = f then (g, v) :: fs else (g, x) :: putF f v fs).length = _
    by_cases z : g = f
    · rw [if_pos z]
      rfl
    · rw [if_neg z]
      have : (f == g) = false := by simpa using fun e => z e.symm
      rw [List.lookup_cons, this] at h
      show (putF f v fs).length + 1 = fs.length + 1
      rw [putF_len h]
def kStar (K : PySem.W.Frag) (t : TA) (σ : L2.St) (Q : List V → Hp → Prop) : VK := fun x H1 => ∃ p xs, x = V.ref p ∧ (SqT K H1 p xs ∨ SqL K H1 p xs) ∧ t σ H1 fun ys H2 => Q (xs ++ ys) H2
theorem g_star {K : PySem.W.Frag} {te : TE} {t : TA} {σ : L2.St} {H : Hp} {Q : List V → Hp → Prop} (q : te σ H (kStar K t σ Q)) : StX.tStar K te t σ H Q := q
theorem g_kStar {K : PySem.W.Frag} {t : TA} {σ : L2.St} {H : Hp} {Q : List V → Hp → Prop} {p : Addr} {xs : List V} (h : SqT K H p xs) (q : t σ H fun ys H2 => Q (xs ++ ys) H2) : kStar K t σ Q (.ref p) H := ⟨p, xs, rfl, .inl h, q⟩
section
variable {P : Program} {w : World} {K : PySem.W.Frag} {mg : Str → Option Value} {base : Heap} {C CC OC : Addr}
/-- accept: no days remain, or what is kept is kept -/
def sp_accept (K : PySem.W.Frag) (OC : Addr) : Sp := fun vs H Q E => ∃ (o D r p D' t dx : Addr) (fs : List (Str × V)) (zs : List V) (kvs : List (Key × V)), vs = [.ref o, .ref D', .ref t] ∧ H o = some (.ins OC dx fs) ∧ OF D r p fs ∧ H D' = some (.dK kvs) ∧ SqT K H p zs ∧ zs.length ≤ 50 ∧ kvs.length ≤ 30 ∧
  ((kvs = [] ∧ ∀ H', Ex H H' → E (.ref (He.ga K "Contradiction")) none H') ∨ (kvs ≠ [] ∧ ∀ p' dx' fs' H', Exb o H H' → H' o = some (.ins OC dx' fs') → OF D' r p' fs' → SqT K H' p' (zs ++ [.ref t]) → Q (.int (kvs.length : Nat)) H'))
theorem okx_accept (Z : Blt mg) (RO : ObsC K OC) (Exr_Contradiction : ExcR K (He.ga K "Contradiction") 3) (g_Contradiction : mg "Contradiction" = some (.ref (He.ga K "Contradiction"))) (G : CFun K OC "accept" "DaysObserver.accept" s_DaysObserver_accept) : Mf P w K mg base OC 1 "accept" ["self", "kept", "observation"] (sp_accept K OC) := by
  refine Mf.of G sc_DaysObserver_accept b_DaysObserver_accept (fun vs H Q E h => ?_) (fun f cdv A outer s H vs Q E hr h => ?_)
  · obtain ⟨o, D, r, p, D', t, dx, fs, zs, kvs, rfl, _⟩ := h
    rfl
  · obtain ⟨o, D, r, p, D', t, dx, fs, zs, kvs, rfl, ho, of, hD, hp, hz, hk, h⟩ := h
    obtain ⟨cl_DaysObserver, n1, n2, n3⟩ := RO
    refine ⟨_, (pss_cons (ps_if (pt_cmpR (op_eqD0 hr.units0) (pv 1) pe_dnewK (nomark _)) (pss_one (psr_ownR Exr_Contradiction g_Contradiction rfl (takes_of rfl rfl rfl rfl))) pss_nil)
      (pss_cons (ps_fld (pv 0) (pv 1) rfl)
      (pss_cons (ps_fld (pv 0) (pe_tup (StX.pa_star (pe_fld (pv 0) rfl) (pa_cons (pv 2) pa_nil))) rfl)
      (pss_one (ps_ret (pe_callB c_lenD (by rfl) Z.zlen PySem.boot_len (pa_cons (pv 1) pa_nil))))))), ?_⟩
    walk_at "g0"
    walk_at "go"
    refine g_dnew fun p1 H1 np1 e1 h1 => ?_
    refine g_eqD0 (e1 _ _ hD) h1 ?_
    rcases h with ⟨rfl, q⟩ | ⟨hne, q⟩
    · walk_at "go"
      exact q _ e1
    · rw [show kvs.isEmpty = false by cases kvs with
        | nil => exact absurd rfl hne
        | cons k kvs => rfl]
      walk_at "go"
      have of1 := of
      refine g_kSFld (e1 _ _ ho) cl_DaysObserver n1 (by have := of.len; omega) fun H2 e2 ho2 => ?_
      walk_at "go"
      have hl1 := putF_len (v := .ref D') of.co
      have hse : (putF "courses" (.ref D') fs).lookup ("seen" : Str) = some (.ref p) := by
        rw [lookup_putF, if_neg (by decide +kernel)]
        exact of.se
      have hp2 := exb_ti e2 (e1 _ _ ho) (ex_t e1 hp)
      refine g_star ?_
      refine g_fld ?_
      walk_at "go"
      refine g_kStar hp2 ?_
      walk_at "go"
      rename_i p3 H3 np3 e3 h3
      refine g_kSFld (e3 _ _ ho2) cl_DaysObserver n3 (by have := of.len; omega) fun H4 e4 ho4 => ?_
      have hD4 : H4 D' = some (.dK kvs) := e4 _ _ (ne_of (e3 _ _ (e2 _ _ (ne_of (e1 _ _ hD) (e1 _ _ ho) (by intro z; cases z)) (e1 _ _ hD))) (e3 _ _ ho2) (by intro z; cases z)) (e3 _ _ (e2 _ _ (ne_of (e1 _ _ hD) (e1 _ _ ho) (by intro z; cases z)) (e1 _ _ hD)))
      walk_at "go"
      refine g_lenD hD4 ?_
      walk_at "go"
      refine q p3 dx _ H4 (fun b u nb hb => e4 _ _ nb (e3 _ _ (e2 _ _ nb (e1 _ _ hb)))) ho4 (of.set (by
        have := of.len
        have h2 := putF_len (v := .ref p3) hse
        omega)) (exb_ti e4 (e3 _ _ ho2) (SqT.of h3))
/-! ### all but dicts stands -/
def KD (H H' : Hp) : Prop := ∀ b u, H b = some u → (∀ kvs, u ≠ .dK kvs) → (∀ od kvs, u ≠ .frz od (.dK kvs)) → H' b = some u
theorem KD.refl {H : Hp} : KD H H := fun _ _ h _ _ => h
theorem KD.of {H H' : Hp} (e : Ex H H') : KD H H' := fun b u h _ _ => e b u h
theorem KD.trans {H H1 H2 : Hp} (a : KD H H1) (b : KD H1 H2) : KD H H2 := fun c u h n m => b c u (a c u h n m) n m
theorem KD.upd {H H1 : Hp} {D : Addr} {x : HO} (e : KD H H1) (h : H D = none ∨ (∃ kvs, H D = some (.dK kvs)) ∨ ∃ od kvs, H D = some (.frz od (.dK kvs))) : KD H (upd H1 D x) := fun b u hb n m => by
  rw [upd_ne (fun z => by
    subst z
    rcases h with h | ⟨kvs, h⟩ | ⟨od, kvs, h⟩ <;> rw [h] at hb
    · cases hb
    · exact n kvs (Option.some.inj hb).symm
    · exact m od kvs (Option.some.inj hb).symm)]
  exact e b u hb n m
theorem KD.t {H H' : Hp} {a : Addr} {xs : List V} (e : KD H H') (h : SqT K H a xs) : SqT K H' a xs := by
  rcases h with (h | ⟨o, h⟩) | h
  · exact .inl (.inl (e _ _ h (by intro _ z; cases z) (by intro _ _ z; cases z)))
  · exact .inl (.inr ⟨o, e _ _ h (by intro _ z; cases z) (by intro _ _ z; cases z)⟩)
  · exact .inr h
theorem KD.i {H H' : Hp} {a X dx : Addr} {fs : List (Str × V)} (e : KD H H') (h : H a = some (.ins X dx fs)) : H' a = some (.ins X dx fs) := e _ _ h (by intro _ z; cases z) (by intro _ _ z; cases z)
theorem KD.l {H H' : Hp} {a : Addr} {xs : List V} (e : KD H H') (h : H a = some (.lst xs)) : H' a = some (.lst xs) := e _ _ h (by intro _ z; cases z) (by intro _ _ z; cases z)
theorem RingIn.kd {H H' : Hp} {r a b : Addr} {ds hs : List Int} (e : KD H H') (R : RingIn K C H r a b ds hs) : RingIn K C H' r a b ds hs := ⟨let ⟨dx, h⟩ := R.obj; ⟨dx, e.i h⟩, e.t R.sp, e.t R.hp, R.ok⟩
theorem CrsAt.kd {H H' : Hp} {c r a b Rw : Addr} {ds hs : List Int} {L F : Nat} (e : KD H H') (R : CrsAt K C CC H c r a b Rw ds hs L F) : CrsAt K C CC H' c r a b Rw ds hs L F :=
  ⟨let ⟨dx, fs, h, f⟩ := R.obj; ⟨dx, fs, e.i h, f⟩, R.ring.kd e, let ⟨ps, h1, h2, h3⟩ := R.rows; ⟨ps, e.l h1, h2, fun i p h => e.l (h3 i p h)⟩, R.le⟩
/-- a settled course -/
def CoAt (K : PySem.W.Frag) (C CC : Addr) (H : Hp) (c : Addr) (ds hs : List Int) : Prop := ∃ r a b Rw L F, CrsAt K C CC H c r a b Rw ds hs L F ∧ SetF ds hs F
theorem CoAt.kd {H H' : Hp} {c : Addr} {ds hs : List Int} (e : KD H H') (h : CoAt K C CC H c ds hs) : CoAt K C CC H' c ds hs := let ⟨r, a, b, Rw, L, F, h1, h2⟩ := h; ⟨r, a, b, Rw, L, F, h1.kd e, h2⟩
def kvsD (cA : Int → Addr) (L : List Int) : List (Key × V) := L.map fun d => (.inl d, .ref (cA d))
theorem kvsD_len {cA : Int → Addr} {L : List Int} : (kvsD cA L).length = L.length := List.length_map ..
theorem kvsD_at {cA : Int → Addr} {L : List Int} {i : Nat} {k : Key} {v : V} (h : (kvsD cA L)[i]? = some (k, v)) : ∃ d, L[i]? = some d ∧ d ∈ L ∧ k = .inl d ∧ v = .ref (cA d) := by
  unfold kvsD at h
  rw [List.getElem?_map] at h
  obtain ⟨d, hd, e⟩ := Option.map_eq_some_iff.mp h
  cases e
  exact ⟨d, hd, List.mem_of_getElem? hd, rfl, rfl⟩
theorem putK_new {cA : Int → Addr} {d : Int} {L : List Int} (h : d ∉ L) : putK (kvsD cA L) (.inl d) (.ref (cA d)) = kvsD cA (L ++ [d]) := by
  unfold putK
  rw [if_neg]
  · unfold kvsD
    rw [List.map_append]
    rfl
  · intro z
    obtain ⟨kv, hm, e⟩ := List.any_eq_true.mp z
    unfold kvsD at hm
    obtain ⟨x, hx, rfl⟩ := List.mem_map.mp hm
    have e := of_decide_eq_true e
    exact h (by rw [← Sum.inl.inj e]; exact hx)
structure ObsAt (K : PySem.W.Frag) (C CC OC : Addr) (H : Hp) (o D r a b p : Addr) (ds hs : List Int) (h : Nat) (L : List Int) (cA : Int → Addr) (zs : List V) : Prop where
  obj : ∃ dx fs, H o = some (.ins OC dx fs) ∧ OF D r p fs
  dct : H D = some (.dK (kvsD cA L))
  crs : ∀ d ∈ L, CoAt K C CC H (cA d) (ds.set h d) hs
  ring : RingIn K C H r a b ds hs
  seen : SqT K H p zs
  nd : L.Nodup
  len : L.length ≤ 30
/-- the days for which a reading ends behind a day -/
def openL (ds hs : List Int) (h : Nat) (k n : Nat) (day : Int) (L : List Int) : List Int := L.filter fun d => decide (XR (ds.set h d) hs n k > day)
def endL (ds hs : List Int) (h : Nat) (k n : Nat) (day : Int) (L : List Int) : List Int := L.filter fun d => decide (XR (ds.set h d) hs n k = day)
theorem openL_succ {ds hs : List Int} {h k n : Nat} {day d : Int} {L : List Int} {i : Nat} (e : L[i]? = some d) : openL ds hs h k n day (L.take (i + 1)) = openL ds hs h k n day (L.take i) ++ if XR (ds.set h d) hs n k > day then [d] else [] := by
  unfold openL
  rw [List.take_add_one, e, List.filter_append]
  congr 1
  by_cases z : XR (ds.set h d) hs n k > day
  · rw [if_pos z]; simp [z]
  · rw [if_neg z]; simp [z]
theorem endL_succ {ds hs : List Int} {h k n : Nat} {day d : Int} {L : List Int} {i : Nat} (e : L[i]? = some d) : endL ds hs h k n day (L.take (i + 1)) = endL ds hs h k n day (L.take i) ++ if XR (ds.set h d) hs n k = day then [d] else [] := by
  unfold endL
  rw [List.take_add_one, e, List.filter_append]
  congr 1
  by_cases z : XR (ds.set h d) hs n k = day
  · rw [if_pos z]; simp [z]
  · rw [if_neg z]; simp [z]
theorem nd_take {L : List Int} (nd : L.Nodup) {i : Nat} {d : Int} (e : L[i]? = some d) (f : Int → Bool) : d ∉ (L.take i).filter f := fun z => by
  have hm := (List.mem_filter.mp z).1
  obtain ⟨j, hj, hj2⟩ := List.mem_take_iff_getElem.mp hm
  have hi := (List.getElem?_eq_some_iff.mp e)
  obtain ⟨hi1, hi2⟩ := hi
  have := (List.getElem_inj nd).mp (hj2.trans hi2.symm)
  omega
/-- all but dicts and the observer stands -/
def KO (o : Addr) (H H' : Hp) : Prop := ∀ b u, b ≠ o → H b = some u → (∀ kvs, u ≠ .dK kvs) → (∀ od kvs, u ≠ .frz od (.dK kvs)) → H' b = some u
section
variable {H H' : Hp} {o dx : Addr} {fs : List (Str × V)} (e : KO o H H') (ho : H o = some (.ins OC dx fs)) (nr : fs.lookup ("ring" : Str) = none) (ns : fs.lookup ("spans" : Str) = none)
include e ho nr ns
theorem KO.t {a : Addr} {xs : List V} (h : SqT K H a xs) : SqT K H' a xs := by
  rcases h with (h | ⟨u, h⟩) | h
  · exact .inl (.inl (e _ _ (ne_of h ho (by intro z; cases z)) h (by intro _ z; cases z) (by intro _ _ z; cases z)))
  · exact .inl (.inr ⟨u, e _ _ (ne_of h ho (by intro z; cases z)) h (by intro _ z; cases z) (by intro _ _ z; cases z)⟩)
  · exact .inr h
theorem KO.l {a : Addr} {xs : List V} (h : H a = some (.lst xs)) : H' a = some (.lst xs) := e _ _ (ne_of h ho (by intro z; cases z)) h (by intro _ z; cases z) (by intro _ _ z; cases z)
theorem KO.i {a X dy : Addr} {gs : List (Str × V)} (n : a ≠ o) (h : H a = some (.ins X dy gs)) : H' a = some (.ins X dy gs) := e _ _ n h (by intro _ z; cases z) (by intro _ _ z; cases z)
theorem RingIn.ko {r a b : Addr} {ds hs : List Int} (R : RingIn K C H r a b ds hs) : RingIn K C H' r a b ds hs := by
  obtain ⟨dy, hr⟩ := R.obj
  refine ⟨⟨dy, KO.i e ho nr ns (fun z => ?_) hr⟩, KO.t e ho nr ns R.sp, KO.t e ho nr ns R.hp, R.ok⟩
  rw [z, ho] at hr
  have hf : fs = rf a b hs.sum := by
    have := Option.some.inj hr
    injection this
  rw [hf, rf_spans] at ns
  cases ns
theorem CrsAt.ko {c r a b Rw : Addr} {ds hs : List Int} {L F : Nat} (R : CrsAt K C CC H c r a b Rw ds hs L F) : CrsAt K C CC H' c r a b Rw ds hs L F := by
  obtain ⟨dy, gs, hc, cf, hl⟩ := R.obj
  refine ⟨⟨dy, gs, KO.i e ho nr ns (fun z => ?_) hc, cf, hl⟩, RingIn.ko e ho nr ns R.ring, let ⟨ps, h1, h2, h3⟩ := R.rows; ⟨ps, KO.l e ho nr ns h1, h2, fun i p h => KO.l e ho nr ns (h3 i p h)⟩, R.le⟩
  rw [z, ho] at hc
  have hf : fs = putF "first" (.int (F : Int)) gs := by
    have := Option.some.inj hc
    injection this
  rw [hf, lookup_putF, if_neg (by decide +kernel), cf.ring] at nr
  cases nr
theorem CoAt.ko {c : Addr} {ds hs : List Int} (h : CoAt K C CC H c ds hs) : CoAt K C CC H' c ds hs := let ⟨r, a, b, Rw, L, F, h1, h2⟩ := h; ⟨r, a, b, Rw, L, F, CrsAt.ko e ho nr ns h1, h2⟩
end
def sp_seeO (K : PySem.W.Frag) (C CC OC : Addr) : Sp := fun vs H Q E => ∃ (o D r a b p : Addr) (ds hs : List Int) (h : Nat) (L : List Int) (cA : Int → Addr) (zs : List V) (k n day : Nat), vs = [.ref o, .int (k : Int), .int (n : Int), .int (day : Int)] ∧ ObsAt K C CC OC H o D r a b p ds hs h L cA zs ∧ k < ds.length ∧ (n : Int) ≤ 1000000000000000000 ∧ (day : Int) ≤ 1000000000000000000 ∧ zs.length ≤ 40 ∧
  ((openL ds hs h k n day L = [] ∧ ∀ H', KD H H' → H' D = some (.dK (kvsD cA L)) → E (.ref (He.ga K "Contradiction")) none H') ∨
   (openL ds hs h k n day L ≠ [] ∧ ∀ D' p' t H', KO o H H' → ObsAt K C CC OC H' o D' r a b p' ds hs h (openL ds hs h k n day L) cA (zs ++ [.ref t]) → SqT K H' t [.str "see_open", .int (k : Int), .int (n : Int), .int (day : Int)] → Q (.int ((openL ds hs h k n day L).length : Nat)) H'))
theorem okx_see_open (Z : Blt mg) (R : RingC K C) (RC : CourseC K CC) (RO : ObsC K OC) (c_MAX_NUMBER : ∃ t, mg "MAX_NUMBER" = some (.int 1000000000000000000 t)) (M_Ring_need_reader : Mf P w K mg base C 2 "need_reader" ["self", "reader"] (sp_Ring_need K C)) (D_check_number : Df P w K mg base 2 "check_number" ["number", "low", "high"] sp_check_number)
    (M_Course_end : Mf P w K mg base CC 1 "end" ["self", "reader", "number"] (sp_Course_end K C CC)) (MX_DaysObserver_accept : Mf P w K mg base OC 1 "accept" ["self", "kept", "observation"] (sp_accept K OC)) (G : CFun K OC "see_open" "DaysObserver.see_open" s_DaysObserver_see_open) : Mf P w K mg base OC 3 "see_open" ["self", "reader", "number", "day"] (sp_seeO K C CC OC) := by
  refine Mf.of G sc_DaysObserver_see_open b_DaysObserver_see_open (fun vs H Q E h => ?_) (fun f cdv A outer s H vs Q E hr h => ?_)
  · obtain ⟨o, D, r, a, b, p, ds, hs, h, L, cA, zs, k, n, day, rfl, _⟩ := h
    rfl
  · obtain ⟨o, D, r, a, b, p, ds, hs, h, L, cA, zs, k, n, day, rfl, ob, hk, hn, hday, hz, hq⟩ := h
    obtain ⟨dx, fs, ho, of⟩ := ob.obj
    have cl_Ring := R.cl
    have cl_Course := RC.cl
    obtain ⟨cl_DaysObserver, n1, n2, n3⟩ := RO
    have hsa := of.sa
    have hco := of.co
    refine ⟨_, (pss_cons (ps_expr (pm (pe_fld (pv 0) rfl) cl_Ring M_Ring_need_reader hr (pa_cons (pv 1) pa_nil)))
      (pss_cons (ps_expr (pg D_check_number hr (pa_cons (pv 2) (pa_cons pe_int (pa_cons (pint c_MAX_NUMBER) pa_nil)))))
      (pss_cons (ps_expr (pg D_check_number hr (pa_cons (pv 3) (pa_cons pe_int (pa_cons (pint c_MAX_NUMBER) pa_nil)))))
      (pss_cons (ps_lock (ps_setDc (i := 4) (own := [("days", 5), ("course", 6)]) rfl sc_DaysObserver_see_open.nd rfl rfl (sw_trueD rfl rfl rfl (by decide +kernel)) (pi_items (pe_fld (pv 0) rfl)) (blkOk_by (N := N_DaysObserver_see_open) (sc := defScope s_DaysObserver_see_open) (by decide +kernel)) (fun _ _ _ _ _ => (pg_tupK K (n := 2) (by rfl) (pgs_cons (pg_name (i := 5) sc_DaysObserver_see_open.nd rfl (by first | exact Or.inl rfl | exact Or.inr rfl)) (pgs_cons (pg_name (i := 6) sc_DaysObserver_see_open.nd rfl (by first | exact Or.inl rfl | exact Or.inr rfl)) pgs_nil)))) (fun _ _ _ _ _ => (pts_one (pt_cmpR op_gt (pm (pv 6) cl_Course M_Course_end hr (pa_cons (pv 1) (pa_cons (pv 2) pa_nil))) (pv 3) (nomark _)))) (fun _ _ _ _ _ => (pv 5)) (fun _ _ _ _ _ => (pv 6))))
      (pss_one (ps_ret (pm (pv 0) cl_DaysObserver MX_DaysObserver_accept hr (pa_cons (pv 4) (pa_cons (pe_tup (pa_cons pe_str (pa_cons (pv 1) (pa_cons (pv 2) (pa_cons (pv 3) pa_nil))))) pa_nil)) (passes_call (takes_of rfl rfl rfl rfl) (fun _ _ _ _ h => h))))))))), ?_⟩
    walk_at "g0"
    walk_at "go"
    refine g_rneedM ob.ring ?_
    walk_at "go"
    refine g_rneed ob.ring hk ?_
    walk_at "go"
    refine g_lock ob.dct trivial fun od => ?_
    have hD0 : (upd H D (.frz od (.dK (kvsD cA L)))) D = some (.frz od (.dK (kvsD cA L))) := upd_same
    have k0 : KD H (upd H D (.frz od (.dK (kvsD cA L)))) := KD.refl.upd (.inr (.inl ⟨_, ob.dct⟩))
    generalize hH0 : upd H D (.frz od (.dK (kvsD cA L))) = H0 at hD0 k0 ⊢
    have ho0 := k0.i ho
    refine g_asg ?_
    refine g_dcI ?_
    walk_at "go"
    refine g_kDcI hD0 (fun D2 i H' => KD H0 H' ∧ H' D = some (.frz od (.dK (kvsD cA L))) ∧ H' D2 = some (.dK (kvsD cA (openL ds hs h k n day (L.take i))))) (fun D2 nD2 => ⟨KD.refl.upd (.inl nD2), by rw [upd_ne (ne_of_none hD0 nD2)]; exact hD0, upd_same⟩) (fun D2 i H' _ hP => hP.2.1) ?_ ?_
    · rintro D2 i kk v T H2 nD2 hat nT ⟨kd, hDD, hD2⟩
      obtain ⟨d, hd, hm, rfl, rfl⟩ := kvsD_at hat
      have eT : Ex H2 (upd H2 T (.tup [kV (.inl d), .ref (cA d)])) := Ex.new nT
      have sT : SqT K (upd H2 T (.tup [kV (.inl d), .ref (cA d)])) T [.int d, .ref (cA d)] := SqT.of upd_same
      generalize upd H2 T (.tup [kV (.inl d), .ref (cA d)]) = H3 at eT sT ⊢
      have kd3 := kd.trans (KD.of eT)
      obtain ⟨r1, a1, b1, Rw, Lc, F, CA, SF⟩ := (ob.crs d hm).kd (k0.trans kd3)
      have hD3 := eT _ _ hD2
      have hDD3 := eT _ _ hDD
      walk_at "go"
      refine g_kDcG rfl ?_
      walk_at "go"
      refine ⟨cA d, r1, a1, b1, Rw, ds.set h d, hs, Lc, F, k, n, rfl, CA, SF, by rw [List.length_set]; exact hk, fun H4 e4 => ?_⟩
      walk_at "go"
      have kd4 := kd3.trans (KD.of e4)
      have hD4 := e4 _ _ hD3
      have hDD4 := e4 _ _ hDD3
      have es := openL_succ (ds := ds) (hs := hs) (h := h) (k := k) (n := n) (day := (day : Int)) hd
      by_cases z : XR (ds.set h d) hs n k > (day : Int)
      · rw [decide_eq_true (show (day : Int) < XR (ds.set h d) hs n k from z)]
        refine g_kDcTt ?_
        walk_at "go"
        refine g_kDcK ?_
        walk_at "go"
        refine g_kDcV hD4 (by rw [kvsD_len]; have := ob.len; have h2 : (openL ds hs h k n day (L.take i)).length ≤ (L.take i).length := List.length_filter_le ..; rw [List.length_take] at h2; rw [sizeLine_eq]; omega) ⟨kd4.upd (.inl nD2), by rw [upd_ne (ne_of_none hD0 nD2)]; exact hDD4, ?_⟩
        rw [upd_same, es, if_pos z, putK_new (L := openL ds hs h k n day (L.take i)) (nd_take ob.nd hd _)]
      · rw [decide_eq_false (show ¬ (day : Int) < XR (ds.set h d) hs n k from z)]
        refine g_kDcTf ⟨kd4, hDD4, ?_⟩
        rw [es, if_neg z, List.append_nil]
        exact hD4
    · rintro D2 H2 nD2 ⟨kd, hDD, hD2⟩
      rw [kvsD_len, List.take_length] at hD2
      walk_at "go"
      refine ⟨hDD, ?_⟩
      have nDD : D2 ≠ D := Ne.symm (ne_of_none hD0 nD2)
      have hD5 : (upd H2 D (.dK (kvsD cA L))) D2 = some (.dK (kvsD cA (openL ds hs h k n day L))) := by
        rw [upd_ne nDD]
        exact hD2
      have k5 : KD H (upd H2 D (.dK (kvsD cA L))) := (k0.trans kd).upd (.inr (.inl ⟨_, ob.dct⟩))
      have hDk5 : (upd H2 D (.dK (kvsD cA L))) D = some (.dK (kvsD cA L)) := upd_same
      generalize upd H2 D (.dK (kvsD cA L)) = H5 at hD5 k5 hDk5 ⊢
      have ho5 := k5.i ho
      have hm3 := of.m3
      walk_at "go"
      rename_i p6 H6 np6 e6 h6
      have h2 : (openL ds hs h k n day L).length ≤ L.length := List.length_filter_le ..
      have lL := ob.len
      refine ⟨o, D, r, p, D2, p6, dx, fs, zs, _, rfl, e6 _ _ ho5, of, e6 _ _ hD5, ex_t e6 (k5.t ob.seen), by omega, by rw [kvsD_len]; omega, ?_⟩
      rcases hq with ⟨hnil, q⟩ | ⟨hne, q⟩
      · exact .inl ⟨by rw [hnil]; rfl, fun H7 e7 => q H7 (k5.trans (KD.of (e6.trans e7))) (e7 _ _ (e6 _ _ hDk5))⟩
      · refine .inr ⟨fun z => hne (List.map_eq_nil_iff.mp z), fun p' dx' fs' H7 e7 ho7 of7 sp7 => ?_⟩
        rw [kvsD_len]
        have ko : KO o H H7 := fun b u nb hb n m => e7 b u nb (e6 _ _ (k5 b u hb n m))
        exact q D2 p' p6 H7 ko ⟨⟨dx', fs', ho7, of7⟩, e7 _ _ (ne_of (e6 _ _ hD5) (e6 _ _ ho5) (by intro z; cases z)) (e6 _ _ hD5), fun d hd => CoAt.ko ko ho of.m8 of.m9 (ob.crs d (List.mem_filter.mp hd).1), RingIn.ko ko ho of.m8 of.m9 ob.ring, sp7, ob.nd.filter _, by omega⟩ (exb_ti e7 (e6 _ _ ho5) (SqT.of h6))
def sDPk (td ty : TE) (D : Ends) (σ : L2.St) (v : V) (H1 : Hp) : Prop := td σ H1 fun x H2 => ty σ H2 fun y H3 => ∃ a H4, x = .ref a ∧ DPut H3 a y v H4 ∧ D.nx σ H4
theorem g_dput {td ty tv : TE} {σ : L2.St} {H : Hp} {D : Ends} (q : tv σ H (sDPk td ty D σ)) : sDPut td ty tv D σ H := q
theorem g_sDPk {td ty : TE} {σ : L2.St} {H : Hp} {D : Ends} {v : V} (q : td σ H fun x H2 => ty σ H2 fun y H3 => ∃ a H4, x = .ref a ∧ DPut H3 a y v H4 ∧ D.nx σ H4) : sDPk td ty D σ v H := q
def sp_seeE (K : PySem.W.Frag) (C CC OC : Addr) : Sp := fun vs H Q E => ∃ (o D r a b p : Addr) (ds hs : List Int) (h : Nat) (L : List Int) (cA : Int → Addr) (zs : List V) (k n day : Nat), vs = [.ref o, .int (k : Int), .int (n : Int), .int (day : Int)] ∧ ObsAt K C CC OC H o D r a b p ds hs h L cA zs ∧ k < ds.length ∧ (n : Int) ≤ 1000000000000000000 ∧ zs.length ≤ 40 ∧
  ((endL ds hs h k n day L = [] ∧ ∀ H', KD H H' → H' D = some (.dK (kvsD cA L)) → E (.ref (He.ga K "Contradiction")) none H') ∨
   (endL ds hs h k n day L ≠ [] ∧ ∀ D' p' t H', KO o H H' → ObsAt K C CC OC H' o D' r a b p' ds hs h (endL ds hs h k n day L) cA (zs ++ [.ref t]) → SqT K H' t [.str "see_end", .int (k : Int), .int (n : Int), .int (day : Int)] → Q (.int ((endL ds hs h k n day L).length : Nat)) H'))
theorem okx_see_end (Z : Blt mg) (R : RingC K C) (RC : CourseC K CC) (RO : ObsC K OC) (c_MAX_NUMBER : ∃ t, mg "MAX_NUMBER" = some (.int 1000000000000000000 t)) (M_Ring_need_reader : Mf P w K mg base C 2 "need_reader" ["self", "reader"] (sp_Ring_need K C)) (D_check_number : Df P w K mg base 2 "check_number" ["number", "low", "high"] sp_check_number) (D_is_integer : Df P w K mg base 1 "is_integer" ["value", "low", "high"] (sp_is_integer K))
    (M_Course_end : Mf P w K mg base CC 1 "end" ["self", "reader", "number"] (sp_Course_end K C CC)) (MX_DaysObserver_accept : Mf P w K mg base OC 1 "accept" ["self", "kept", "observation"] (sp_accept K OC)) (G : CFun K OC "see_end" "DaysObserver.see_end" s_DaysObserver_see_end) : Mf P w K mg base OC 3 "see_end" ["self", "reader", "number", "day"] (sp_seeE K C CC OC) := by
  refine Mf.of G sc_DaysObserver_see_end b_DaysObserver_see_end (fun vs H Q E h => ?_) (fun f cdv A outer s H vs Q E hr h => ?_)
  · obtain ⟨o, D, r, a, b, p, ds, hs, h, L, cA, zs, k, n, day, rfl, _⟩ := h
    rfl
  · obtain ⟨o, D, r, a, b, p, ds, hs, h, L, cA, zs, k, n, day, rfl, ob, hk, hn, hz, hq⟩ := h
    obtain ⟨dx, fs, ho, of⟩ := ob.obj
    have cl_Ring := R.cl
    have cl_Course := RC.cl
    obtain ⟨cl_DaysObserver, n1, n2, n3⟩ := RO
    have hsa := of.sa
    have hco := of.co
    refine ⟨_, (pss_cons (ps_expr (pm (pe_fld (pv 0) rfl) cl_Ring M_Ring_need_reader hr (pa_cons (pv 1) pa_nil)))
      (pss_cons (ps_expr (pg D_check_number hr (pa_cons (pv 2) (pa_cons pe_int (pa_cons (pint c_MAX_NUMBER) pa_nil)))))
      (pss_cons (ps_set (i := 4) sc_DaysObserver_see_end.nd rfl (by first | exact Or.inl rfl | exact Or.inr rfl) pe_dnewK)
      (pss_cons (ps_lock (ps_for (passes_of rfl) rfl (pi_items (pe_fld (pv 0) rfl)) (pg_tup (by rfl) (pgs_cons (pg_name (i := 5) sc_DaysObserver_see_end.nd rfl (by first | exact Or.inl rfl | exact Or.inr rfl)) (pgs_cons (pg_name (i := 6) sc_DaysObserver_see_end.nd rfl (by first | exact Or.inl rfl | exact Or.inr rfl)) pgs_nil))) (pss_one (ps_if (pt_val (pg D_is_integer hr (pa_cons (pv 3) (pa_cons (pm (pv 6) cl_Course M_Course_end hr (pa_cons (pv 1) (pa_cons (pv 2) pa_nil))) (pa_cons (pm (pv 6) cl_Course M_Course_end hr (pa_cons (pv 1) (pa_cons (pv 2) pa_nil))) pa_nil))))) (pss_one (ps_dput (u1 hr) (pv 4) (pv 5) (pv 6) (by rfl))) pss_nil))))
      (pss_one (ps_ret (pm (pv 0) cl_DaysObserver MX_DaysObserver_accept hr (pa_cons (pv 4) (pa_cons (pe_tup (pa_cons pe_str (pa_cons (pv 1) (pa_cons (pv 2) (pa_cons (pv 3) pa_nil))))) pa_nil)) (passes_call (takes_of rfl rfl rfl rfl) (fun _ _ _ _ h => h))))))))), ?_⟩
    walk_at "g0"
    walk_at "go"
    refine g_rneedM ob.ring ?_
    walk_at "go"
    refine g_rneed ob.ring hk ?_
    walk_at "go"
    refine g_dnew fun D2 H1 nD2 e1 hD2 => ?_
    have hDD := e1 _ _ ob.dct
    have nDD : D2 ≠ D := Ne.symm (ne_of_none ob.dct nD2)
    walk_at "go"
    refine g_lock hDD trivial fun od => ?_
    have hD0 : (upd H1 D (.frz od (.dK (kvsD cA L)))) D = some (.frz od (.dK (kvsD cA L))) := upd_same
    have hD20 : (upd H1 D (.frz od (.dK (kvsD cA L)))) D2 = some (.dK []) := by
      rw [upd_ne nDD]
      exact hD2
    have k0 : KD H (upd H1 D (.frz od (.dK (kvsD cA L)))) := (KD.of e1).upd (.inr (.inl ⟨_, ob.dct⟩))
    generalize hH0 : upd H1 D (.frz od (.dK (kvsD cA L))) = H0 at hD0 k0 hD20 ⊢
    have ho0 := k0.i ho
    refine g_forI ?_
    walk_at "go"
    refine g_kForI hD0 (fun i σ H' => ∃ v5 v6, σ = [some (.ref o), some (.int (k : Int)), some (.int (n : Int)), some (.int (day : Int)), some (.ref D2), v5, v6] ∧ KD H H' ∧ H' D = some (.frz od (.dK (kvsD cA L))) ∧ H' D2 = some (.dK (kvsD cA (endL ds hs h k n day (L.take i)))))
      ⟨_, _, rfl, k0, hD0, hD20⟩ (fun i σ H' hP => by
        obtain ⟨_, _, _, _, y, _⟩ := hP
        exact y) ?_ ?_
    · rintro i kk v T σ H2 hat nT ⟨v5, v6, rfl, kd, hDD2, hD22⟩
      obtain ⟨d, hd, hm, rfl, rfl⟩ := kvsD_at hat
      have eT : Ex H2 (upd H2 T (.tup [kV (.inl d), .ref (cA d)])) := Ex.new nT
      have sT : SqT K (upd H2 T (.tup [kV (.inl d), .ref (cA d)])) T [.int d, .ref (cA d)] := SqT.of upd_same
      generalize upd H2 T (.tup [kV (.inl d), .ref (cA d)]) = H3 at eT sT ⊢
      have kd3 := kd.trans (KD.of eT)
      have co3 := (ob.crs d hm).kd kd3
      obtain ⟨r1, a1, b1, Rw, Lc, F, CA, SF⟩ := id co3
      have hD3 := eT _ _ hD22
      have hDD3 := eT _ _ hDD2
      walk_at "go"
      refine ⟨cA d, r1, a1, b1, Rw, ds.set h d, hs, Lc, F, k, n, rfl, CA, SF, by rw [List.length_set]; exact hk, fun H4 e4 => ?_⟩
      have CA4 := CA.ex e4
      walk_at "go"
      refine ⟨cA d, r1, a1, b1, Rw, ds.set h d, hs, Lc, F, k, n, rfl, CA4, SF, by rw [List.length_set]; exact hk, fun H5 e5 => ?_⟩
      walk_at "go"
      have kd5 := kd3.trans (KD.of (e4.trans e5))
      have hD5 := e5 _ _ (e4 _ _ hD3)
      have hDD5 := e5 _ _ (e4 _ _ hDD3)
      have es := endL_succ (ds := ds) (hs := hs) (h := h) (k := k) (n := n) (day := (day : Int)) hd
      refine ⟨_, _, _, rfl, .int _, ?_⟩
      have hb : inB (XR (ds.set h d) hs n k) (XR (ds.set h d) hs n k) (.int (day : Int)) = decide (XR (ds.set h d) hs n k = (day : Int)) := by
        show (decide (XR (ds.set h d) hs n k ≤ (day : Int)) && decide ((day : Int) ≤ XR (ds.set h d) hs n k)) = _
        rw [Bool.eq_iff_iff, Bool.and_eq_true, decide_eq_true_iff, decide_eq_true_iff, decide_eq_true_iff]
        omega
      rw [hb]
      by_cases z : XR (ds.set h d) hs n k = (day : Int)
      · rw [decide_eq_true z]
        walk_at "go"
        refine g_dput ?_
        walk_at "go"
        refine g_sDPk ?_
        walk_at "go"
        refine ⟨D2, _, rfl, DPut.k (k := .inl d) hD5 (by rw [kvsD_len]; have := ob.len; have h2 : (endL ds hs h k n day (L.take i)).length ≤ (L.take i).length := List.length_filter_le ..; rw [List.length_take] at h2; rw [sizeLine_eq]; omega), _, _, rfl, kd5.upd (.inl nD2), by rw [upd_ne (Ne.symm nDD)]; exact hDD5, ?_⟩
        rw [upd_same, es, if_pos z, putK_new (L := endL ds hs h k n day (L.take i)) (nd_take ob.nd hd _)]
      · rw [decide_eq_false z]
        walk_at "go"
        refine ⟨_, _, rfl, kd5, hDD5, ?_⟩
        rw [es, if_neg z, List.append_nil]
        exact hD5
    · rintro σ H2 ⟨v5, v6, rfl, kd, hDD2, hD22⟩
      rw [kvsD_len, List.take_length] at hD22
      refine ⟨hDD2, ?_⟩
      have hm3 := of.m3
      have hD5 : (upd H2 D (.dK (kvsD cA L))) D2 = some (.dK (kvsD cA (endL ds hs h k n day L))) := by
        rw [upd_ne nDD]
        exact hD22
      have k5 : KD H (upd H2 D (.dK (kvsD cA L))) := kd.upd (.inr (.inl ⟨_, ob.dct⟩))
      have hDk5 : (upd H2 D (.dK (kvsD cA L))) D = some (.dK (kvsD cA L)) := upd_same
      generalize upd H2 D (.dK (kvsD cA L)) = H5 at hD5 k5 hDk5 ⊢
      have ho5 := k5.i ho
      walk_at "go"
      rename_i p6 H6 np6 e6 h6
      have h2 : (endL ds hs h k n day L).length ≤ L.length := List.length_filter_le ..
      have lL := ob.len
      refine ⟨o, D, r, p, D2, p6, dx, fs, zs, _, rfl, e6 _ _ ho5, of, e6 _ _ hD5, ex_t e6 (k5.t ob.seen), by omega, by rw [kvsD_len]; omega, ?_⟩
      rcases hq with ⟨hnil, q⟩ | ⟨hne, q⟩
      · exact .inl ⟨by rw [hnil]; rfl, fun H7 e7 => q H7 (k5.trans (KD.of (e6.trans e7))) (e7 _ _ (e6 _ _ hDk5))⟩
      · refine .inr ⟨fun z => hne (List.map_eq_nil_iff.mp z), fun p' dx' fs' H7 e7 ho7 of7 sp7 => ?_⟩
        rw [kvsD_len]
        have ko : KO o H H7 := fun b u nb hb n m => e7 b u nb (e6 _ _ (k5 b u hb n m))
        exact q D2 p' p6 H7 ko ⟨⟨dx', fs', ho7, of7⟩, e7 _ _ (ne_of (e6 _ _ hD5) (e6 _ _ ho5) (by intro z; cases z)) (e6 _ _ hD5), fun d hd => CoAt.ko ko ho of.m8 of.m9 (ob.crs d (List.mem_filter.mp hd).1), RingIn.ko ko ho of.m8 of.m9 ob.ring, sp7, ob.nd.filter _, by omega⟩ (exb_ti e7 (e6 _ _ ho5) (SqT.of h6))
end
end G48

namespace G48
open PySem PySem.Spec PyProof.Rows L2 Evl
abbrev N_DaysObserver___init__ : List Str := ["self", "ring", "reader", "days"]
theorem sc_DaysObserver___init__ : FnScope N_DaysObserver___init__ ["self", "ring", "reader"] (defScope s_DaysObserver___init__) := ⟨rfl, rfl, rfl, by decide +kernel, rfl, by decide +kernel, by decide +kernel⟩
theorem b_DaysObserver___init__ : BindL "DaysObserver.__init__" "__init__" s_DaysObserver___init__ ["self", "ring", "reader"] := fun _ _ _ _ _ _ us hl => match us, hl with | [_, _, _], _ => rfl
abbrev N_DaysObserver_possible_days : List Str := ["self"]
theorem sc_DaysObserver_possible_days : FnScope N_DaysObserver_possible_days ["self"] (defScope s_DaysObserver_possible_days) := ⟨rfl, rfl, rfl, by decide +kernel, rfl, by decide +kernel, by decide +kernel⟩
theorem b_DaysObserver_possible_days : BindL "DaysObserver.possible_days" "possible_days" s_DaysObserver_possible_days ["self"] := fun _ _ _ _ _ _ us hl => match us, hl with | [_], _ => rfl
abbrev N_DaysObserver_observations : List Str := ["self"]
theorem sc_DaysObserver_observations : FnScope N_DaysObserver_observations ["self"] (defScope s_DaysObserver_observations) := ⟨rfl, rfl, rfl, by decide +kernel, rfl, by decide +kernel, by decide +kernel⟩
theorem b_DaysObserver_observations : BindL "DaysObserver.observations" "observations" s_DaysObserver_observations ["self"] := fun _ _ _ _ _ _ us hl => match us, hl with | [_], _ => rfl
end G48
/-! an observer: made, asked -/
namespace G48
open PySem PySem.Spec PyProof.Rows L2 Evl
/-! the steps -/
local macro_rules | `(tactic| walk_at "as") => `(tactic| with_reducible assumption)
local macro_rules | `(tactic| walk_at "hp") => `(tactic| first
  | with_reducible assumption
  | ((with_reducible apply SqT.of); walk_at "as")
  | ((with_reducible apply SqL.of); walk_at "as")
  | ((with_reducible apply ex_at); (focus walk_at "as"); walk_at "hp")
  | ((with_reducible apply ex_t); (focus walk_at "as"); walk_at "hp")
  | ((with_reducible apply ex_l); (focus walk_at "as"); walk_at "hp")
  | ((with_reducible apply exb_ins); (focus walk_at "as"); (focus walk_at "hp"); walk_at "hp")
  | ((with_reducible apply exb_t); (focus walk_at "as"); (focus walk_at "hp"); walk_at "hp")
  | ((with_reducible apply exb_at); (focus walk_at "as"); (focus walk_at "ne"); walk_at "hp")
  | ((with_reducible apply exb_l); (focus walk_at "as"); (focus walk_at "ne"); walk_at "hp"))
local macro_rules | `(tactic| walk_at "ne") => `(tactic| first
  | with_reducible assumption
  | exact Ne.symm (by with_reducible assumption)
  | exact ne_of_none (by with_reducible assumption) (by with_reducible assumption)
  | exact Ne.symm (ne_of_none (by with_reducible assumption) (by with_reducible assumption)))
local macro_rules | `(tactic| walk_at "tr") => `(tactic| first
  | rfl
  | with_reducible assumption
  | exact decide_eq_true (by first | with_reducible assumption | omega)
  | exact decide_eq_false (by first | with_reducible assumption | omega)
  | (rw [Bool.not_eq_true']; exact decide_eq_false (by first | with_reducible assumption | omega))
  | (rw [Bool.not_eq_false']; exact decide_eq_true (by first | with_reducible assumption | omega)))
local macro_rules | `(tactic| walk_at "nn") => `(tactic| first | with_reducible assumption | (exact List.cons_ne_nil _ _))
local macro_rules | `(tactic| walk_at "sz") => `(tactic| first | (exact sz1000 (Nat.le_of_ble_eq_true rfl)) | (refine sz1000 ?_; simp only [List.length_map, List.length_cons, List.length_nil, List.length_append]; omega) | with_reducible assumption)
local macro_rules | `(tactic| walk_at "sl") => `(tactic| first | with_reducible assumption | (refine lt1000 ?_; simp only [List.length_map, List.length_cons, List.length_nil, List.length_append]; omega) | (refine lt1000 ?_; omega))
local macro_rules | `(tactic| walk_at "ix") => `(tactic| first | rfl | with_reducible assumption)
local macro_rules | `(tactic| walk_at "rg") => `(tactic| exact RgOk.of_le (by omega) (by omega) (by omega) (by omega))
local macro_rules | `(tactic| walk_at "sp") => `(tactic| fail "sp")
local macro_rules | `(tactic| walk_at "cl") => `(tactic| with_reducible assumption)
local macro_rules | `(tactic| walk_at "lk") => `(tactic| with_reducible assumption)
local macro_rules | `(tactic| walk_at "it") => `(tactic| first | rfl | with_reducible assumption | exact atI_nat (by with_reducible assumption))
local macro_rules | `(tactic| walk_at "g1") => `(tactic| first
  | (with_reducible apply g_var); (focus rfl)
  | with_reducible apply g_c
  | with_reducible apply g_seq
  | with_reducible apply g_asg
  | with_reducible apply gg_name
  | with_reducible apply g_op
  | with_reducible apply g_cons
  | with_reducible apply g_nil
  | with_reducible apply g_cb
  | with_reducible apply g_fld
  | ((with_reducible apply g_kFld); (focus walk_at "hp"); (focus walk_at "cl"); (focus walk_at "cl"); (focus walk_at "lk"))
  | with_reducible apply g_call
  | walk_at "sp"
  | with_reducible apply g_ret
  | with_reducible apply g_drop
  | with_reducible apply g_test
  | with_reducible apply g_B
  | with_reducible apply g_kTest
  | with_reducible apply g_ifS
  | with_reducible apply g_kIfST
  | with_reducible apply g_kIfSF
  | with_reducible apply g_add
  | with_reducible apply g_sub
  | with_reducible apply g_lt
  | with_reducible apply g_le
  | with_reducible apply g_gt
  | with_reducible apply g_ge
  | with_reducible apply g_eqI
  | with_reducible apply g_neI
  | ((with_reducible apply g_mod); (focus first | decide | omega))
  | ((with_reducible apply g_mul); (focus first | (left; constructor <;> omega) | (right; constructor <;> omega)))
  | ((with_reducible apply g_fdiv); (focus (constructor <;> omega)))
  | ((with_reducible apply g_ixT); (focus walk_at "hp"); (focus walk_at "it"))
  | ((with_reducible apply g_ixL); (focus walk_at "hp"); (focus walk_at "it"))
  | with_reducible apply g_and
  | with_reducible apply g_or
  | with_reducible apply g_not
  | with_reducible apply g_kNotT
  | with_reducible apply g_kNotF
  | with_reducible apply g_if
  | with_reducible apply g_kAndT
  | with_reducible apply g_kAndF
  | with_reducible apply g_kOrT
  | with_reducible apply g_kOrF
  | with_reducible apply g_kIfT
  | with_reducible apply g_kIfF
  | with_reducible apply g_next
  | with_reducible apply g_andV
  | with_reducible apply g_orV
  | with_reducible apply g_notV
  | with_reducible apply g_kNotV
  | with_reducible apply g_kAndVT
  | with_reducible apply g_kAndVF
  | with_reducible apply g_chain
  | with_reducible apply g_kChainT
  | with_reducible apply g_kChainF
  | with_reducible apply g_tup
  | with_reducible apply g_lst
  | ((with_reducible apply g_kT); (focus walk_at "sz"); intro _ _ _ _ _)
  | ((with_reducible apply g_kL); (focus walk_at "sz"); intro _ _ _ _ _)
  | with_reducible apply g_un
  | with_reducible apply g_neg
  | with_reducible apply g_meth
  | ((with_reducible apply g_kMeth); (focus walk_at "hp"); (focus walk_at "lk"))
  | with_reducible apply g_prop
  | ((with_reducible apply g_kProp); (focus walk_at "hp"))
  | with_reducible apply g_make
  | with_reducible apply g_par
  | with_reducible apply g_kPar
  | ((with_reducible apply g_lenLM); (focus walk_at "hp"))
  | ((with_reducible apply g_lenTM); (focus walk_at "hp"))
  | ((with_reducible apply g_lenL); (focus walk_at "hp"))
  | ((with_reducible apply g_lenT); (focus walk_at "hp"))
  | with_reducible apply g_int1
  | with_reducible apply g_max2
  | with_reducible apply g_min2
  | ((with_reducible apply g_listL); (focus walk_at "hp"); intro _ _ _ _ _)
  | ((with_reducible apply g_listT); (focus walk_at "hp"); intro _ _ _ _ _)
  | ((with_reducible apply g_tupL); (focus walk_at "hp"); intro _ _ _ _ _)
  | ((with_reducible apply g_sum); (focus walk_at "hp"))
  | with_reducible apply g_sfld
  | with_reducible apply g_sl
  | with_reducible apply g_nopart
  | with_reducible apply g_part
  | with_reducible apply g_kPart
  | with_reducible apply g_lstRg
  | with_reducible apply g_rg1
  | with_reducible apply g_kRg1
  | with_reducible apply g_bm
  | with_reducible apply gg_sub
  | ((with_reducible apply gg_tup); (focus walk_at "hp"); (focus rfl))
  | with_reducible apply gg_cons
  | with_reducible apply gg_nil
  | with_reducible apply g_forL
  | with_reducible apply g_forT
  | with_reducible apply g_forR1
  | with_reducible apply g_forR2
  | with_reducible apply g_forE
  | with_reducible apply g_forEL
  | ((with_reducible apply g_maxT); (focus walk_at "hp"); (focus walk_at "nn"))
  | ((with_reducible apply g_maxL); (focus walk_at "hp"); (focus walk_at "nn"))
  | ((with_reducible apply g_catA); (focus walk_at "hp"); (focus walk_at "hp"); (focus walk_at "sz"); intro _ _ _ _)
  | ((with_reducible apply g_slA); (focus walk_at "hp"); intro _ _ _ _)
  | ((with_reducible apply g_tupD); (focus walk_at "hp"); intro _ _ _ _ _)
  | ((with_reducible apply g_setL); (focus walk_at "hp"); (focus walk_at "ix"); intro _ _ _)
  | ((with_reducible apply g_append); (focus walk_at "hp"); (focus walk_at "sl"); intro _ _ _)
  | ((with_reducible apply g_aug); (focus rfl))
  | with_reducible apply g_ipI
  | with_reducible apply g_retN
  | with_reducible apply g_lcR1
  | with_reducible apply g_lcR2
  | with_reducible apply g_lcL
  | with_reducible apply g_lcU
  | with_reducible apply g_lcN
  | ((with_reducible apply g_kLcG); (focus rfl))
  | with_reducible apply g_yes
  | with_reducible apply g_kLcTT
  | with_reducible apply g_kLcTF
  | ((with_reducible apply g_kLcE); (focus walk_at "hp"); (focus walk_at "sl"); intro _ _ _)
  | ((with_reducible apply g_pow); (focus (constructor <;> (try constructor) <;> decide)))
  | ((with_reducible apply g_kLRg); (focus walk_at "rg"); intro _ _ _ _ _)
  | ((with_reducible apply g_cat); (focus walk_at "hp"); (focus walk_at "hp"); (focus walk_at "sz"); intro _ _ _ _ _)
  | ((with_reducible apply g_slL); (focus walk_at "hp"); intro _ _ _ _ _)
  | with_reducible apply g_bmT
  | with_reducible apply g_break
  | with_reducible apply g_cont)
local macro_rules | `(tactic| walk_at "g0") => `(tactic| try dsimp only [L2.cxOf, L2.Cx.nox, L2.Cx.wish])
local macro_rules | `(tactic| walk_at "yn") => `(tactic| first
  | ((with_reducible apply y_kIfS); (focus walk_at "tr"))
  | ((with_reducible apply n_kIfS); (focus walk_at "tr"))
  | ((with_reducible apply y_kOr); (focus walk_at "tr"))
  | ((with_reducible apply n_kOr); (focus walk_at "tr"))
  | ((with_reducible apply y_kAnd); (focus walk_at "tr"))
  | ((with_reducible apply n_kAnd); (focus walk_at "tr"))
  | ((with_reducible apply y_kNot); (focus walk_at "tr"))
  | ((with_reducible apply n_kNot); (focus walk_at "tr"))
  | ((with_reducible apply y_kIf); (focus walk_at "tr"))
  | ((with_reducible apply n_kIf); (focus walk_at "tr"))
  | ((with_reducible apply y_kAndV); (focus walk_at "tr"))
  | ((with_reducible apply n_kAndV); (focus walk_at "tr"))
  | ((with_reducible apply y_kOrV); (focus walk_at "tr"))
  | ((with_reducible apply n_kOrV); (focus walk_at "tr"))
  | ((with_reducible apply y_kChain); (focus walk_at "tr"))
  | ((with_reducible apply n_kChain); (focus walk_at "tr"))
  | ((with_reducible apply y_kLcT); (focus walk_at "tr"))
  | ((with_reducible apply n_kLcT); (focus walk_at "tr"))
  | ((with_reducible apply y_kWh); (focus walk_at "tr"))
  | ((with_reducible apply n_kWh); (focus walk_at "tr")))
local macro_rules | `(tactic| walk_at "go") => `(tactic| repeat (first | walk_at "g1" | walk_at "yn"))
local macro_rules | `(tactic| walk_at "hp") => `(tactic| first
  | ((with_reducible apply RingIn.ex); (focus walk_at "as"); walk_at "hp")
  | ((with_reducible apply RingAt.ex); (focus walk_at "as"); walk_at "hp")
  | ((with_reducible apply RingIn.exb); (focus walk_at "as"); (focus walk_at "hp"); walk_at "hp")
  | ((with_reducible apply RingAt.exb); (focus walk_at "as"); (focus walk_at "hp"); walk_at "hp")
  | ((with_reducible apply TupK.ex); (focus walk_at "as"); walk_at "hp")
  | ((with_reducible apply TupK.exb); (focus walk_at "as"); (focus walk_at "hp"); walk_at "hp"))
local macro_rules | `(tactic| walk_at "lk") => `(tactic| first | with_reducible exact rf_spans | with_reducible exact rf_heaps | with_reducible exact rf_total | with_reducible exact rf_nr | with_reducible exact rf_wd)
local macro_rules | `(tactic| walk_at "sp") => `(tactic| first
  | ((with_reducible apply g_isiTup); (focus walk_at "hp"))
  | ((with_reducible apply g_isiLst); (focus walk_at "hp"))
  | ((with_reducible apply g_isint); (focus omega); (focus omega))
  | ((with_reducible apply g_checkn); (focus omega); (focus omega))
  | ((with_reducible apply g_rbooks); (focus walk_at "hp"))
  | ((with_reducible apply g_rpace); (focus walk_at "hp"); intro _ _ _ _)
  | ((with_reducible apply g_rlen); (focus walk_at "hp"))
  | ((with_reducible apply g_rneed); (focus walk_at "hp"); (focus omega))
  | ((with_reducible apply g_rneedM); (focus walk_at "hp"))
  | ((with_reducible apply g_rwithM); (focus walk_at "hp"))
  | ((with_reducible apply g_rspans); (focus walk_at "hp"); (focus with_reducible assumption))
  | ((with_reducible apply g_rheaps); (focus walk_at "hp"); (focus with_reducible assumption))
  | ((with_reducible apply g_rtotal); (focus walk_at "hp"); (focus with_reducible assumption)))

local macro_rules | `(tactic| walk_at "hp") => `(tactic| first
  | ((with_reducible apply CrsIn.ex); (focus walk_at "as"); walk_at "hp")
  | ((with_reducible apply RowsAt.ex); (focus walk_at "as"); walk_at "hp"))
local macro_rules | `(tactic| walk_at "sp") => `(tactic| first
  | ((with_reducible apply g_crows); (focus walk_at "hp"); (focus with_reducible assumption))
  | ((with_reducible apply g_csize); (focus walk_at "hp"); (focus with_reducible assumption))
  | ((with_reducible apply g_cevery); (focus walk_at "hp"); (focus with_reducible assumption))
  | ((with_reducible apply g_cshift); (focus walk_at "hp"); (focus with_reducible assumption))
  | ((with_reducible apply g_cring); (focus walk_at "hp"); (focus with_reducible assumption))
  | ((with_reducible apply g_cfirst); (focus walk_at "hp"); (focus with_reducible assumption))
  | ((with_reducible apply g_clen); (focus walk_at "hp"))
  | ((with_reducible apply g_cmShifted); (focus walk_at "hp"))
  | ((with_reducible apply g_cmSettled); (focus walk_at "hp"))
  | ((with_reducible apply g_cmNext); (focus walk_at "hp"))
  | ((with_reducible apply g_cmEnd); (focus walk_at "hp"))
  | ((with_reducible apply g_cmArrival); (focus walk_at "hp")))

local macro_rules | `(tactic| walk_at "sp") => `(tactic| first
  | ((with_reducible apply g_taken); (focus walk_at "hp"); (focus first | decide | omega); (focus first | decide | omega); intro _ _ _ _ _ _))
local macro_rules | `(tactic| walk_at "hp") => `(tactic| first
  | ((with_reducible apply DiceAt.ex); (focus walk_at "as"); walk_at "hp")
  | ((with_reducible apply exb_tD); (focus walk_at "as"); (focus walk_at "hp"); walk_at "hp")
  | ((with_reducible apply exb_insD); (focus walk_at "as"); (focus walk_at "hp"); walk_at "hp")
  | ((with_reducible apply RingIn.exD); (focus walk_at "as"); (focus walk_at "hp"); walk_at "hp")
  | ((with_reducible apply TupK.exD); (focus walk_at "as"); (focus walk_at "hp"); walk_at "hp"))

local macro_rules | `(tactic| walk_at "hp") => `(tactic| first
  | ((with_reducible apply CrsAt.ex); (focus walk_at "as"); walk_at "hp")
  | ((with_reducible apply CrsAt.into); walk_at "hp"))
local macro_rules | `(tactic| walk_at "g1") => `(tactic| first
  | ((with_reducible apply g_callO); (focus walk_at "hp"))
  | with_reducible apply g_tCallO
  | with_reducible apply g_kCallO)
local macro_rules | `(tactic| walk_at "sp") => `(tactic| first
  | ((with_reducible apply g_rdays); (focus walk_at "hp"))
  | ((with_reducible apply g_rstarts); (focus walk_at "hp"))
  | ((with_reducible apply g_rget); (focus walk_at "hp"); (focus with_reducible assumption); intro _ _ _ _)
  | ((with_reducible apply g_rcall); (focus walk_at "hp"); (focus with_reducible assumption); (focus omega); intro _ _)
  | ((with_reducible apply g_mkCourse); (focus walk_at "hp"); intro _ _ _ _ _ _ _ _ _)
  | ((with_reducible apply g_ncheckn); (focus omega); (focus omega)))

section
variable {P : Program} {w : World} {K : PySem.W.Frag} {mg : Str → Option Value} {base : Heap} {C CC OC : Addr}
def days30 : List Int := (List.range 30).map fun i => 1 + ((i : Nat) : Int)
theorem days30_nd : days30.Nodup := by decide
theorem days30_at {i : Nat} (h : i < 30) : days30[i]? = some (1 + (i : Int)) := by
  unfold days30
  rw [List.getElem?_map, List.getElem?_range h]
  rfl
theorem kvsD_congr {cA cB : Int → Addr} {L : List Int} (h : ∀ d ∈ L, cA d = cB d) : kvsD cA L = kvsD cB L := by
  unfold kvsD
  exact List.map_congr_left fun d hd => by rw [h d hd]
def sp_Obs_init (K : PySem.W.Frag) (C CC OC : Addr) : Sp := fun vs H Q _ => ∃ (o r a b dx : Addr) (ds hs : List Int) (h : Nat), vs = [.ref o, .ref r, .int (h : Int)] ∧ H o = some (.ins OC dx []) ∧ RingIn K C H r a b ds hs ∧ h < ds.length ∧
  ∀ D p cA H', Exb o H H' → ObsAt K C CC OC H' o D r a b p ds hs h days30 cA [] → Q .non H'
theorem ok_Obs_init (Z : Blt mg) (R : RingC K C) (RC : CourseC K CC) (RO : ObsC K OC) (c_MAX_DAYS : ∃ t, mg "MAX_DAYS" = some (.int 30 t)) (M_Ring_need_reader : Mf P w K mg base C 2 "need_reader" ["self", "reader"] (sp_Ring_need K C)) (M_Ring_with_days : Mf P w K mg base C 5 "with_days" ["self", "reader", "days"] (sp_Ring_with K C))
    (I_Course : If P w K mg base "Course" CC 5 ["self", "ring"] (sp_Course_init K C CC)) (G : IFun K mg "DaysObserver" OC "DaysObserver.__init__" s_DaysObserver___init__) : If P w K mg base "DaysObserver" OC 7 ["self", "ring", "reader"] (sp_Obs_init K C CC OC) := by
  refine If.of G sc_DaysObserver___init__ b_DaysObserver___init__ (fun vs H Q E h => ?_) (fun f cdv A outer s H vs Q E hr h => ?_)
  · obtain ⟨o, r, a, b, dx, ds, hs, h, rfl, _⟩ := h
    rfl
  · obtain ⟨o, r, a, b, dx, ds, hs, h, rfl, ho, RI, hh, q⟩ := h
    have cl_Ring := R.cl
    have cl_Course := RC.cl
    obtain ⟨cl_DaysObserver, n1, n2, n3⟩ := RO
    have nro : r ≠ o := by
      obtain ⟨dr, hr⟩ := RI.obj
      intro z
      rw [z, ho] at hr
      cases hr
    refine ⟨_, PSs.nox (pss_cons (ps_expr (pm (pv 1) cl_Ring M_Ring_need_reader hr (pa_cons (pv 2) pa_nil)))
      (pss_cons (ps_fld (pv 0) (pe_dc (own := [("days", 3)]) rfl sc_DaysObserver___init__.nd (pi_range2 (by rfl) Z.zrange (pa_cons pe_int (pa_cons (pe_op op_add (pint c_MAX_DAYS) pe_int) pa_nil))) (blkOk_by (N := N_DaysObserver___init__) (sc := defScope s_DaysObserver___init__) (by decide +kernel)) (fun _ _ _ _ _ => (pg_name (i := 3) sc_DaysObserver___init__.nd rfl (by first | exact Or.inl rfl | exact Or.inr rfl))) (fun _ _ _ _ _ => pts_nil) (fun _ _ _ _ _ => (pv 3)) (fun _ _ _ _ _ => (pk I_Course hr (pa_cons (pm (pv 1) cl_Ring M_Ring_with_days hr (pa_cons (pv 2) (pa_cons (pv 3) pa_nil))) pa_nil)))) rfl)
      (pss_cons (ps_fld (pv 0) (pv 1) rfl)
      (pss_one (ps_fld (pv 0) (pe_tup pa_nil) rfl))))), ?_⟩
    walk_at "g0"
    walk_at "go"
    refine g_dcR2 ?_
    walk_at "go"
    refine g_kDcR2 ⟨by omega, by omega, by omega, by omega⟩ (fun D i H' => Ex H H' ∧ ∃ cA, H' D = some (.dK (kvsD cA (days30.take i))) ∧ ∀ d ∈ days30.take i, CoAt K C CC H' (cA d) (ds.set h d) hs) (fun D nD => ⟨Ex.new nD, fun _ => 0, upd_same, fun d hd => by cases hd⟩) ?_ ?_
    · rintro D i H2 nD hi ⟨e2, cA, hD2, hc2⟩
      have hi30 : i < 30 := by omega
      have RI2 := RI.ex e2
      walk_at "go"
      refine g_kDcG rfl ?_
      walk_at "go"
      refine g_kDcTt ?_
      walk_at "go"
      refine g_kDcK ?_
      walk_at "go"
      refine ⟨r, a, b, ds, hs, h, 1 + (i : Int), rfl, RI2, hh, ⟨by omega, by omega⟩, fun r' a' H3 n3' e3 R3 => ?_⟩
      walk_at "go"
      rename_i c Rw Lc F H4 n4 e4 CA SF
      have e24 := e3.trans e4
      have hD4 := e24 _ _ hD2
      have hat := days30_at hi30
      have hnot : 1 + (i : Int) ∉ days30.take i := fun z => nd_take days30_nd hat (fun _ => true) (by simpa using z)
      refine g_kDcV hD4 (by rw [kvsD_len, List.length_take]; rw [sizeLine_eq]; omega) ⟨fun b u hb => by rw [upd_ne (ne_of_none hb nD)]; exact (e2.trans e24) b u hb, fun x => if x = 1 + (i : Int) then c else cA x, ?_, fun d hd => ?_⟩
      · rw [upd_same, kvsD_congr (cB := fun x => if x = 1 + (i : Int) then c else cA x) (fun d hd => by rw [if_neg (fun z => hnot (by rw [← z]; exact hd))])]
        have := putK_new (cA := fun x => if x = 1 + (i : Int) then c else cA x) hnot
        rw [if_pos rfl] at this
        rw [this, List.take_add_one, hat]
        rfl
      · rw [List.take_add_one, hat] at hd
        rcases List.mem_append.mp hd with hd | hd
        · show CoAt K C CC _ (if d = 1 + (i : Int) then c else cA d) _ _
          rw [if_neg (fun z => hnot (by rw [← z]; exact hd))]
          exact (hc2 d hd).kd ((KD.of e24).upd (.inr (.inl ⟨_, hD2⟩)))
        · obtain rfl : d = 1 + (i : Int) := List.mem_singleton.mp hd
          show CoAt K C CC _ (if 1 + (i : Int) = 1 + (i : Int) then c else cA (1 + (i : Int))) _ _
          rw [if_pos rfl]
          exact CoAt.kd (KD.refl.upd (.inr (.inl ⟨_, hD4⟩))) ⟨_, _, _, _, _, _, CA, SF⟩
    · rintro D H2 nD ⟨e2, cA, hD2, hc2⟩
      have ht : List.take ((30 : Int) + 1 - 1).toNat days30 = days30 := by decide
      rw [ht] at hD2 hc2
      have ho2 := e2 _ _ ho
      have nDo : D ≠ o := fun z => by rw [z, ho] at nD; cases nD
      walk_at "go"
      refine g_kSFld ho2 cl_DaysObserver n1 (by decide) fun H3 e3 ho3 => ?_
      walk_at "go"
      refine g_kSFld ho3 cl_DaysObserver n2 (lt_of_lenp (lenp len0) rfl) fun H4 e4 ho4 => ?_
      walk_at "go"
      rename_i p5 H5 n5 e5 h5
      refine g_kSFld (e5 _ _ ho4) cl_DaysObserver n3 (lt_of_lenp (lenp (lenp len0)) rfl) fun H6 e6 ho6 => ?_
      walk_at "go"
      have e26 : Exb o H2 H6 := fun b u nb hb => e6 b u nb (e5 _ _ (e4 b u nb (e3 b u nb hb)))
      have ko : KO o H2 H6 := fun b u nb hb _ _ => e26 b u nb hb
      exact q D p5 cA H6 (fun b u nb hb => e26 b u nb (e2 b u hb)) ⟨⟨_, _, ho6, OF.make⟩, e26 _ _ nDo hD2, fun d hd => CoAt.ko ko ho2 rfl rfl (hc2 d hd), RingIn.ko ko ho2 rfl rfl (RI.ex e2), exb_ti e6 (e5 _ _ ho4) (SqT.of h5), days30_nd, by decide⟩
def sp_possible (K : PySem.W.Frag) (C CC OC : Addr) : Sp := fun vs H Q _ => ∃ (o D r a b p : Addr) (ds hs : List Int) (h : Nat) (L : List Int) (cA : Int → Addr) (zs : List V), vs = [.ref o] ∧ ObsAt K C CC OC H o D r a b p ds hs h L cA zs ∧ ∀ l H', H l = none → Ex H H' → H' l = some (.lst (L.map V.int)) → Q (.ref l) H'
theorem ok_possible (Z : Blt mg) (RO : ObsC K OC) (G : PFun K OC "possible_days" "DaysObserver.possible_days" s_DaysObserver_possible_days) : Pf P w K mg base OC 1 "possible_days" ["self"] (sp_possible K C CC OC) := by
  refine Pf.of G sc_DaysObserver_possible_days b_DaysObserver_possible_days (fun vs H Q E h => ?_) (fun f cdv A outer s H vs Q E hr h => ?_)
  · obtain ⟨o, D, r, a, b, p, ds, hs, h, L, cA, zs, rfl, _⟩ := h
    rfl
  · obtain ⟨o, D, r, a, b, p, ds, hs, h, L, cA, zs, rfl, ob, q⟩ := h
    obtain ⟨dx, fs, ho, of⟩ := ob.obj
    obtain ⟨cl_DaysObserver, n1, n2, n3⟩ := RO
    have hco := of.co
    refine ⟨_, PSs.nox (pss_one (ps_ret (pe_callTy (call_list_dK rfl) (by rfl) Z.zlist (by decide +kernel) (pa_cons (pe_fld (pv 0) rfl) pa_nil)))), ?_⟩
    walk_at "g0"
    walk_at "go"
    refine g_listD ob.dct fun l H1 nl e1 hl => ?_
    walk_at "go"
    refine q l H1 nl e1 ?_
    rw [hl]
    unfold kvsD
    rw [List.map_map]
    rfl
def sp_observations (K : PySem.W.Frag) (C CC OC : Addr) : Sp := fun vs H Q _ => ∃ (o D r a b p : Addr) (ds hs : List Int) (h : Nat) (L : List Int) (cA : Int → Addr) (zs : List V), vs = [.ref o] ∧ ObsAt K C CC OC H o D r a b p ds hs h L cA zs ∧ ∀ l H', H l = none → Ex H H' → H' l = some (.lst zs) → Q (.ref l) H'
theorem ok_observations (Z : Blt mg) (RO : ObsC K OC) (G : PFun K OC "observations" "DaysObserver.observations" s_DaysObserver_observations) : Pf P w K mg base OC 1 "observations" ["self"] (sp_observations K C CC OC) := by
  refine Pf.of G sc_DaysObserver_observations b_DaysObserver_observations (fun vs H Q E h => ?_) (fun f cdv A outer s H vs Q E hr h => ?_)
  · obtain ⟨o, D, r, a, b, p, ds, hs, h, L, cA, zs, rfl, _⟩ := h
    rfl
  · obtain ⟨o, D, r, a, b, p, ds, hs, h, L, cA, zs, rfl, ob, q⟩ := h
    obtain ⟨dx, fs, ho, of⟩ := ob.obj
    obtain ⟨cl_DaysObserver, n1, n2, n3⟩ := RO
    have hse := of.se
    have hsp := ob.seen
    refine ⟨_, PSs.nox (pss_one (ps_ret (pe_callTy c_list_of (by rfl) Z.zlist (by decide +kernel) (pa_cons (pe_fld (pv 0) rfl) pa_nil)))), ?_⟩
    walk_at "g0"
    walk_at "go"
    rename_i l H1 nl e1 hl
    exact q l H1 nl e1 hl
end
end G48

namespace G48
open PySem PySem.Spec PyProof.Rows L2 Evl
abbrev N_DaysObserver_possible_ends : List Str := ["self", "reader", "number", "course"]
theorem sc_DaysObserver_possible_ends : FnScope N_DaysObserver_possible_ends ["self", "reader", "number"] (defScope s_DaysObserver_possible_ends) := ⟨rfl, rfl, rfl, by decide +kernel, rfl, by decide +kernel, by decide +kernel⟩
theorem b_DaysObserver_possible_ends : BindL "DaysObserver.possible_ends" "possible_ends" s_DaysObserver_possible_ends ["self", "reader", "number"] := fun _ _ _ _ _ _ us hl => match us, hl with | [_, _, _], _ => rfl
end G48
/-! an observer: possible ends, the telling number -/
namespace G48
open PySem PySem.Spec PyProof.Rows L2 Evl
/-! the steps -/
local macro_rules | `(tactic| walk_at "as") => `(tactic| with_reducible assumption)
local macro_rules | `(tactic| walk_at "hp") => `(tactic| first
  | with_reducible assumption
  | ((with_reducible apply SqT.of); walk_at "as")
  | ((with_reducible apply SqL.of); walk_at "as")
  | ((with_reducible apply ex_at); (focus walk_at "as"); walk_at "hp")
  | ((with_reducible apply ex_t); (focus walk_at "as"); walk_at "hp")
  | ((with_reducible apply ex_l); (focus walk_at "as"); walk_at "hp")
  | ((with_reducible apply exb_ins); (focus walk_at "as"); (focus walk_at "hp"); walk_at "hp")
  | ((with_reducible apply exb_t); (focus walk_at "as"); (focus walk_at "hp"); walk_at "hp")
  | ((with_reducible apply exb_at); (focus walk_at "as"); (focus walk_at "ne"); walk_at "hp")
  | ((with_reducible apply exb_l); (focus walk_at "as"); (focus walk_at "ne"); walk_at "hp"))
local macro_rules | `(tactic| walk_at "ne") => `(tactic| first
  | with_reducible assumption
  | exact Ne.symm (by with_reducible assumption)
  | exact ne_of_none (by with_reducible assumption) (by with_reducible assumption)
  | exact Ne.symm (ne_of_none (by with_reducible assumption) (by with_reducible assumption)))
local macro_rules | `(tactic| walk_at "tr") => `(tactic| first
  | rfl
  | with_reducible assumption
  | exact decide_eq_true (by first | with_reducible assumption | omega)
  | exact decide_eq_false (by first | with_reducible assumption | omega)
  | (rw [Bool.not_eq_true']; exact decide_eq_false (by first | with_reducible assumption | omega))
  | (rw [Bool.not_eq_false']; exact decide_eq_true (by first | with_reducible assumption | omega)))
local macro_rules | `(tactic| walk_at "nn") => `(tactic| first | with_reducible assumption | (exact List.cons_ne_nil _ _))
local macro_rules | `(tactic| walk_at "sz") => `(tactic| first | (exact sz1000 (Nat.le_of_ble_eq_true rfl)) | (refine sz1000 ?_; simp only [List.length_map, List.length_cons, List.length_nil, List.length_append]; omega) | with_reducible assumption)
local macro_rules | `(tactic| walk_at "sl") => `(tactic| first | with_reducible assumption | (refine lt1000 ?_; simp only [List.length_map, List.length_cons, List.length_nil, List.length_append]; omega) | (refine lt1000 ?_; omega))
local macro_rules | `(tactic| walk_at "ix") => `(tactic| first | rfl | with_reducible assumption)
local macro_rules | `(tactic| walk_at "rg") => `(tactic| exact RgOk.of_le (by omega) (by omega) (by omega) (by omega))
local macro_rules | `(tactic| walk_at "sp") => `(tactic| fail "sp")
local macro_rules | `(tactic| walk_at "cl") => `(tactic| with_reducible assumption)
local macro_rules | `(tactic| walk_at "lk") => `(tactic| with_reducible assumption)
local macro_rules | `(tactic| walk_at "it") => `(tactic| first | rfl | with_reducible assumption | exact atI_nat (by with_reducible assumption))
local macro_rules | `(tactic| walk_at "g1") => `(tactic| first
  | (with_reducible apply g_var); (focus rfl)
  | with_reducible apply g_c
  | with_reducible apply g_seq
  | with_reducible apply g_asg
  | with_reducible apply gg_name
  | with_reducible apply g_op
  | with_reducible apply g_cons
  | with_reducible apply g_nil
  | with_reducible apply g_cb
  | with_reducible apply g_fld
  | ((with_reducible apply g_kFld); (focus walk_at "hp"); (focus walk_at "cl"); (focus walk_at "cl"); (focus walk_at "lk"))
  | with_reducible apply g_call
  | walk_at "sp"
  | with_reducible apply g_ret
  | with_reducible apply g_drop
  | with_reducible apply g_test
  | with_reducible apply g_B
  | with_reducible apply g_kTest
  | with_reducible apply g_ifS
  | with_reducible apply g_kIfST
  | with_reducible apply g_kIfSF
  | with_reducible apply g_add
  | with_reducible apply g_sub
  | with_reducible apply g_lt
  | with_reducible apply g_le
  | with_reducible apply g_gt
  | with_reducible apply g_ge
  | with_reducible apply g_eqI
  | with_reducible apply g_neI
  | ((with_reducible apply g_mod); (focus first | decide | omega))
  | ((with_reducible apply g_mul); (focus first | (left; constructor <;> omega) | (right; constructor <;> omega)))
  | ((with_reducible apply g_fdiv); (focus (constructor <;> omega)))
  | ((with_reducible apply g_ixT); (focus walk_at "hp"); (focus walk_at "it"))
  | ((with_reducible apply g_ixL); (focus walk_at "hp"); (focus walk_at "it"))
  | with_reducible apply g_and
  | with_reducible apply g_or
  | with_reducible apply g_not
  | with_reducible apply g_kNotT
  | with_reducible apply g_kNotF
  | with_reducible apply g_if
  | with_reducible apply g_kAndT
  | with_reducible apply g_kAndF
  | with_reducible apply g_kOrT
  | with_reducible apply g_kOrF
  | with_reducible apply g_kIfT
  | with_reducible apply g_kIfF
  | with_reducible apply g_next
  | with_reducible apply g_andV
  | with_reducible apply g_orV
  | with_reducible apply g_notV
  | with_reducible apply g_kNotV
  | with_reducible apply g_kAndVT
  | with_reducible apply g_kAndVF
  | with_reducible apply g_chain
  | with_reducible apply g_kChainT
  | with_reducible apply g_kChainF
  | with_reducible apply g_tup
  | with_reducible apply g_lst
  | ((with_reducible apply g_kT); (focus walk_at "sz"); intro _ _ _ _ _)
  | ((with_reducible apply g_kL); (focus walk_at "sz"); intro _ _ _ _ _)
  | with_reducible apply g_un
  | with_reducible apply g_neg
  | with_reducible apply g_meth
  | ((with_reducible apply g_kMeth); (focus walk_at "hp"); (focus walk_at "lk"))
  | with_reducible apply g_prop
  | ((with_reducible apply g_kProp); (focus walk_at "hp"))
  | with_reducible apply g_make
  | with_reducible apply g_par
  | with_reducible apply g_kPar
  | ((with_reducible apply g_lenLM); (focus walk_at "hp"))
  | ((with_reducible apply g_lenTM); (focus walk_at "hp"))
  | ((with_reducible apply g_lenL); (focus walk_at "hp"))
  | ((with_reducible apply g_lenT); (focus walk_at "hp"))
  | with_reducible apply g_int1
  | with_reducible apply g_max2
  | with_reducible apply g_min2
  | ((with_reducible apply g_listL); (focus walk_at "hp"); intro _ _ _ _ _)
  | ((with_reducible apply g_listT); (focus walk_at "hp"); intro _ _ _ _ _)
  | ((with_reducible apply g_tupL); (focus walk_at "hp"); intro _ _ _ _ _)
  | ((with_reducible apply g_sum); (focus walk_at "hp"))
  | with_reducible apply g_sfld
  | with_reducible apply g_sl
  | with_reducible apply g_nopart
  | with_reducible apply g_part
  | with_reducible apply g_kPart
  | with_reducible apply g_lstRg
  | with_reducible apply g_rg1
  | with_reducible apply g_kRg1
  | with_reducible apply g_bm
  | with_reducible apply gg_sub
  | ((with_reducible apply gg_tup); (focus walk_at "hp"); (focus rfl))
  | with_reducible apply gg_cons
  | with_reducible apply gg_nil
  | with_reducible apply g_forL
  | with_reducible apply g_forT
  | with_reducible apply g_forR1
  | with_reducible apply g_forR2
  | with_reducible apply g_forE
  | with_reducible apply g_forEL
  | ((with_reducible apply g_maxT); (focus walk_at "hp"); (focus walk_at "nn"))
  | ((with_reducible apply g_maxL); (focus walk_at "hp"); (focus walk_at "nn"))
  | ((with_reducible apply g_catA); (focus walk_at "hp"); (focus walk_at "hp"); (focus walk_at "sz"); intro _ _ _ _)
  | ((with_reducible apply g_slA); (focus walk_at "hp"); intro _ _ _ _)
  | ((with_reducible apply g_tupD); (focus walk_at "hp"); intro _ _ _ _ _)
  | ((with_reducible apply g_setL); (focus walk_at "hp"); (focus walk_at "ix"); intro _ _ _)
  | ((with_reducible apply g_append); (focus walk_at "hp"); (focus walk_at "sl"); intro _ _ _)
  | ((with_reducible apply g_aug); (focus rfl))
  | with_reducible apply g_ipI
  | with_reducible apply g_retN
  | with_reducible apply g_lcR1
  | with_reducible apply g_lcR2
  | with_reducible apply g_lcL
  | with_reducible apply g_lcU
  | with_reducible apply g_lcN
  | ((with_reducible apply g_kLcG); (focus rfl))
  | with_reducible apply g_yes
  | with_reducible apply g_kLcTT
  | with_reducible apply g_kLcTF
  | ((with_reducible apply g_kLcE); (focus walk_at "hp"); (focus walk_at "sl"); intro _ _ _)
  | ((with_reducible apply g_pow); (focus (constructor <;> (try constructor) <;> decide)))
  | ((with_reducible apply g_kLRg); (focus walk_at "rg"); intro _ _ _ _ _)
  | ((with_reducible apply g_cat); (focus walk_at "hp"); (focus walk_at "hp"); (focus walk_at "sz"); intro _ _ _ _ _)
  | ((with_reducible apply g_slL); (focus walk_at "hp"); intro _ _ _ _ _)
  | with_reducible apply g_bmT
  | with_reducible apply g_break
  | with_reducible apply g_cont)
local macro_rules | `(tactic| walk_at "g0") => `(tactic| try dsimp only [L2.cxOf, L2.Cx.nox, L2.Cx.wish])
local macro_rules | `(tactic| walk_at "yn") => `(tactic| first
  | ((with_reducible apply y_kIfS); (focus walk_at "tr"))
  | ((with_reducible apply n_kIfS); (focus walk_at "tr"))
  | ((with_reducible apply y_kOr); (focus walk_at "tr"))
  | ((with_reducible apply n_kOr); (focus walk_at "tr"))
  | ((with_reducible apply y_kAnd); (focus walk_at "tr"))
  | ((with_reducible apply n_kAnd); (focus walk_at "tr"))
  | ((with_reducible apply y_kNot); (focus walk_at "tr"))
  | ((with_reducible apply n_kNot); (focus walk_at "tr"))
  | ((with_reducible apply y_kIf); (focus walk_at "tr"))
  | ((with_reducible apply n_kIf); (focus walk_at "tr"))
  | ((with_reducible apply y_kAndV); (focus walk_at "tr"))
  | ((with_reducible apply n_kAndV); (focus walk_at "tr"))
  | ((with_reducible apply y_kOrV); (focus walk_at "tr"))
  | ((with_reducible apply n_kOrV); (focus walk_at "tr"))
  | ((with_reducible apply y_kChain); (focus walk_at "tr"))
  | ((with_reducible apply n_kChain); (focus walk_at "tr"))
  | ((with_reducible apply y_kLcT); (focus walk_at "tr"))
  | ((with_reducible apply n_kLcT); (focus walk_at "tr"))
  | ((with_reducible apply y_kWh); (focus walk_at "tr"))
  | ((with_reducible apply n_kWh); (focus walk_at "tr")))
local macro_rules | `(tactic| walk_at "go") => `(tactic| repeat (first | walk_at "g1" | walk_at "yn"))
local macro_rules | `(tactic| walk_at "hp") => `(tactic| first
  | ((with_reducible apply RingIn.ex); (focus walk_at "as"); walk_at "hp")
  | ((with_reducible apply RingAt.ex); (focus walk_at "as"); walk_at "hp")
  | ((with_reducible apply RingIn.exb); (focus walk_at "as"); (focus walk_at "hp"); walk_at "hp")
  | ((with_reducible apply RingAt.exb); (focus walk_at "as"); (focus walk_at "hp"); walk_at "hp")
  | ((with_reducible apply TupK.ex); (focus walk_at "as"); walk_at "hp")
  | ((with_reducible apply TupK.exb); (focus walk_at "as"); (focus walk_at "hp"); walk_at "hp"))
local macro_rules | `(tactic| walk_at "lk") => `(tactic| first | with_reducible exact rf_spans | with_reducible exact rf_heaps | with_reducible exact rf_total | with_reducible exact rf_nr | with_reducible exact rf_wd)
local macro_rules | `(tactic| walk_at "sp") => `(tactic| first
  | ((with_reducible apply g_isiTup); (focus walk_at "hp"))
  | ((with_reducible apply g_isiLst); (focus walk_at "hp"))
  | ((with_reducible apply g_isint); (focus omega); (focus omega))
  | ((with_reducible apply g_checkn); (focus omega); (focus omega))
  | ((with_reducible apply g_rbooks); (focus walk_at "hp"))
  | ((with_reducible apply g_rpace); (focus walk_at "hp"); intro _ _ _ _)
  | ((with_reducible apply g_rlen); (focus walk_at "hp"))
  | ((with_reducible apply g_rneed); (focus walk_at "hp"); (focus omega))
  | ((with_reducible apply g_rneedM); (focus walk_at "hp"))
  | ((with_reducible apply g_rwithM); (focus walk_at "hp"))
  | ((with_reducible apply g_rspans); (focus walk_at "hp"); (focus with_reducible assumption))
  | ((with_reducible apply g_rheaps); (focus walk_at "hp"); (focus with_reducible assumption))
  | ((with_reducible apply g_rtotal); (focus walk_at "hp"); (focus with_reducible assumption)))

local macro_rules | `(tactic| walk_at "hp") => `(tactic| first
  | ((with_reducible apply CrsIn.ex); (focus walk_at "as"); walk_at "hp")
  | ((with_reducible apply RowsAt.ex); (focus walk_at "as"); walk_at "hp"))
local macro_rules | `(tactic| walk_at "sp") => `(tactic| first
  | ((with_reducible apply g_crows); (focus walk_at "hp"); (focus with_reducible assumption))
  | ((with_reducible apply g_csize); (focus walk_at "hp"); (focus with_reducible assumption))
  | ((with_reducible apply g_cevery); (focus walk_at "hp"); (focus with_reducible assumption))
  | ((with_reducible apply g_cshift); (focus walk_at "hp"); (focus with_reducible assumption))
  | ((with_reducible apply g_cring); (focus walk_at "hp"); (focus with_reducible assumption))
  | ((with_reducible apply g_cfirst); (focus walk_at "hp"); (focus with_reducible assumption))
  | ((with_reducible apply g_clen); (focus walk_at "hp"))
  | ((with_reducible apply g_cmShifted); (focus walk_at "hp"))
  | ((with_reducible apply g_cmSettled); (focus walk_at "hp"))
  | ((with_reducible apply g_cmNext); (focus walk_at "hp"))
  | ((with_reducible apply g_cmEnd); (focus walk_at "hp"))
  | ((with_reducible apply g_cmArrival); (focus walk_at "hp")))

local macro_rules | `(tactic| walk_at "sp") => `(tactic| first
  | ((with_reducible apply g_taken); (focus walk_at "hp"); (focus first | decide | omega); (focus first | decide | omega); intro _ _ _ _ _ _))
local macro_rules | `(tactic| walk_at "hp") => `(tactic| first
  | ((with_reducible apply DiceAt.ex); (focus walk_at "as"); walk_at "hp")
  | ((with_reducible apply exb_tD); (focus walk_at "as"); (focus walk_at "hp"); walk_at "hp")
  | ((with_reducible apply exb_insD); (focus walk_at "as"); (focus walk_at "hp"); walk_at "hp")
  | ((with_reducible apply RingIn.exD); (focus walk_at "as"); (focus walk_at "hp"); walk_at "hp")
  | ((with_reducible apply TupK.exD); (focus walk_at "as"); (focus walk_at "hp"); walk_at "hp"))

local macro_rules | `(tactic| walk_at "hp") => `(tactic| first
  | ((with_reducible apply CrsAt.ex); (focus walk_at "as"); walk_at "hp")
  | ((with_reducible apply CrsAt.into); walk_at "hp"))
local macro_rules | `(tactic| walk_at "g1") => `(tactic| first
  | ((with_reducible apply g_callO); (focus walk_at "hp"))
  | with_reducible apply g_tCallO
  | with_reducible apply g_kCallO)
local macro_rules | `(tactic| walk_at "sp") => `(tactic| first
  | ((with_reducible apply g_rdays); (focus walk_at "hp"))
  | ((with_reducible apply g_rstarts); (focus walk_at "hp"))
  | ((with_reducible apply g_rget); (focus walk_at "hp"); (focus with_reducible assumption); intro _ _ _ _)
  | ((with_reducible apply g_rcall); (focus walk_at "hp"); (focus with_reducible assumption); (focus omega); intro _ _)
  | ((with_reducible apply g_mkCourse); (focus walk_at "hp"); intro _ _ _ _ _ _ _ _ _)
  | ((with_reducible apply g_ncheckn); (focus omega); (focus omega)))

theorem pw_ext : ∀ {a b : List Int}, a.Pairwise (· < ·) → b.Pairwise (· < ·) → (∀ x, x ∈ a ↔ x ∈ b) → a = b
  | [], [], _, _, _ => rfl
  | [], y :: b, _, _, h => absurd ((h y).mpr List.mem_cons_self) (by simp)
  | x :: a, [], _, _, h => absurd ((h x).mp List.mem_cons_self) (by simp)
  | x :: a, y :: b, ha, hb, h => by
    have h1 := List.pairwise_cons.mp ha
    have h2 := List.pairwise_cons.mp hb
    have hxy : x = y := by
      rcases List.mem_cons.mp ((h x).mp List.mem_cons_self) with e | e
      · exact e
      · rcases List.mem_cons.mp ((h y).mpr List.mem_cons_self) with e2 | e2
        · exact e2.symm
        · have := h2.1 x e
          have := h1.1 y e2
          omega
    subst hxy
    rw [pw_ext h1.2 h2.2 fun z => ⟨fun hz => ?_, fun hz => ?_⟩]
    · rcases List.mem_cons.mp ((h z).mp (List.mem_cons_of_mem _ hz)) with e | e
      · have := h1.1 z hz
        omega
      · exact e
    · rcases List.mem_cons.mp ((h z).mpr (List.mem_cons_of_mem _ hz)) with e | e
      · have := h2.1 z hz
        omega
      · exact e
/-- so many different ones -/
def DC (xs : List Int) (n : Nat) : Prop := ∃ ks : List Int, ks.Nodup ∧ ks.length = n ∧ ∀ x, x ∈ ks ↔ x ∈ xs
theorem DC.inj {xs : List Int} {n m : Nat} (a : DC xs n) (b : DC xs m) : n = m := by
  obtain ⟨k1, n1, l1, h1⟩ := a
  obtain ⟨k2, n2, l2, h2⟩ := b
  rw [← l1, ← l2]
  exact ((List.perm_ext_iff_of_nodup n1 n2).mpr fun x => (h1 x).trans (h2 x).symm).length_eq
theorem DC.of {xs ns : List Int} (p : ns.Pairwise (· < ·)) (h : ∀ x, x ∈ ns ↔ x ∈ xs) : DC xs ns.length := ⟨ns, p.imp fun h => by omega, rfl, h⟩
section
variable {P : Program} {w : World} {K : PySem.W.Frag} {mg : Str → Option Value} {base : Heap} {C CC OC : Addr}
theorem ObsAt.kd {H H' : Hp} {o D r a b p : Addr} {ds hs : List Int} {h : Nat} {L : List Int} {cA : Int → Addr} {zs : List V} (ob : ObsAt K C CC OC H o D r a b p ds hs h L cA zs) (e : KD H H') (hD : H' D = some (.dK (kvsD cA L))) : ObsAt K C CC OC H' o D r a b p ds hs h L cA zs :=
  ⟨let ⟨dx, fs, h1, h2⟩ := ob.obj; ⟨dx, fs, e.i h1, h2⟩, hD, fun d hd => (ob.crs d hd).kd e, ob.ring.kd e, e.t ob.seen, ob.nd, ob.len⟩
/-- the days on which a reading can end -/
def endsX (ds hs : List Int) (h : Nat) (k n : Nat) (L : List Int) : List Int := L.map fun d => XR (ds.set h d) hs n k
def sp_ends (K : PySem.W.Frag) (C CC OC : Addr) : Sp := fun vs H Q _ => ∃ (o D r a b p : Addr) (ds hs : List Int) (h : Nat) (L : List Int) (cA : Int → Addr) (zs : List V) (k n : Nat), vs = [.ref o, .int (k : Int), .int (n : Int)] ∧ ObsAt K C CC OC H o D r a b p ds hs h L cA zs ∧ k < ds.length ∧ (n : Int) ≤ 1000000000000000000 ∧
  ∀ (l : Addr) (ns : List Int) (H' : Hp), H l = none → KD H H' → H' D = some (.dK (kvsD cA L)) → H' l = some (.lst (ns.map V.int)) → ns.Pairwise (· < ·) → (∀ x : Int, x ∈ ns ↔ x ∈ endsX ds hs h k n L) → Q (.ref l) H'
theorem ok_ends (Z : Blt mg) (R : RingC K C) (RC : CourseC K CC) (RO : ObsC K OC) (c_MAX_NUMBER : ∃ t, mg "MAX_NUMBER" = some (.int 1000000000000000000 t)) (M_Ring_need_reader : Mf P w K mg base C 2 "need_reader" ["self", "reader"] (sp_Ring_need K C)) (D_check_number : Df P w K mg base 2 "check_number" ["number", "low", "high"] sp_check_number)
    (M_Course_end : Mf P w K mg base CC 1 "end" ["self", "reader", "number"] (sp_Course_end K C CC)) (G : CFun K OC "possible_ends" "DaysObserver.possible_ends" s_DaysObserver_possible_ends) : Mf P w K mg base OC 3 "possible_ends" ["self", "reader", "number"] (sp_ends K C CC OC) := by
  refine Mf.of G sc_DaysObserver_possible_ends b_DaysObserver_possible_ends (fun vs H Q E h => ?_) (fun f cdv A outer s H vs Q E hr h => ?_)
  · obtain ⟨o, D, r, a, b, p, ds, hs, h, L, cA, zs, k, n, rfl, _⟩ := h
    rfl
  · obtain ⟨o, D, r, a, b, p, ds, hs, h, L, cA, zs, k, n, rfl, ob, hk, hn, q⟩ := h
    obtain ⟨dx, fs, ho, of⟩ := ob.obj
    have cl_Ring := R.cl
    have cl_Course := RC.cl
    obtain ⟨cl_DaysObserver, n1, n2, n3⟩ := RO
    have hsa := of.sa
    have hco := of.co
    have lL := ob.len
    refine ⟨_, PSs.nox (pss_cons (ps_expr (pm (pe_fld (pv 0) rfl) cl_Ring M_Ring_need_reader hr (pa_cons (pv 1) pa_nil)))
      (pss_cons (ps_expr (pg D_check_number hr (pa_cons (pv 2) (pa_cons pe_int (pa_cons (pint c_MAX_NUMBER) pa_nil)))))
      (pss_one (ps_ret (pe_callB (cr_sortedSet rfl) (by rfl) Z.zsorted (by decide +kernel) (pa_cons (pe_lock (pe_scI (own := [("course", 3)]) rfl sc_DaysObserver_possible_ends.nd (pi_values (pe_fld (pv 0) rfl)) (blkOk_by (N := N_DaysObserver_possible_ends) (sc := defScope s_DaysObserver_possible_ends) (by decide +kernel)) (fun _ _ _ _ _ => (pg_name (i := 3) sc_DaysObserver_possible_ends.nd rfl (by first | exact Or.inl rfl | exact Or.inr rfl))) (fun _ _ _ _ _ => pts_nil) (fun _ _ _ _ _ => (pm (pv 3) cl_Course M_Course_end hr (pa_cons (pv 1) (pa_cons (pv 2) pa_nil)))))) pa_nil)))))), ?_⟩
    walk_at "g0"
    walk_at "go"
    refine g_rneedM ob.ring ?_
    walk_at "go"
    refine g_rneed ob.ring hk ?_
    walk_at "go"
    refine g_lockE ob.dct trivial fun od => ?_
    have hD0 : (upd H D (.frz od (.dK (kvsD cA L)))) D = some (.frz od (.dK (kvsD cA L))) := upd_same
    have k0 : KD H (upd H D (.frz od (.dK (kvsD cA L)))) := KD.refl.upd (.inr (.inl ⟨_, ob.dct⟩))
    have hb0 : ∀ b, (upd H D (.frz od (.dK (kvsD cA L)))) b = none → H b = none := fun b hb => by
      by_cases z : b = D
      · rw [z, upd_same] at hb
        cases hb
      · rw [upd_ne z] at hb
        exact hb
    generalize hH0 : upd H D (.frz od (.dK (kvsD cA L))) = H0 at hD0 k0 hb0 ⊢
    have ho0 := k0.i ho
    refine g_scD ?_
    walk_at "go"
    refine g_kScD hD0 (fun S2 i H' => KD H0 H' ∧ (∀ b u, H0 b = some u → ∃ u', H' b = some u') ∧ H' D = some (.frz od (.dK (kvsD cA L))) ∧ ∃ (S : Int → Bool) (m : Nat), H' S2 = some (SetO w S2 S m) ∧ m ≤ i ∧ i ≤ L.length ∧ ∀ x, S x = true ↔ x ∈ endsX ds hs h k n (L.take i)) (fun S2 nS2 => ⟨KD.refl.upd (.inl nS2), fun b u hb => by
        by_cases z : b = S2
        · rw [z, upd_same]
          exact ⟨_, rfl⟩
        · rw [upd_ne z]
          exact ⟨u, hb⟩, by rw [upd_ne (ne_of_none hD0 nS2)]; exact hD0, _, _, upd_same, Nat.le_refl _, Nat.zero_le _, fun x => by simp [endsX]⟩) (fun S2 i H' _ hP => hP.2.2.1) ?_ ?_
    · rintro S2 i kk v H2 nS2 hat ⟨kd, al, hDD, S, m, hS, hm, hi, hmem⟩
      obtain ⟨d, hd, hdm, rfl, rfl⟩ := kvsD_at hat
      obtain ⟨r1, a1, b1, Rw, Lc, F, CA, SF⟩ := (ob.crs d hdm).kd (k0.trans kd)
      have hi2 := (List.getElem?_eq_some_iff.mp hd).1
      walk_at "go"
      refine g_kScG rfl ?_
      walk_at "go"
      refine g_kScTt ?_
      walk_at "go"
      refine ⟨cA d, r1, a1, b1, Rw, ds.set h d, hs, Lc, F, k, n, rfl, CA, SF, by rw [List.length_set]; exact hk, fun H4 e4 => ?_⟩
      refine g_kScV (e4 _ _ hS) (by omega) ⟨(kd.trans (KD.of e4)).upd (.inl nS2), fun b u hb => ?_, by rw [upd_ne (ne_of_none hD0 nS2)]; exact e4 _ _ hDD, _, _, upd_same, by split <;> omega, hi2, fun x => ?_⟩
      · obtain ⟨u', hu⟩ := al b u hb
        rw [upd_ne (ne_of_none hb nS2)]
        exact ⟨u', e4 _ _ hu⟩
      · rw [Bool.or_eq_true, hmem x, decide_eq_true_iff]
        unfold endsX
        rw [List.take_add_one, hd, List.map_append, List.mem_append]
        show _ ↔ _ ∨ x ∈ [XR (ds.set h d) hs n k]
        rw [List.mem_singleton]
    · rintro S2 H2 nS2 ⟨kd, al, hDD, S, m, hS, hm, hi, hmem⟩
      rw [kvsD_len] at hm hi hmem
      rw [List.take_length] at hmem
      refine ⟨hDD, ?_⟩
      have nSD : S2 ≠ D := Ne.symm (ne_of_none hD0 nS2)
      have hS5 : (upd H2 D (.dK (kvsD cA L))) S2 = some (SetO w S2 S m) := by
        rw [upd_ne nSD]
        exact hS
      have k5 : KD H (upd H2 D (.dK (kvsD cA L))) := (k0.trans kd).upd (.inr (.inl ⟨_, ob.dct⟩))
      have hD5 : (upd H2 D (.dK (kvsD cA L))) D = some (.dK (kvsD cA L)) := upd_same
      have al5 : ∀ b, (upd H2 D (.dK (kvsD cA L))) b = none → H b = none := fun b hb => by
        by_cases z : b = D
        · rw [z, upd_same] at hb
          cases hb
        · rw [upd_ne z] at hb
          refine hb0 b ?_
          cases e : H0 b with
          | none => rfl
          | some u =>
            obtain ⟨u', hu⟩ := al b u e
            rw [hu] at hb
            cases hb
      generalize upd H2 D (.dK (kvsD cA L)) = H5 at hS5 k5 hD5 al5 ⊢
      walk_at "go"
      refine ⟨S2, S, m, rfl, hS5, by omega, fun ns l hpw hme hle nl => ?_⟩
      walk_at "go"
      refine q l ns _ (al5 l nl) (k5.trans (KD.of (Ex.new nl))) (by rw [upd_ne (ne_of_none hD5 nl)]; exact hD5) upd_same hpw fun x => (hme x).trans (hmem x)
end
end G48

namespace G48
open PySem PySem.Spec PyProof.Rows L2 Evl
abbrev N_DaysObserver_telling_number : List Str := ["self", "reader", "limit", "number"]
theorem sc_DaysObserver_telling_number : FnScope N_DaysObserver_telling_number ["self", "reader", "limit"] (defScope s_DaysObserver_telling_number) := ⟨rfl, rfl, rfl, by decide +kernel, rfl, by decide +kernel, by decide +kernel⟩
theorem b_DaysObserver_telling_number : BindL "DaysObserver.telling_number" "telling_number" s_DaysObserver_telling_number ["self", "reader", "limit"] := fun _ _ _ _ _ _ us hl => match us, hl with | [_, _, _], _ => rfl
abbrev N_DaysObserver_from_log : List Str := ["cls", "ring", "reader", "observations", "observer", "word", "other", "number", "day"]
theorem sc_DaysObserver_from_log : FnScope N_DaysObserver_from_log ["cls", "ring", "reader", "observations"] (defScope s_DaysObserver_from_log) := ⟨rfl, rfl, rfl, by decide +kernel, rfl, by decide +kernel, by decide +kernel⟩
theorem b_DaysObserver_from_log : BindL "DaysObserver.from_log" "from_log" s_DaysObserver_from_log ["cls", "ring", "reader", "observations"] := fun _ _ _ _ _ _ us hl => match us, hl with | [_, _, _, _], _ => rfl
end G48
/-! an observer: the telling number; made of a log -/
namespace G48
open PySem PySem.Spec PyProof.Rows L2 Evl
/-! the steps -/
local macro_rules | `(tactic| walk_at "as") => `(tactic| with_reducible assumption)
local macro_rules | `(tactic| walk_at "hp") => `(tactic| first
  | with_reducible assumption
  | ((with_reducible apply SqT.of); walk_at "as")
  | ((with_reducible apply SqL.of); walk_at "as")
  | ((with_reducible apply ex_at); (focus walk_at "as"); walk_at "hp")
  | ((with_reducible apply ex_t); (focus walk_at "as"); walk_at "hp")
  | ((with_reducible apply ex_l); (focus walk_at "as"); walk_at "hp")
  | ((with_reducible apply exb_ins); (focus walk_at "as"); (focus walk_at "hp"); walk_at "hp")
  | ((with_reducible apply exb_t); (focus walk_at "as"); (focus walk_at "hp"); walk_at "hp")
  | ((with_reducible apply exb_at); (focus walk_at "as"); (focus walk_at "ne"); walk_at "hp")
  | ((with_reducible apply exb_l); (focus walk_at "as"); (focus walk_at "ne"); walk_at "hp"))
local macro_rules | `(tactic| walk_at "ne") => `(tactic| first
  | with_reducible assumption
  | exact Ne.symm (by with_reducible assumption)
  | exact ne_of_none (by with_reducible assumption) (by with_reducible assumption)
  | exact Ne.symm (ne_of_none (by with_reducible assumption) (by with_reducible assumption)))
local macro_rules | `(tactic| walk_at "tr") => `(tactic| first
  | rfl
  | with_reducible assumption
  | exact decide_eq_true (by first | with_reducible assumption | omega)
  | exact decide_eq_false (by first | with_reducible assumption | omega)
  | (rw [Bool.not_eq_true']; exact decide_eq_false (by first | with_reducible assumption | omega))
  | (rw [Bool.not_eq_false']; exact decide_eq_true (by first | with_reducible assumption | omega)))
local macro_rules | `(tactic| walk_at "nn") => `(tactic| first | with_reducible assumption | (exact List.cons_ne_nil _ _))
local macro_rules | `(tactic| walk_at "sz") => `(tactic| first | (exact sz1000 (Nat.le_of_ble_eq_true rfl)) | (refine sz1000 ?_; simp only [List.length_map, List.length_cons, List.length_nil, List.length_append]; omega) | with_reducible assumption)
local macro_rules | `(tactic| walk_at "sl") => `(tactic| first | with_reducible assumption | (refine lt1000 ?_; simp only [List.length_map, List.length_cons, List.length_nil, List.length_append]; omega) | (refine lt1000 ?_; omega))
local macro_rules | `(tactic| walk_at "ix") => `(tactic| first | rfl | with_reducible assumption)
local macro_rules | `(tactic| walk_at "rg") => `(tactic| exact RgOk.of_le (by omega) (by omega) (by omega) (by omega))
local macro_rules | `(tactic| walk_at "sp") => `(tactic| fail "sp")
local macro_rules | `(tactic| walk_at "cl") => `(tactic| with_reducible assumption)
local macro_rules | `(tactic| walk_at "lk") => `(tactic| with_reducible assumption)
local macro_rules | `(tactic| walk_at "it") => `(tactic| first | rfl | with_reducible assumption | exact atI_nat (by with_reducible assumption))
local macro_rules | `(tactic| walk_at "g1") => `(tactic| first
  | (with_reducible apply g_var); (focus rfl)
  | with_reducible apply g_c
  | with_reducible apply g_seq
  | with_reducible apply g_asg
  | with_reducible apply gg_name
  | with_reducible apply g_op
  | with_reducible apply g_cons
  | with_reducible apply g_nil
  | with_reducible apply g_cb
  | with_reducible apply g_fld
  | ((with_reducible apply g_kFld); (focus walk_at "hp"); (focus walk_at "cl"); (focus walk_at "cl"); (focus walk_at "lk"))
  | with_reducible apply g_call
  | walk_at "sp"
  | with_reducible apply g_ret
  | with_reducible apply g_drop
  | with_reducible apply g_test
  | with_reducible apply g_B
  | with_reducible apply g_kTest
  | with_reducible apply g_ifS
  | with_reducible apply g_kIfST
  | with_reducible apply g_kIfSF
  | with_reducible apply g_add
  | with_reducible apply g_sub
  | with_reducible apply g_lt
  | with_reducible apply g_le
  | with_reducible apply g_gt
  | with_reducible apply g_ge
  | with_reducible apply g_eqI
  | with_reducible apply g_neI
  | ((with_reducible apply g_mod); (focus first | decide | omega))
  | ((with_reducible apply g_mul); (focus first | (left; constructor <;> omega) | (right; constructor <;> omega)))
  | ((with_reducible apply g_fdiv); (focus (constructor <;> omega)))
  | ((with_reducible apply g_ixT); (focus walk_at "hp"); (focus walk_at "it"))
  | ((with_reducible apply g_ixL); (focus walk_at "hp"); (focus walk_at "it"))
  | with_reducible apply g_and
  | with_reducible apply g_or
  | with_reducible apply g_not
  | with_reducible apply g_kNotT
  | with_reducible apply g_kNotF
  | with_reducible apply g_if
  | with_reducible apply g_kAndT
  | with_reducible apply g_kAndF
  | with_reducible apply g_kOrT
  | with_reducible apply g_kOrF
  | with_reducible apply g_kIfT
  | with_reducible apply g_kIfF
  | with_reducible apply g_next
  | with_reducible apply g_andV
  | with_reducible apply g_orV
  | with_reducible apply g_notV
  | with_reducible apply g_kNotV
  | with_reducible apply g_kAndVT
  | with_reducible apply g_kAndVF
  | with_reducible apply g_chain
  | with_reducible apply g_kChainT
  | with_reducible apply g_kChainF
  | with_reducible apply g_tup
  | with_reducible apply g_lst
  | ((with_reducible apply g_kT); (focus walk_at "sz"); intro _ _ _ _ _)
  | ((with_reducible apply g_kL); (focus walk_at "sz"); intro _ _ _ _ _)
  | with_reducible apply g_un
  | with_reducible apply g_neg
  | with_reducible apply g_meth
  | ((with_reducible apply g_kMeth); (focus walk_at "hp"); (focus walk_at "lk"))
  | with_reducible apply g_prop
  | ((with_reducible apply g_kProp); (focus walk_at "hp"))
  | with_reducible apply g_make
  | with_reducible apply g_par
  | with_reducible apply g_kPar
  | ((with_reducible apply g_lenLM); (focus walk_at "hp"))
  | ((with_reducible apply g_lenTM); (focus walk_at "hp"))
  | ((with_reducible apply g_lenL); (focus walk_at "hp"))
  | ((with_reducible apply g_lenT); (focus walk_at "hp"))
  | with_reducible apply g_int1
  | with_reducible apply g_max2
  | with_reducible apply g_min2
  | ((with_reducible apply g_listL); (focus walk_at "hp"); intro _ _ _ _ _)
  | ((with_reducible apply g_listT); (focus walk_at "hp"); intro _ _ _ _ _)
  | ((with_reducible apply g_tupL); (focus walk_at "hp"); intro _ _ _ _ _)
  | ((with_reducible apply g_sum); (focus walk_at "hp"))
  | with_reducible apply g_sfld
  | with_reducible apply g_sl
  | with_reducible apply g_nopart
  | with_reducible apply g_part
  | with_reducible apply g_kPart
  | with_reducible apply g_lstRg
  | with_reducible apply g_rg1
  | with_reducible apply g_kRg1
  | with_reducible apply g_bm
  | with_reducible apply gg_sub
  | ((with_reducible apply gg_tup); (focus walk_at "hp"); (focus rfl))
  | with_reducible apply gg_cons
  | with_reducible apply gg_nil
  | with_reducible apply g_forL
  | with_reducible apply g_forT
  | with_reducible apply g_forR1
  | with_reducible apply g_forR2
  | with_reducible apply g_forE
  | with_reducible apply g_forEL
  | ((with_reducible apply g_maxT); (focus walk_at "hp"); (focus walk_at "nn"))
  | ((with_reducible apply g_maxL); (focus walk_at "hp"); (focus walk_at "nn"))
  | ((with_reducible apply g_catA); (focus walk_at "hp"); (focus walk_at "hp"); (focus walk_at "sz"); intro _ _ _ _)
  | ((with_reducible apply g_slA); (focus walk_at "hp"); intro _ _ _ _)
  | ((with_reducible apply g_tupD); (focus walk_at "hp"); intro _ _ _ _ _)
  | ((with_reducible apply g_setL); (focus walk_at "hp"); (focus walk_at "ix"); intro _ _ _)
  | ((with_reducible apply g_append); (focus walk_at "hp"); (focus walk_at "sl"); intro _ _ _)
  | ((with_reducible apply g_aug); (focus rfl))
  | with_reducible apply g_ipI
  | with_reducible apply g_retN
  | with_reducible apply g_lcR1
  | with_reducible apply g_lcR2
  | with_reducible apply g_lcL
  | with_reducible apply g_lcU
  | with_reducible apply g_lcN
  | ((with_reducible apply g_kLcG); (focus rfl))
  | with_reducible apply g_yes
  | with_reducible apply g_kLcTT
  | with_reducible apply g_kLcTF
  | ((with_reducible apply g_kLcE); (focus walk_at "hp"); (focus walk_at "sl"); intro _ _ _)
  | ((with_reducible apply g_pow); (focus (constructor <;> (try constructor) <;> decide)))
  | ((with_reducible apply g_kLRg); (focus walk_at "rg"); intro _ _ _ _ _)
  | ((with_reducible apply g_cat); (focus walk_at "hp"); (focus walk_at "hp"); (focus walk_at "sz"); intro _ _ _ _ _)
  | ((with_reducible apply g_slL); (focus walk_at "hp"); intro _ _ _ _ _)
  | with_reducible apply g_bmT
  | with_reducible apply g_break
  | with_reducible apply g_cont)
local macro_rules | `(tactic| walk_at "g0") => `(tactic| try dsimp only [L2.cxOf, L2.Cx.nox, L2.Cx.wish])
local macro_rules | `(tactic| walk_at "yn") => `(tactic| first
  | ((with_reducible apply y_kIfS); (focus walk_at "tr"))
  | ((with_reducible apply n_kIfS); (focus walk_at "tr"))
  | ((with_reducible apply y_kOr); (focus walk_at "tr"))
  | ((with_reducible apply n_kOr); (focus walk_at "tr"))
  | ((with_reducible apply y_kAnd); (focus walk_at "tr"))
  | ((with_reducible apply n_kAnd); (focus walk_at "tr"))
  | ((with_reducible apply y_kNot); (focus walk_at "tr"))
  | ((with_reducible apply n_kNot); (focus walk_at "tr"))
  | ((with_reducible apply y_kIf); (focus walk_at "tr"))
  | ((with_reducible apply n_kIf); (focus walk_at "tr"))
  | ((with_reducible apply y_kAndV); (focus walk_at "tr"))
  | ((with_reducible apply n_kAndV); (focus walk_at "tr"))
  | ((with_reducible apply y_kOrV); (focus walk_at "tr"))
  | ((with_reducible apply n_kOrV); (focus walk_at "tr"))
  | ((with_reducible apply y_kChain); (focus walk_at "tr"))
  | ((with_reducible apply n_kChain); (focus walk_at "tr"))
  | ((with_reducible apply y_kLcT); (focus walk_at "tr"))
  | ((with_reducible apply n_kLcT); (focus walk_at "tr"))
  | ((with_reducible apply y_kWh); (focus walk_at "tr"))
  | ((with_reducible apply n_kWh); (focus walk_at "tr")))
local macro_rules | `(tactic| walk_at "go") => `(tactic| repeat (first | walk_at "g1" | walk_at "yn"))
local macro_rules | `(tactic| walk_at "hp") => `(tactic| first
  | ((with_reducible apply RingIn.ex); (focus walk_at "as"); walk_at "hp")
  | ((with_reducible apply RingAt.ex); (focus walk_at "as"); walk_at "hp")
  | ((with_reducible apply RingIn.exb); (focus walk_at "as"); (focus walk_at "hp"); walk_at "hp")
  | ((with_reducible apply RingAt.exb); (focus walk_at "as"); (focus walk_at "hp"); walk_at "hp")
  | ((with_reducible apply TupK.ex); (focus walk_at "as"); walk_at "hp")
  | ((with_reducible apply TupK.exb); (focus walk_at "as"); (focus walk_at "hp"); walk_at "hp"))
local macro_rules | `(tactic| walk_at "lk") => `(tactic| first | with_reducible exact rf_spans | with_reducible exact rf_heaps | with_reducible exact rf_total | with_reducible exact rf_nr | with_reducible exact rf_wd)
local macro_rules | `(tactic| walk_at "sp") => `(tactic| first
  | ((with_reducible apply g_isiTup); (focus walk_at "hp"))
  | ((with_reducible apply g_isiLst); (focus walk_at "hp"))
  | ((with_reducible apply g_isint); (focus omega); (focus omega))
  | ((with_reducible apply g_checkn); (focus omega); (focus omega))
  | ((with_reducible apply g_rbooks); (focus walk_at "hp"))
  | ((with_reducible apply g_rpace); (focus walk_at "hp"); intro _ _ _ _)
  | ((with_reducible apply g_rlen); (focus walk_at "hp"))
  | ((with_reducible apply g_rneed); (focus walk_at "hp"); (focus omega))
  | ((with_reducible apply g_rneedM); (focus walk_at "hp"))
  | ((with_reducible apply g_rwithM); (focus walk_at "hp"))
  | ((with_reducible apply g_rspans); (focus walk_at "hp"); (focus with_reducible assumption))
  | ((with_reducible apply g_rheaps); (focus walk_at "hp"); (focus with_reducible assumption))
  | ((with_reducible apply g_rtotal); (focus walk_at "hp"); (focus with_reducible assumption)))

local macro_rules | `(tactic| walk_at "hp") => `(tactic| first
  | ((with_reducible apply CrsIn.ex); (focus walk_at "as"); walk_at "hp")
  | ((with_reducible apply RowsAt.ex); (focus walk_at "as"); walk_at "hp"))
local macro_rules | `(tactic| walk_at "sp") => `(tactic| first
  | ((with_reducible apply g_crows); (focus walk_at "hp"); (focus with_reducible assumption))
  | ((with_reducible apply g_csize); (focus walk_at "hp"); (focus with_reducible assumption))
  | ((with_reducible apply g_cevery); (focus walk_at "hp"); (focus with_reducible assumption))
  | ((with_reducible apply g_cshift); (focus walk_at "hp"); (focus with_reducible assumption))
  | ((with_reducible apply g_cring); (focus walk_at "hp"); (focus with_reducible assumption))
  | ((with_reducible apply g_cfirst); (focus walk_at "hp"); (focus with_reducible assumption))
  | ((with_reducible apply g_clen); (focus walk_at "hp"))
  | ((with_reducible apply g_cmShifted); (focus walk_at "hp"))
  | ((with_reducible apply g_cmSettled); (focus walk_at "hp"))
  | ((with_reducible apply g_cmNext); (focus walk_at "hp"))
  | ((with_reducible apply g_cmEnd); (focus walk_at "hp"))
  | ((with_reducible apply g_cmArrival); (focus walk_at "hp")))

local macro_rules | `(tactic| walk_at "sp") => `(tactic| first
  | ((with_reducible apply g_taken); (focus walk_at "hp"); (focus first | decide | omega); (focus first | decide | omega); intro _ _ _ _ _ _))
local macro_rules | `(tactic| walk_at "hp") => `(tactic| first
  | ((with_reducible apply DiceAt.ex); (focus walk_at "as"); walk_at "hp")
  | ((with_reducible apply exb_tD); (focus walk_at "as"); (focus walk_at "hp"); walk_at "hp")
  | ((with_reducible apply exb_insD); (focus walk_at "as"); (focus walk_at "hp"); walk_at "hp")
  | ((with_reducible apply RingIn.exD); (focus walk_at "as"); (focus walk_at "hp"); walk_at "hp")
  | ((with_reducible apply TupK.exD); (focus walk_at "as"); (focus walk_at "hp"); walk_at "hp"))

local macro_rules | `(tactic| walk_at "hp") => `(tactic| first
  | ((with_reducible apply CrsAt.ex); (focus walk_at "as"); walk_at "hp")
  | ((with_reducible apply CrsAt.into); walk_at "hp"))
local macro_rules | `(tactic| walk_at "g1") => `(tactic| first
  | ((with_reducible apply g_callO); (focus walk_at "hp"))
  | with_reducible apply g_tCallO
  | with_reducible apply g_kCallO)
local macro_rules | `(tactic| walk_at "sp") => `(tactic| first
  | ((with_reducible apply g_rdays); (focus walk_at "hp"))
  | ((with_reducible apply g_rstarts); (focus walk_at "hp"))
  | ((with_reducible apply g_rget); (focus walk_at "hp"); (focus with_reducible assumption); intro _ _ _ _)
  | ((with_reducible apply g_rcall); (focus walk_at "hp"); (focus with_reducible assumption); (focus omega); intro _ _)
  | ((with_reducible apply g_mkCourse); (focus walk_at "hp"); intro _ _ _ _ _ _ _ _ _)
  | ((with_reducible apply g_ncheckn); (focus omega); (focus omega)))

section
variable {P : Program} {w : World} {K : PySem.W.Frag} {mg : Str → Option Value} {base : Heap} {C CC OC : Addr}
/-- so many different days on which a reading can end, as numbers of days are left -/
def Tells (ds hs : List Int) (h k : Nat) (L : List Int) (m : Nat) : Prop := DC (endsX ds hs h k m L) L.length
def TellV (ds hs : List Int) (h k lim : Nat) (L : List Int) (v : V) : Prop := (∃ m : Nat, v = .int (m : Int) ∧ m ≤ lim ∧ Tells ds hs h k L m ∧ ∀ j, j < m → ¬ Tells ds hs h k L j) ∨ (v = .non ∧ ∀ j, j ≤ lim → ¬ Tells ds hs h k L j)
def sp_tell (K : PySem.W.Frag) (C CC OC : Addr) : Sp := fun vs H Q _ => ∃ (o D r a b p : Addr) (ds hs : List Int) (h : Nat) (L : List Int) (cA : Int → Addr) (zs : List V) (k lim : Nat), vs = [.ref o, .int (k : Int), .int (lim : Int)] ∧ ObsAt K C CC OC H o D r a b p ds hs h L cA zs ∧ k < ds.length ∧ lim ≤ 500 ∧
  ∀ (v : V) (H' : Hp), KD H H' → H' D = some (.dK (kvsD cA L)) → TellV ds hs h k lim L v → Q v H'
theorem ok_tell (Z : Blt mg) (R : RingC K C) (RC : CourseC K CC) (RO : ObsC K OC) (c_MAX_ENTRIES : ∃ t, mg "MAX_ENTRIES" = some (.int 500 t)) (M_Ring_need_reader : Mf P w K mg base C 2 "need_reader" ["self", "reader"] (sp_Ring_need K C)) (D_check_number : Df P w K mg base 2 "check_number" ["number", "low", "high"] sp_check_number)
    (M_DaysObserver_possible_ends : Mf P w K mg base OC 3 "possible_ends" ["self", "reader", "number"] (sp_ends K C CC OC)) (G : CFun K OC "telling_number" "DaysObserver.telling_number" s_DaysObserver_telling_number) : Mf P w K mg base OC 4 "telling_number" ["self", "reader", "limit"] (sp_tell K C CC OC) := by
  refine Mf.of G sc_DaysObserver_telling_number b_DaysObserver_telling_number (fun vs H Q E h => ?_) (fun f cdv A outer s H vs Q E hr h => ?_)
  · obtain ⟨o, D, r, a, b, p, ds, hs, h, L, cA, zs, k, lim, rfl, _⟩ := h
    rfl
  · obtain ⟨o, D, r, a, b, p, ds, hs, h, L, cA, zs, k, lim, rfl, ob, hk, hlim, q⟩ := h
    obtain ⟨dx, fs, ho, of⟩ := ob.obj
    have cl_Ring := R.cl
    have cl_Course := RC.cl
    obtain ⟨cl_DaysObserver, n1, n2, n3⟩ := RO
    have hsa := of.sa
    have hco := of.co
    have hm4 := of.m4
    refine ⟨_, PSs.nox (pss_cons (ps_expr (pm (pe_fld (pv 0) rfl) cl_Ring M_Ring_need_reader hr (pa_cons (pv 1) pa_nil)))
      (pss_cons (ps_expr (pg D_check_number hr (pa_cons (pv 2) (pa_cons pe_int (pa_cons (pint c_MAX_ENTRIES) pa_nil)))))
      (pss_cons (ps_for PassesOwn.never rfl (pi_range1 (by rfl) Z.zrange (pa_cons (pe_op op_add (pv 2) pe_int) pa_nil)) (pg_name (i := 3) sc_DaysObserver_telling_number.nd rfl (by first | exact Or.inl rfl | exact Or.inr rfl)) (pss_one (ps_if (pt_cmpR op_eq (pe_callB c_len (by rfl) Z.zlen PySem.boot_len (pa_cons (pm (pv 0) cl_DaysObserver M_DaysObserver_possible_ends hr (pa_cons (pv 1) (pa_cons (pv 3) pa_nil))) pa_nil)) (pe_callB c_lenD (by rfl) Z.zlen PySem.boot_len (pa_cons (pe_fld (pv 0) rfl) pa_nil)) (nomark _)) (pss_one (ps_ret (pv 3))) pss_nil)))
      (pss_one (ps_ret pe_non))))), ?_⟩
    walk_at "g0"
    walk_at "go"
    refine g_rneedM ob.ring ?_
    walk_at "go"
    refine g_rneed ob.ring hk ?_
    walk_at "go"
    refine g_kForR1 ⟨by omega, by omega⟩ (fun i σ H' => ∃ v3, σ = [some (.ref o), some (.int (k : Int)), some (.int (lim : Int)), v3] ∧ KD H H' ∧ H' D = some (.dK (kvsD cA L)) ∧ ∀ j, j < i → ¬ Tells ds hs h k L j) ⟨_, rfl, KD.refl, ob.dct, fun j hj => absurd hj (by omega)⟩ ?_ ?_
    · rintro i σ H2 hi ⟨v3, rfl, kd, hD, hno⟩
      have ob2 := ob.kd kd hD
      have ho2 := kd.i ho
      walk_at "go"
      refine ⟨o, D, r, a, b, p, ds, hs, h, L, cA, zs, k, i, rfl, ob2, hk, by omega, fun l ns H3 nl kd3 hD3 hl hpw hme => ?_⟩
      have ho3 := kd3.i ho2
      walk_at "go"
      refine g_lenD hD3 ?_
      walk_at "go"
      have hdc : DC (endsX ds hs h k i L) ns.length := DC.of hpw hme
      rw [kvsD_len]
      by_cases z : ns.length = L.length
      · rw [decide_eq_true (show (ns.length : Int) = (L.length : Int) by omega)]
        walk_at "go"
        exact q _ H3 (kd.trans kd3) hD3 (.inl ⟨i, rfl, by omega, by rw [z] at hdc; exact hdc, hno⟩)
      · rw [decide_eq_false (show ¬ (ns.length : Int) = (L.length : Int) by omega)]
        walk_at "go"
        refine ⟨_, rfl, kd.trans kd3, hD3, fun j hj => ?_⟩
        by_cases y : j = i
        · rw [y]
          exact fun t => z (hdc.inj t)
        · exact hno j (by omega)
    · rintro σ H2 ⟨v3, rfl, kd, hD, hno⟩
      walk_at "go"
      exact q _ H2 kd hD (.inr ⟨rfl, fun j hj => hno j (by omega)⟩)
/-! ### a log -/
abbrev Sn : Type := Bool × Nat × Nat × Nat
def snW (q : Sn) : Str := if q.1 = true then "see_end" else "see_open"
def SnV (K : PySem.W.Frag) (H : Hp) (z : V) (q : Sn) : Prop := ∃ t, z = .ref t ∧ SqT K H t [.str (snW q), .int (q.2.1 : Int), .int (q.2.2.1 : Int), .int (q.2.2.2 : Int)]
theorem SnV.kd {H H' : Hp} {z : V} {q : Sn} (e : KD H H') (h : SnV K H z q) : SnV K H' z q := let ⟨t, a, b⟩ := h; ⟨t, a, e.t b⟩
def stepL (ds hs : List Int) (h : Nat) (L : List Int) (q : Sn) : List Int := if q.1 = true then endL ds hs h q.2.1 q.2.2.1 q.2.2.2 L else openL ds hs h q.2.1 q.2.2.1 q.2.2.2 L
def foldL (ds hs : List Int) (h : Nat) (sn : List Sn) (L : List Int) : List Int := sn.foldl (stepL ds hs h) L
theorem foldL_succ {ds hs : List Int} {h : Nat} {sn : List Sn} {L : List Int} {i : Nat} {q : Sn} (e : sn[i]? = some q) : foldL ds hs h (sn.take (i + 1)) L = stepL ds hs h (foldL ds hs h (sn.take i) L) q := by
  unfold foldL
  rw [List.take_add_one, e, List.foldl_append]
  rfl
def sp_from (K : PySem.W.Frag) (C CC OC : Addr) : Sp := fun vs H Q _ => ∃ (r a b l : Addr) (ds hs : List Int) (h : Nat) (zs : List V) (sn : List Sn), vs = [.ref OC, .ref r, .int (h : Int), .ref l] ∧ RingIn K C H r a b ds hs ∧ h < ds.length ∧ H l = some (.lst zs) ∧ zs.length = sn.length ∧ sn.length ≤ 30 ∧ (∀ (i : Nat) z q, zs[i]? = some z → sn[i]? = some q → SnV K H z q) ∧
  (∀ q ∈ sn, q.2.1 < ds.length ∧ q.2.2.1 ≤ 1000000 ∧ q.2.2.2 ≤ 1000000000000000) ∧ (∀ i, i ≤ sn.length → foldL ds hs h (sn.take i) days30 ≠ []) ∧
  ∀ o D p cA zs' H', H o = none → KD H H' → ObsAt K C CC OC H' o D r a b p ds hs h (foldL ds hs h sn days30) cA zs' → Q (.ref o) H'
theorem g_mkObs {H : Hp} {Q : VK} {E : XK} {r a b : Addr} {ds hs : List Int} {h : Nat} (RI : RingIn K C H r a b ds hs) (hh : h < ds.length) (q : ∀ o D p cA H', H o = none → Ex H H' → ObsAt K C CC OC H' o D r a b p ds hs h days30 cA [] → Q (.ref o) H') : kMake OC (sp_Obs_init K C CC OC) E Q [.ref r, .int (h : Int)] H := by
  intro x dx nx ndx ne
  have e1 : Ex H (upd (upd H dx (.own x)) x (.ins OC dx [])) := fun c o hc => by
    rw [upd_ne (ne_of_none hc nx), upd_ne (ne_of_none hc ndx)]
    exact hc
  exact ⟨x, r, a, b, dx, ds, hs, h, rfl, upd_same, RI.ex e1, hh, fun D p cA H' e2 ob => ⟨rfl, q x D p cA H' nx (Exb.ex nx e1 e2) ob⟩⟩
theorem ok_from (Z : Blt mg) (R : RingC K C) (RO : ObsC K OC) (I_DaysObserver : If P w K mg base "DaysObserver" OC 7 ["self", "ring", "reader"] (sp_Obs_init K C CC OC)) (M_DaysObserver_see_end : Mf P w K mg base OC 3 "see_end" ["self", "reader", "number", "day"] (sp_seeE K C CC OC)) (M_DaysObserver_see_open : Mf P w K mg base OC 3 "see_open" ["self", "reader", "number", "day"] (sp_seeO K C CC OC))
    (G : SFun K OC "from_log" "DaysObserver.from_log" s_DaysObserver_from_log) : Sf P w K mg base OC 9 "from_log" (sp_from K C CC OC) := by
  refine Sf.ofN G sc_DaysObserver_from_log b_DaysObserver_from_log (fun vs H Q E h => ?_) (fun f cdv A outer s H vs Q E hr h => ?_)
  · obtain ⟨r, a, b, l, ds, hs, h, zs, sn, rfl, _⟩ := h
    rfl
  · obtain ⟨r, a, b, l, ds, hs, h, zs, sn, rfl, RI, hh, hl, hlen, h30, hz, hq, hne, q⟩ := h
    have cl_DaysObserver := RO.cl
    refine ⟨_, PSs.nox (pss_cons (ps_set (i := 4) sc_DaysObserver_from_log.nd rfl (by first | exact Or.inl rfl | exact Or.inr rfl) (pkV I_DaysObserver hr (pv 0) (pa_cons (pv 1) (pa_cons (pv 2) pa_nil))))
      (pss_cons (ps_for PassesOwn.never rfl (pi_list (pv 3)) (pg_tup (by rfl) (pgs_cons (pg_name (i := 5) sc_DaysObserver_from_log.nd rfl (by first | exact Or.inl rfl | exact Or.inr rfl)) (pgs_cons (pg_name (i := 6) sc_DaysObserver_from_log.nd rfl (by first | exact Or.inl rfl | exact Or.inr rfl)) (pgs_cons (pg_name (i := 7) sc_DaysObserver_from_log.nd rfl (by first | exact Or.inl rfl | exact Or.inr rfl)) (pgs_cons (pg_name (i := 8) sc_DaysObserver_from_log.nd rfl (by first | exact Or.inl rfl | exact Or.inr rfl)) pgs_nil))))) (pss_one (ps_if (pt_cmpR op_eq (pv 5) pe_str (nomark _)) (pss_one (ps_expr (pm (pv 4) cl_DaysObserver M_DaysObserver_see_end hr (pa_cons (pv 6) (pa_cons (pv 7) (pa_cons (pv 8) pa_nil)))))) (pss_one (ps_expr (pm (pv 4) cl_DaysObserver M_DaysObserver_see_open hr (pa_cons (pv 6) (pa_cons (pv 7) (pa_cons (pv 8) pa_nil)))))))))
      (pss_one (ps_ret (pv 4))))), ?_⟩
    walk_at "g0"
    walk_at "go"
    refine g_makeV ?_
    walk_at "go"
    refine g_kMakeV ?_
    walk_at "go"
    refine g_mkObs RI hh fun o D p cA H1 no e1 ob => ?_
    walk_at "go"
    refine g_kForL (SqL.of (e1 _ _ hl)) (fun i σ H' => ∃ v5 v6 v7 v8, σ = [some (.ref OC), some (.ref r), some (.int (h : Int)), some (.ref l), some (.ref o), v5, v6, v7, v8] ∧ KD H H' ∧ ∃ D p cA zs', ObsAt K C CC OC H' o D r a b p ds hs h (foldL ds hs h (sn.take i) days30) cA zs' ∧ zs'.length = i)
      ⟨_, _, _, _, rfl, KD.of e1, D, p, cA, [], ob, rfl⟩ (fun i σ H' _ hP => by
        obtain ⟨_, _, _, _, _, kd, _⟩ := hP
        exact SqL.of (kd.l hl)) ?_ ?_
    · rintro i z σ H2 hat ⟨v5, v6, v7, v8, rfl, kd, D2, p2, cA2, zs2, ob2, hz2⟩
      have hi := (List.getElem?_eq_some_iff.mp hat).1
      obtain ⟨qq, hqq⟩ : ∃ qq, sn[i]? = some qq := ⟨sn[i], List.getElem?_eq_getElem (by omega)⟩
      obtain ⟨t, rfl, st⟩ := (hz i z qq hat hqq).kd kd
      obtain ⟨b1, b2, b3⟩ := hq qq (List.mem_of_getElem? hqq)
      have hne2 := hne (i + 1) (by omega)
      have hf := foldL_succ (ds := ds) (hs := hs) (h := h) (L := days30) hqq
      rw [hf] at hne2
      obtain ⟨be, k, n, day⟩ := qq
      obtain ⟨dx2, fs2, ho2, of2⟩ := ob2.obj
      have hm1 := of2.m1
      have hm2 := of2.m2
      walk_at "go"
      cases be with
      | true =>
        have st2 : SqT K H2 t [.str "see_end", .int (k : Int), .int (n : Int), .int (day : Int)] := st
        have hne3 : endL ds hs h k n day (foldL ds hs h (sn.take i) days30) ≠ [] := hne2
        refine ⟨rfl, ?_⟩
        have b2 : n ≤ 1000000 := b2
        have b3 : day ≤ 1000000000000000 := b3
        rw [show decide (V.str (snW (true, k, n, day)) = V.str "see_end") = true from (by show decide (V.str ("see_end" : Str) = V.str ("see_end" : Str)) = true; decide +kernel)]
        walk_at "go"
        refine ⟨o, D2, r, a, b, p2, ds, hs, h, _, cA2, zs2, k, n, day, rfl, ob2, b1, by omega, by omega, .inr ⟨hne3, fun D3 p3 t3 H3 ko ob3 st3 => ?_⟩⟩
        walk_at "go"
        exact ⟨_, _, _, _, rfl, fun b u hb n m => ko b u (fun z => by rw [z, no] at hb; cases hb) (kd b u hb n m) n m, D3, p3, cA2, _, by rw [hf]; exact ob3, by rw [List.length_append, hz2]; rfl⟩
      | false =>
        have st2 : SqT K H2 t [.str "see_open", .int (k : Int), .int (n : Int), .int (day : Int)] := st
        have hne3 : openL ds hs h k n day (foldL ds hs h (sn.take i) days30) ≠ [] := hne2
        refine ⟨rfl, ?_⟩
        have b2 : n ≤ 1000000 := b2
        have b3 : day ≤ 1000000000000000 := b3
        rw [show decide (V.str (snW (false, k, n, day)) = V.str "see_end") = false from (by show decide (V.str ("see_open" : Str) = V.str ("see_end" : Str)) = false; decide +kernel)]
        walk_at "go"
        refine ⟨o, D2, r, a, b, p2, ds, hs, h, _, cA2, zs2, k, n, day, rfl, ob2, b1, by omega, by omega, by omega, .inr ⟨hne3, fun D3 p3 t3 H3 ko ob3 st3 => ?_⟩⟩
        walk_at "go"
        exact ⟨_, _, _, _, rfl, fun b u hb n m => ko b u (fun z => by rw [z, no] at hb; cases hb) (kd b u hb n m) n m, D3, p3, cA2, _, by rw [hf]; exact ob3, by rw [List.length_append, hz2]; rfl⟩
    · rintro σ H2 ⟨v5, v6, v7, v8, rfl, kd, D2, p2, cA2, zs2, ob2, hz2⟩
      rw [hlen, List.take_length] at ob2
      walk_at "go"
      exact q o D2 p2 cA2 zs2 H2 no kd ob2
end
end G48

/-! an end is not later than the days of all readers for each reading -/
namespace G48
open PySem PySem.Spec PyProof.Rows L2 Evl
theorem Sg_mul {f : Nat → Int} {N : Nat} {T : Int} (hT : ∀ r, r < N → Sg f N r N = T) {r : Nat} (hr : r < N) : ∀ q : Nat, Sg f N r (q * N) = (q : Int) * T
  | 0 => by
    rw [Nat.zero_mul]
    show (0 : Int) = ((0 : Nat) : Int) * T
    simp
  | q + 1 => by
    rw [Nat.succ_mul, Sg_per hT hr, Sg_mul hT hr q, Int.natCast_add]
    rw [Int.add_mul]
    simp
theorem XR_sum {ds hs : List Int} (O : RingOk ds hs) {k : Nat} (hk : k < ds.length) (n : Nat) : XR ds hs n k ≤ ((n : Int) + 1) * ds.sum := by
  obtain ⟨j, hj, hX⟩ := X_upper O.rg.toRg n k hk
  have hX : XR ds hs n k ≤ Wv (dF ds) (hF hs) ds.length k j n := hX
  have hd : ∀ r, r < ds.length → 0 ≤ dF ds r := fun r hr => by have := dF_pos O hr; omega
  have hDS : mx ds ≤ ds.sum := le_sum (fun x hx => by have := O.dd x hx; omega) (mx_mem O.days.ne)
  have hN : 0 < ds.length := by have := O.two; omega
  have q1 : (j / ds.length) * ds.length ≤ j := Nat.div_mul_le_self _ _
  have q2 : j < (j / ds.length + 1) * ds.length := by
    rw [Nat.succ_mul]
    have := Nat.div_add_mod j ds.length
    have h2 := Nat.mod_lt j hN
    rw [Nat.mul_comm] at this
    omega
  have hS := Sg_mul (T := ds.sum) O.rg.tS hk (j / ds.length + 1)
  have h1 : Sg (dF ds) ds.length k (j + 1) ≤ Sg (dF ds) ds.length k ((j / ds.length + 1) * ds.length) := Sg_mono hd hk (by omega)
  have hH := Sg_mul (f := fun i => ((hF hs i : Nat) : Int)) O.rg.tB hk (j / ds.length)
  have h2 : Sg (fun i => ((hF hs i : Nat) : Int)) ds.length k ((j / ds.length) * ds.length) ≤ Hs (hF hs) ds.length k j := Sg_mono (fun _ _ => Int.natCast_nonneg _) hk q1
  have h3 : Mx (dF ds) ds.length k j ≤ mx ds := Mx_le O.rg.toRg.dD hk
  have o1 := O.one
  generalize j / ds.length = q at *
  have hB : (q : Int) ≤ (q : Int) * ((hs.sum.toNat : Nat) : Int) := by
    have := Int.mul_le_mul_of_nonneg_left (show (1 : Int) ≤ ((hs.sum.toNat : Nat) : Int) by omega) (show (0 : Int) ≤ (q : Int) by omega)
    omega
  have h4 : ((n : Int) - Hs (hF hs) ds.length k j) * Mx (dF ds) ds.length k j ≤ ((n : Int) - (q : Int)) * ds.sum := by
    refine Int.le_trans (Int.mul_le_mul_of_nonneg_left (show Mx (dF ds) ds.length k j ≤ ds.sum by omega) (by omega)) (Int.mul_le_mul_of_nonneg_right ?_ ?_)
    · omega
    · have := O.days.sum
      omega
  unfold Wv at hX
  have h5 : ((q + 1 : Nat) : Int) * ds.sum + ((n : Int) - (q : Int)) * ds.sum = ((n : Int) + 1) * ds.sum := by
    rw [← Int.add_mul]
    congr 1
    omega
  omega
end G48

/-! what a turn of the law leaves -/
namespace G48
open PySem PySem.Spec PyProof.Rows L2 Evl
open LamX (Tabs ExtN)
def KX (d o sl : Addr) (H H' : Hp) : Prop := ∀ b u, b ≠ d → b ≠ o → b ≠ sl → H b = some u → (∀ kvs, u ≠ .dK kvs) → (∀ od kvs, u ≠ .frz od (.dK kvs)) → (∀ ps, u ≠ .tbl ps) → H' b = some u
section
variable {d o sl : Addr} {H H1 H2 : Hp}
theorem KX.refl : KX d o sl H H := fun _ _ _ _ _ h _ _ _ => h
theorem KX.trans (e : KX d o sl H H1) (f : KX d o sl H1 H2) : KX d o sl H H2 := fun b u h1 h2 h3 hb n m t => f b u h1 h2 h3 (e b u h1 h2 h3 hb n m t) n m t
theorem KX.ex (e : Ex H H1) : KX d o sl H H1 := fun b u _ _ _ hb _ _ _ => e b u hb
theorem KX.exbd (e : Exb d H H1) : KX d o sl H H1 := fun b u h1 _ _ hb _ _ _ => e b u h1 hb
theorem KX.exbs (e : Exb sl H H1) : KX d o sl H H1 := fun b u _ _ h3 hb _ _ _ => e b u h3 hb
theorem KX.exn (e : ExtN H H1) : KX d o sl H H1 := fun b u _ _ _ hb _ _ t => e b u hb t
theorem KX.ko (e : KO o H H1) : KX d o sl H H1 := fun b u _ h2 _ hb n m _ => e b u h2 hb n m
theorem KX.kd (e : KD H H1) : KX d o sl H H1 := fun b u _ _ _ hb n m _ => e b u hb n m
theorem KX.exbl {l : Addr} (e : KX d o sl H H1) (n : H l = none) (f : Exb l H1 H2) : KX d o sl H H2 := fun b u h1 h2 h3 hb n' m t => f b u (ne_of_none hb n) (e b u h1 h2 h3 hb n' m t)
end
section
variable {K : PySem.W.Frag} {C CC OC : Addr} {d o sl dx : Addr} {fs : List (Str × V)} {H H' : Hp} (e : KX d o sl H H') (D : DiceAt K H d) (ho : H o = some (.ins OC dx fs)) (nr : fs.lookup ("ring" : Str) = none) (ns : fs.lookup ("spans" : Str) = none) (hs : H sl = none ∨ ∃ xs, H sl = some (.lst xs))
include e D ho nr ns hs
theorem KX.u {a : Addr} {u : HO} (hu : ∀ xs, u ≠ .lst xs) (hi : ∀ X dy gs, u ≠ .ins X dy gs) (n : ∀ kvs, u ≠ .dK kvs) (m : ∀ od kvs, u ≠ .frz od (.dK kvs)) (t : ∀ ps, u ≠ .tbl ps) (h : H a = some u) : H' a = some u := by
  obtain ⟨ys, hd⟩ := D.lst
  refine e a u (fun z => ?_) (fun z => ?_) (fun z => ?_) h n m t
  · rw [z, hd] at h
    exact hu _ (Option.some.inj h).symm
  · rw [z, ho] at h
    exact hi _ _ _ (Option.some.inj h).symm
  · rcases hs with hs | ⟨xs, hs⟩
    · rw [z, hs] at h
      cases h
    · rw [z, hs] at h
      exact hu _ (Option.some.inj h).symm
theorem KX.t {a : Addr} {xs : List V} (h : SqT K H a xs) : SqT K H' a xs := by
  rcases h with (h | ⟨u, h⟩) | h
  · exact .inl (.inl (KX.u e D ho nr ns hs (by intro _ z; cases z) (by intro _ _ _ z; cases z) (by intro _ z; cases z) (by intro _ _ z; cases z) (by intro _ z; cases z) h))
  · exact .inl (.inr ⟨u, KX.u e D ho nr ns hs (by intro _ z; cases z) (by intro _ _ _ z; cases z) (by intro _ z; cases z) (by intro _ _ z; cases z) (by intro _ z; cases z) h⟩)
  · exact .inr h
theorem KX.i {a X dy : Addr} {gs : List (Str × V)} (n : a ≠ o) (h : H a = some (.ins X dy gs)) : H' a = some (.ins X dy gs) := by
  obtain ⟨ys, hd⟩ := D.lst
  refine e a _ (fun z => ?_) n (fun z => ?_) h (by intro _ z; cases z) (by intro _ _ z; cases z) (by intro _ z; cases z)
  · rw [z, hd] at h
    cases h
  · rcases hs with hs | ⟨xs, hs⟩
    · rw [z, hs] at h
      cases h
    · rw [z, hs] at h
      cases h
theorem RingIn.kx {r a b : Addr} {ds hs' : List Int} (R : RingIn K C H r a b ds hs') : RingIn K C H' r a b ds hs' := by
  obtain ⟨dy, hr⟩ := R.obj
  refine ⟨⟨dy, KX.i e D ho nr ns hs (fun z => ?_) hr⟩, KX.t e D ho nr ns hs R.sp, KX.t e D ho nr ns hs R.hp, R.ok⟩
  rw [z, ho] at hr
  have hf : fs = rf a b hs'.sum := by
    have := Option.some.inj hr
    injection this
  rw [hf, rf_spans] at ns
  cases ns
omit hs in
theorem CrsAt.kx (hs0 : H sl = none) {c r a b Rw : Addr} {ds hs' : List Int} {L F : Nat} (R : CrsAt K C CC H c r a b Rw ds hs' L F) : CrsAt K C CC H' c r a b Rw ds hs' L F := by
  obtain ⟨dy, gs, hc, cf, hl⟩ := R.obj
  obtain ⟨sc, ns', p0, m0, r0, hd, _⟩ := id D
  have nl : ∀ {a : Addr} {xs : List V}, H a = some (.lst xs) → a ≠ d → H' a = some (.lst xs) := fun {a xs} h nd => e a _ nd (fun z => by rw [z, ho] at h; cases h) (fun z => by rw [z, hs0] at h; cases h) h (by intro _ z; cases z) (by intro _ _ z; cases z) (by intro _ z; cases z)
  refine ⟨⟨dy, gs, KX.i e D ho nr ns (.inl hs0) (fun z => ?_) hc, cf, hl⟩, RingIn.kx e D ho nr ns (.inl hs0) R.ring, let ⟨ps, h1, h2, h3⟩ := R.rows; ⟨ps, nl h1 (fun z => ?_), h2, fun i p h => nl (h3 i p h) (fun z => ?_)⟩, R.le⟩
  · rw [z, ho] at hc
    have hf : fs = putF "first" (.int (F : Int)) gs := by
      have := Option.some.inj hc
      injection this
    rw [hf, lookup_putF, if_neg (by decide +kernel), cf.ring] at nr
    cases nr
  · rw [z, hd] at h1
    have q := HO.lst.inj (Option.some.inj h1)
    cases ps with
    | nil => cases q
    | cons x ps => cases ps with
      | nil => cases q
      | cons y ps => cases q
  · have h4 := h3 i p h
    rw [z, hd] at h4
    have q := HO.lst.inj (Option.some.inj h4)
    cases hx : rowX ds hs' i with
    | nil => rw [hx] at q; cases q
    | cons y ys => rw [hx] at q; cases q
end
end G48

/-! a turn's start and what it leaves, bundled -/
namespace G48
open PySem PySem.Spec PyProof.Rows L2 Evl
open LamX (Tabs ExtN)
section
variable {K : PySem.W.Frag} {C CC OC : Addr}
def SnL (K : PySem.W.Frag) (H : Hp) (zs : List V) (sn : List Sn) : Prop := zs.length = sn.length ∧ ∀ (i : Nat) z q, zs[i]? = some z → sn[i]? = some q → SnV K H z q
theorem SnL.imp {H H' : Hp} {zs : List V} {sn : List Sn} (e : ∀ a xs, SqT K H a xs → SqT K H' a xs) (h : SnL K H zs sn) : SnL K H' zs sn := ⟨h.1, fun i z q a b => let ⟨t, c, s⟩ := h.2 i z q a b; ⟨t, c, e _ _ s⟩⟩
theorem SnL.app {H : Hp} {zs : List V} {sn : List Sn} {z : V} {q : Sn} (h : SnL K H zs sn) (hz : SnV K H z q) : SnL K H (zs ++ [z]) (sn ++ [q]) := by
  refine ⟨by rw [List.length_append, List.length_append, h.1]; rfl, fun i y w hy hw => ?_⟩
  by_cases c : i < zs.length
  · rw [List.getElem?_append_left c] at hy
    rw [List.getElem?_append_left (by rw [← h.1]; exact c)] at hw
    exact h.2 i y w hy hw
  · rw [List.getElem?_append_right (by omega)] at hy
    rw [List.getElem?_append_right (by rw [← h.1]; omega), ← h.1] at hw
    have : i - zs.length < 1 := (List.getElem?_eq_some_iff.mp hy).1
    obtain e : i - zs.length = 0 := by omega
    rw [e] at hy hw
    cases hy
    cases hw
    exact hz
theorem g_kIf2 {ta tb : TE} {σ : L2.St} {Q : VK} {c : Bool} {H : Hp} {Rr : V → Hp → Prop} (h1 : c = true → ∀ Q' : VK, (∀ v H', Rr v H' → Q' v H') → ta σ H Q') (h2 : c = false → ∀ Q' : VK, (∀ v H', Rr v H' → Q' v H') → tb σ H Q') (q : ∀ v H', Rr v H' → Q v H') : kIf ta tb σ Q c H := g_kIf (fun h => h1 h Q q) (fun h => h2 h Q q)
theorem foldL_mem {ds hs : List Int} {h : Nat} : ∀ {sn : List Sn} {L : List Int} {d : Int}, d ∈ foldL ds hs h sn L → d ∈ L
  | [], _, _, hd => hd
  | q :: sn, L, d, hd => by
    have h1 : d ∈ stepL ds hs h L q := foldL_mem (sn := sn) hd
    unfold stepL at h1
    split at h1
    · exact (List.mem_filter.mp h1).1
    · exact (List.mem_filter.mp h1).1
theorem days30_mem {d : Int} (h : d ∈ days30) : ∃ j : Nat, j < 30 ∧ d = 1 + (j : Int) := by
  unfold days30 at h
  obtain ⟨j, hj, rfl⟩ := List.mem_map.mp h
  exact ⟨j, List.mem_range.mp hj, rfl⟩
theorem stepL_succ {ds hs : List Int} {h k n day : Nat} {be : Bool} {d : Int} {L : List Int} {i : Nat} (e : L[i]? = some d) : stepL ds hs h (L.take (i + 1)) (be, k, n, day) = stepL ds hs h (L.take i) (be, k, n, day) ++ if (if be = true then XR (ds.set h d) hs n k = (day : Int) else XR (ds.set h d) hs n k > (day : Int)) then [d] else [] := by
  cases be with
  | true => exact endL_succ e
  | false => exact openL_succ e
theorem stepL_len {ds hs : List Int} {h : Nat} {q : Sn} {L : List Int} : (stepL ds hs h L q).length ≤ L.length := by
  unfold stepL
  split
  · exact List.length_filter_le ..
  · exact List.length_filter_le ..
structure LW (K : PySem.W.Frag) (C CC OC : Addr) (H6 H10 : Hp) (d o sl r a b : Addr) (ds hs : List Int) (h : Nat) (cA : Int → Addr) (H : Hp) (L : List Int) (sn : List Sn) (lf : Addr) : Prop where
  k6 : KX d o sl H6 H
  k10 : KX d o sl H10 H
  dice : DiceAt K H d
  tabs : Tabs (lamTs K) H
  obs : ∃ DD pp zs, ObsAt K C CC OC H o DD r a b pp ds hs h L cA zs ∧ SnL K H zs sn
  lf : H lf = some (.lst (L.map V.int)) ∧ lf ≠ d ∧ lf ≠ sl
  seen : ∃ zs, H sl = some (.lst zs) ∧ SnL K H zs sn
  nsd : sl ≠ d
  fold : L = foldL ds hs h sn days30
  ok : ∀ q ∈ sn, q.2.1 < ds.length ∧ q.2.2.1 ≤ 1000000 ∧ q.2.2.2 ≤ 1000000000000000
  ne : ∀ i, i ≤ sn.length → foldL ds hs h (sn.take i) days30 ≠ []
section
variable {H6 H10 H H' : Hp} {d o sl r a b lf : Addr} {ds hs : List Int} {h : Nat} {cA : Int → Addr} {L : List Int} {sn : List Sn}
theorem LW.ex (e : Ex H H') (w : LW K C CC OC H6 H10 d o sl r a b ds hs h cA H L sn lf) : LW K C CC OC H6 H10 d o sl r a b ds hs h cA H' L sn lf := by
  obtain ⟨k6, k10, D, T, ⟨DD, pp, zs, ob, sz⟩, ⟨l1, l2, l3⟩, ⟨zs2, s1, s2⟩, n, f, k, m⟩ := w
  exact ⟨k6.trans (KX.ex e), k10.trans (KX.ex e), D.ex e, T.ext e, ⟨DD, pp, zs, ob.kd (KD.of e) (e _ _ ob.dct), sz.imp fun _ _ => ex_t e⟩, ⟨e _ _ l1, l2, l3⟩, ⟨zs2, e _ _ s1, s2.imp fun _ _ => ex_t e⟩, n, f, k, m⟩
theorem CoAt.exd {c : Addr} (e : Exb d H H') (D : DiceAt K H d) (hc : CoAt K C CC H c ds hs) : CoAt K C CC H' c ds hs := by
  obtain ⟨r, a, b, Rw, Lc, F, CA, SF⟩ := hc
  obtain ⟨sc, ns', p0, m0, r0, hd, _⟩ := id D
  obtain ⟨dy, gs, hc, cf, hl⟩ := CA.obj
  refine ⟨r, a, b, Rw, Lc, F, ⟨⟨dy, gs, exb_ins e hd hc, cf, hl⟩, CA.ring.exb e hd, let ⟨ps, h1, h2, h3⟩ := CA.rows; ⟨ps, e _ _ (fun z => ?_) h1, h2, fun i p h => e _ _ (fun z => ?_) (h3 i p h)⟩, CA.le⟩, SF⟩
  · rw [z, hd] at h1
    have q := HO.lst.inj (Option.some.inj h1)
    cases ps with
    | nil => cases q
    | cons x ps => cases ps with
      | nil => cases q
      | cons y ps => cases q
  · have h4 := h3 i p h
    rw [z, hd] at h4
    have q := HO.lst.inj (Option.some.inj h4)
    cases hx : rowX ds hs i with
    | nil => rw [hx] at q; cases q
    | cons y ys => rw [hx] at q; cases q
theorem LW.exd (e : Exb d H H') (D' : DiceAt K H' d) (w : LW K C CC OC H6 H10 d o sl r a b ds hs h cA H L sn lf) : LW K C CC OC H6 H10 d o sl r a b ds hs h cA H' L sn lf := by
  obtain ⟨k6, k10, D, T, ⟨DD, pp, zs, ob, sz⟩, ⟨l1, l2, l3⟩, ⟨zs2, s1, s2⟩, n, f, k, m⟩ := w
  obtain ⟨ys, hd⟩ := D.lst
  obtain ⟨dx, fs, ho, of⟩ := ob.obj
  exact ⟨k6.trans (KX.exbd e), k10.trans (KX.exbd e), D', tabs_exD e D T, ⟨DD, pp, zs, ⟨⟨dx, fs, exb_ins e hd ho, of⟩, e _ _ (ne_of ob.dct hd (by intro z; cases z)) ob.dct, fun x hx => (ob.crs x hx).exd e D, ob.ring.exb e hd, exb_t e hd ob.seen, ob.nd, ob.len⟩, sz.imp fun _ _ => exb_t e hd⟩, ⟨e _ _ l2 l1, l2, l3⟩, ⟨zs2, e _ _ n s1, s2.imp fun _ _ => exb_t e hd⟩, n, f, k, m⟩
theorem LW.exn (e : ExtN H H') (T' : Tabs (lamTs K) H') (w : LW K C CC OC H6 H10 d o sl r a b ds hs h cA H L sn lf) : LW K C CC OC H6 H10 d o sl r a b ds hs h cA H' L sn lf := by
  obtain ⟨k6, k10, D, T, ⟨DD, pp, zs, ob, sz⟩, ⟨l1, l2, l3⟩, ⟨zs2, s1, s2⟩, n, f, k, m⟩ := w
  obtain ⟨dx, fs, ho, of⟩ := ob.obj
  exact ⟨k6.trans (KX.exn e), k10.trans (KX.exn e), D.exn e, T', ⟨DD, pp, zs, ⟨⟨dx, fs, exn_ins e ho, of⟩, e _ _ ob.dct (fun _ z => by cases z), fun x hx => let ⟨r, a, b, Rw, Lc, F, CA, SF⟩ := ob.crs x hx; ⟨r, a, b, Rw, Lc, F, ⟨let ⟨dy, gs, hc, cf⟩ := CA.obj; ⟨dy, gs, exn_ins e hc, cf⟩, CA.ring.exn e, let ⟨ps, h1, h2, h3⟩ := CA.rows; ⟨ps, exn_lst e h1, h2, fun i p h => exn_lst e (h3 i p h)⟩, CA.le⟩, SF⟩, ob.ring.exn e, exn_t e ob.seen, ob.nd, ob.len⟩, sz.imp fun _ _ => exn_t e⟩, ⟨exn_lst e l1, l2, l3⟩, ⟨zs2, exn_lst e s1, s2.imp fun _ _ => exn_t e⟩, n, f, k, m⟩
end
end
end G48

/-! a turn's facts behind an observation; comparisons of the law k58 -/
namespace G48
open PySem PySem.Spec PyProof.Rows L2 Evl
open LamX (Tabs ExtN)
theorem g_cut3 {t1 t2 t3 t4 : TS} {D : Ends} {σ : L2.St} {H : Hp} (Rr : L2.St → Hp → Prop) (h : ∀ D' : Ends, (∀ σ' H', Rr σ' H' → D'.nx σ' H') → tSeq t1 (tSeq t2 t3) D' σ H) (q : ∀ σ' H', Rr σ' H' → t4 D σ' H') : tSeq t1 (tSeq t2 (tSeq t3 t4)) D σ H := h { D with nx := t4 D } q
section
variable {K : PySem.W.Frag}
theorem g_cutT {M : LamM} {k : Nat} {H : Hp} {σ0 : L2.St} {Q : VK} {fw : Addr} (Rr : V → Hp → Prop) (h : ∀ Q' : VK, (∀ v H', Rr v H' → Q' v H') → ∃ t, LamTo M k H fw t ∧ TRaiseP K (fun E H' Q' => t E σ0 H' Q') H Q') (q : ∀ v H', Rr v H' → Q v H') : ∃ f t, [V.ref fw] = [.ref f] ∧ LamTo M k H f t ∧ TRaiseP K (fun E H' Q' => t E σ0 H' Q') H Q := let ⟨t, a, b⟩ := h Q q; ⟨fw, t, rfl, a, b⟩
theorem g_toldTk {M : LamM} {k : Nat} {ta : TA} {σ0 σ : L2.St} {H : Hp} {Q : VK} {TT : (XK → Hp → VK → Prop) → Hp → VK → Prop} (q : ta σ H fun vs H1 => ∃ f t, vs = [.ref f] ∧ LamTo M k H1 f t ∧ TT (fun E H' Q' => t E σ0 H' Q') H1 Q) : tToldT M k ta σ0 TT σ H Q := q
/-! ### observations as data -/
def snD (q : Sn) : PyData := .tuple [.str (snW q), .int (q.2.1 : Int), .int (q.2.2.1 : Int), .int (q.2.2.2 : Int)]
theorem snD_lay (q : Sn) : (snD q).canLay0 = true := by
  have : PyData.strOk (snW q) = true := by
    unfold snW
    split <;> decide +kernel
  simp [snD, PyData.canLay0, PyData.canLayAll0, this]
theorem snD_depth (q : Sn) : (snD q).depth = 1 := by simp [snD, PyData.depth, PyData.depthAll]
theorem snsD_lay : ∀ ps : List Sn, PyData.canLayAll0 (ps.map snD) = true
  | [] => by simp [PyData.canLayAll0]
  | z :: zs => by simp [PyData.canLayAll0, snD_lay z, snsD_lay zs]
theorem snsD_depth : ∀ ps : List Sn, PyData.depthAll (ps.map snD) ≤ 1
  | [] => by simp [PyData.depthAll]
  | z :: zs => by
    have h1 := snsD_depth zs
    have h2 := snD_depth z
    simp only [List.map_cons, PyData.depthAll]
    omega
theorem snsL_sh (ps : List Sn) : SeqAt.shaped (.list (ps.map snD)) = true := by
  have h1 := snsD_depth ps
  have h2 : PyData.depth (.list (ps.map snD)) ≤ 64 := by
    simp only [PyData.depth]
    omega
  show (PyData.canLay0 (.list (ps.map snD)) && decide (PyData.depth (.list (ps.map snD)) ≤ 64)) = true
  rw [Bool.and_eq_true]
  exact ⟨by simp only [PyData.canLay0]; exact snsD_lay ps, decide_eq_true h2⟩
theorem SnV.dp {H : Hp} {z : V} {q : Sn} (h : SnV K H z q) : Dp K H z (snD q) := by
  obtain ⟨t, rfl, h⟩ := h
  exact .tup h (.cons (.str _) (.cons (.int _) (.cons (.int _) (.cons (.int _) .nil))))
theorem SnL.dp {H : Hp} : ∀ {zs : List V} {sn : List Sn}, SnL K H zs sn → DpAll K H zs (sn.map snD)
  | [], [], _ => .nil
  | [], _ :: _, h => by cases h.1
  | _ :: _, [], h => by cases h.1
  | z :: zs, q :: sn, h => .cons (h.2 0 z q rfl rfl).dp (SnL.dp (zs := zs) (sn := sn) ⟨by have := h.1; simpa using this, fun i y w a b => h.2 (i + 1) y w a b⟩)
theorem g_neSn {H : Hp} {Q : VK} {a b : Addr} {zs ys : List V} {sn : List Sn} (h1 : SqL K H a zs) (s1 : SnL K H zs sn) (h2 : SqL K H b ys) (s2 : SnL K H ys sn) (q : Q (.bl false) H) : rNeD K (.ref a) (.ref b) H Q :=
  g_neD (.lst h1 s1.dp) (.lst h2 s2.dp) (snsL_sh _) (snsL_sh _) (by rw [SeqAt.eqv_refl _ (SeqAt.canLay_of_shaped (snsL_sh sn))]; exact q)
/-! ### the word -/
theorem g_neW {H : Hp} {Q : VK} {a b : Addr} {x : Str} (hx : PyData.strOk x = true) (h1 : SqT K H a [.str x]) (h2 : SqT K H b [.str x]) (q : Q (.bl false) H) : rNeD K (.ref a) (.ref b) H Q := by
  have hs : SeqAt.shaped (.tuple [.str x]) = true := by
    show (PyData.canLay0 (.tuple [.str x]) && decide (PyData.depth (.tuple [.str x]) ≤ 64)) = true
    rw [Bool.and_eq_true]
    exact ⟨by simp [PyData.canLay0, PyData.canLayAll0, hx], decide_eq_true (by simp [PyData.depth, PyData.depthAll])⟩
  exact g_neD (.tup h1 (.cons (.str _) .nil)) (.tup h2 (.cons (.str _) .nil)) hs hs (by rw [SeqAt.eqv_refl _ (SeqAt.canLay_of_shaped hs)]; exact q)
theorem g_neNon {H : Hp} {Q : VK} (q : Q (.bl false) H) : rNeD K .non .non H Q := g_neD .non .non (by decide +kernel) (by decide +kernel) q
theorem g_neX {H : Hp} {Q : VK} {x : V} (h : x = .non ∨ ∃ i, x = .int i) (q : Q (.bl false) H) : rNeD K x x H Q := by
  rcases h with rfl | ⟨i, rfl⟩
  · exact g_neNon q
  · exact g_neD (.int i) (.int i) (by simp [SeqAt.shaped, PyData.canLay0, PyData.depth]) (by simp [SeqAt.shaped, PyData.canLay0, PyData.depth]) (by
      have : PyData.eqv (.int i) (.int i) = true := by simp [PyData.eqv]
      rw [this]
      exact q)
/-! ### set(..), len(..) -/
theorem g_setI {w : World} {H : Hp} {Q : VK} {l : Addr} {ns : List Int} (hl : SqL K H l (ns.map V.int)) (hz : ns.length ≤ 60) (q : ∀ p c H', H p = none → c ≤ ns.length → Ex H H' → H' p = some (SetO w p (fun j => decide (j ∈ ns)) c) → Q (.ref p) H') : rSetL K w [.ref l] H Q := ⟨l, ns, rfl, hl, hz, fun p c hp hc => q p c _ hp hc (Ex.new hp) upd_same⟩
theorem g_lenSI {w : World} {H : Hp} {Q : VK} {a : Addr} {ns : List Int} {n : Nat} (h : H a = some (SetO w a (fun j => decide (j ∈ ns)) n)) (hn : n ≤ 1000) (q : DC ns n → Q (.int (n : Nat)) H) : rLenS w [.ref a] H Q := ⟨a, _, n, rfl, h, hn, fun ks nd hl hm => q ⟨ks, nd, hl, fun x => by rw [hm x, decide_eq_true_iff]⟩⟩
theorem g_sortSI {w : World} {H : Hp} {Q : VK} {a : Addr} {ns : List Int} {n : Nat} (h : H a = some (SetO w a (fun j => decide (j ∈ ns)) n)) (hn : n < 64) (q : ∀ (ks : List Int) (p : Addr) (H' : Hp), ks.Pairwise (· < ·) → (∀ x : Int, x ∈ ks ↔ x ∈ ns) → H p = none → Ex H H' → H' p = some (.lst (ks.map V.int)) → Q (.ref p) H') : rSortedSet w [.ref a] H Q := ⟨a, _, n, rfl, h, hn, fun ks p hp hm _ np => q ks p _ hp (fun x => by rw [hm x, decide_eq_true_iff]) np (Ex.new np) upd_same⟩
end
/-! ### a turn's facts -/
section
variable {K : PySem.W.Frag} {C CC OC : Addr} {H6 H10 H H1 H2 H3 : Hp} {d o sl r a b lf : Addr} {ds hs : List Int} {h : Nat} {cA : Int → Addr} {L : List Int} {sn : List Sn}
theorem DiceAt.kdo {dx : Addr} {fs : List (Str × V)} (e : KO o H H1) (ho : H o = some (.ins OC dx fs)) (D : DiceAt K H d) : DiceAt K H1 d := by
  obtain ⟨sc, ns, p0, m0, r0, hd, hsc, q⟩ := D
  refine ⟨sc, ns, p0, m0, r0, e _ _ (ne_of hd ho (by intro z; cases z)) hd (by intro _ z; cases z) (by intro _ _ z; cases z), ?_, q⟩
  rcases hsc with ⟨u, hu⟩ | hu
  · exact .inl ⟨u, e _ _ (ne_of hu ho (by intro z; cases z)) hu (by intro _ z; cases z) (by intro _ _ z; cases z)⟩
  · exact .inr hu
theorem KD.ko (e : KD H H1) : KO o H H1 := fun b u _ hb n m => e b u hb n m
theorem tabs_ko {T : List (Addr × Str)} {dx : Addr} {fs : List (Str × V)} (e : KO o H H1) (ho : H o = some (.ins OC dx fs)) (t : Tabs T H) : Tabs T H1 := fun p hp => by
  obtain ⟨ps, h1, h2, h3⟩ := t p hp
  refine ⟨ps, e _ _ (ne_of h1 ho (by intro z; cases z)) h1 (by intro _ z; cases z) (by intro _ _ z; cases z), h2, fun pos cv hc => ?_⟩
  obtain ⟨c, e1, e2⟩ := h3 pos cv hc
  exact ⟨c, e1, e _ _ (ne_of e2 ho (by intro z; cases z)) e2 (by intro _ z; cases z) (by intro _ _ z; cases z)⟩
theorem LW.kdo (w : LW K C CC OC H6 H10 d o sl r a b ds hs h cA H L sn lf) (e : KD H H1) (ob : ∃ DD pp zs, ObsAt K C CC OC H o DD r a b pp ds hs h L cA zs ∧ SnL K H zs sn ∧ H1 DD = some (.dK (kvsD cA L))) : LW K C CC OC H6 H10 d o sl r a b ds hs h cA H1 L sn lf := by
  obtain ⟨DD, pp, zs, ob, sz, hD⟩ := ob
  obtain ⟨dx, fs, ho, of⟩ := ob.obj
  obtain ⟨l1, l2, l3⟩ := w.lf
  obtain ⟨zs2, s1, s2⟩ := w.seen
  exact ⟨w.k6.trans (KX.kd e), w.k10.trans (KX.kd e), w.dice.kdo (o := o) e.ko ho, tabs_ko (o := o) e.ko ho w.tabs, ⟨DD, pp, zs, ob.kd e hD, sz.imp fun _ _ => e.t⟩, ⟨e.l l1, l2, l3⟩, ⟨zs2, e.l s1, s2.imp fun _ _ => e.t⟩, w.nsd, w.fold, w.ok, w.ne⟩
theorem endsX_succ {k n : Nat} {x : Int} {i : Nat} (e : L[i]? = some x) : endsX ds hs h k n (L.take (i + 1)) = endsX ds hs h k n (L.take i) ++ [XR (ds.set h x) hs n k] := by
  unfold endsX
  rw [List.take_add_one, e, List.map_append]
  rfl
theorem endsX_len {k n : Nat} : (endsX ds hs h k n L).length = L.length := List.length_map ..
theorem foldL_app {q : Sn} {L0 : List Int} : foldL ds hs h (sn ++ [q]) L0 = stepL ds hs h (foldL ds hs h sn L0) q := by
  unfold foldL
  rw [List.foldl_append]
  rfl
theorem LW.acc {DD6 p6 D' p' t gl : Addr} {zs6 zs1 zs2 : List V} {q : Sn} (ob6 : ObsAt K C CC OC H6 o DD6 r a b p6 ds hs h days30 cA zs6) (D6 : DiceAt K H6 d) (n6 : H6 sl = none) (w : LW K C CC OC H6 H10 d o sl r a b ds hs h cA H L sn lf) (e1 : KO o H H1)
    (ob : ObsAt K C CC OC H1 o D' r a b p' ds hs h (stepL ds hs h L q) cA (zs1 ++ [.ref t])) (s1 : SnL K H zs1 sn) (st : SnV K H1 (.ref t) q) (e2 : Ex H1 H2) (e3 : Exb sl H2 H3) {z : V} (hz : SnV K H2 z q) (hsl : H sl = some (.lst zs2)) (s2 : SnL K H zs2 sn) (hsl3 : H3 sl = some (.lst (zs2 ++ [z])))
    (hg : H2 gl = some (.lst ((stepL ds hs h L q).map V.int))) (ngd : gl ≠ d) (ngs : gl ≠ sl) (okq : q.2.1 < ds.length ∧ q.2.2.1 ≤ 1000000 ∧ q.2.2.2 ≤ 1000000000000000) (hne : stepL ds hs h L q ≠ []) : LW K C CC OC H6 H10 d o sl r a b ds hs h cA H3 (stepL ds hs h L q) (sn ++ [q]) gl := by
  obtain ⟨DD0, pp0, zs0, ob0, _⟩ := w.obs
  obtain ⟨dx0, fs0, ho0, of0⟩ := ob0.obj
  obtain ⟨dx6, fs6, ho6, of6⟩ := ob6.obj
  obtain ⟨dx, fs, ho, of⟩ := ob.obj
  have kt : ∀ {a : Addr} {xs : List V}, SqT K H a xs → SqT K H1 a xs := fun hh => KO.t e1 ho0 of0.m8 of0.m9 hh
  have hsl1 : H1 sl = some (.lst zs2) := KO.l e1 ho0 of0.m8 of0.m9 hsl
  have hsl2 := e2 _ _ hsl1
  have t3 : ∀ {a : Addr} {xs : List V}, SqT K H1 a xs → SqT K H3 a xs := fun hh => exb_t e3 hsl2 (ex_t e2 hh)
  have k6 : KX d o sl H6 H3 := ((w.k6.trans (KX.ko e1)).trans (KX.ex e2)).trans (KX.exbs e3)
  have k10 : KX d o sl H10 H3 := ((w.k10.trans (KX.ko e1)).trans (KX.ex e2)).trans (KX.exbs e3)
  have D1 : DiceAt K H1 d := w.dice.kdo e1 ho0
  have D3 : DiceAt K H3 d := (D1.ex e2).exb e3 (Ne.symm w.nsd) hsl2
  have T3 : Tabs (lamTs K) H3 := tabs_exb e3 hsl2 ((tabs_ko e1 ho0 w.tabs).ext e2)
  have hmem : ∀ x ∈ stepL ds hs h L q, x ∈ days30 := fun x hx => by
    have hx2 : x ∈ foldL ds hs h (sn ++ [q]) days30 := by
      rw [foldL_app, ← w.fold]
      exact hx
    exact foldL_mem hx2
  refine ⟨k6, k10, D3, T3, ⟨D', p', zs1 ++ [.ref t], ⟨⟨dx, fs, exb_ins e3 hsl2 (e2 _ _ ho), of⟩, e3 _ _ (ne_of (e2 _ _ ob.dct) hsl2 (by intro z; cases z)) (e2 _ _ ob.dct), fun x hx => ?_, (ob.ring.ex e2).exb e3 hsl2, t3 ob.seen, ob.nd, ob.len⟩, ?_⟩, ⟨e3 _ _ ngs hg, ngd, ngs⟩, ⟨zs2 ++ [z], hsl3, ?_⟩, w.nsd, ?_, ?_, ?_⟩
  · obtain ⟨r1, a1, b1, Rw, Lc, F, CA, SF⟩ := ob6.crs x (hmem x hx)
    exact ⟨r1, a1, b1, Rw, Lc, F, CrsAt.kx k6 D6 ho6 of6.m8 of6.m9 n6 CA, SF⟩
  · exact (s1.imp fun _ _ hh => t3 (kt hh)).app (let ⟨u, hu, hs⟩ := st; ⟨u, hu, t3 hs⟩)
  · exact (s2.imp fun _ _ hh => t3 (kt hh)).app (let ⟨u, hu, hs⟩ := hz; ⟨u, hu, exb_t e3 hsl2 hs⟩)
  · rw [foldL_app, ← w.fold]
  · intro y hy
    rcases List.mem_append.mp hy with hy | hy
    · exact w.ok y hy
    · obtain rfl := List.mem_singleton.mp hy
      exact okq
  · intro i hi
    by_cases z : i ≤ sn.length
    · rw [List.take_append_of_le_length z]
      exact w.ne i z
    · rw [List.length_append] at hi
      have : i = (sn ++ [q]).length := by
        rw [List.length_append]
        have : [q].length = 1 := rfl
        omega
      rw [this, List.take_length, foldL_app, ← w.fold]
      exact hne
end
end G48

namespace G48
open PySem PySem.Spec PyProof.Rows L2 Evl
abbrev N_law : List Str := ["_law_script", "_law_row", "_law_parts_here", "_law_ring", "_law_hidden", "_law_observer", "_law_left", "_law_seen", "_law_rings", "_law_true", "_law_turn", "_law_k", "_law_number", "_law_end", "_law_is_end", "_law_day", "_law_good", "_law_days", "_law_due", "_law_work", "_law_word", "_law_ends", "_law_telling", "_law_j"]
theorem sc_law : FnScope N_law ["_law_script"] (defScope s_law) := ⟨rfl, rfl, rfl, by decide +kernel, rfl, by decide +kernel, by decide +kernel⟩
theorem b_law : BindL "law" "law" s_law ["_law_script"] := fun _ _ _ _ _ _ us hl => match us, hl with | [_], _ => rfl
end G48
/-! the law k58 -/
namespace G48
open PySem PySem.Spec PyProof.Rows L2 Evl
open LamX (Tabs ExtN)
/-! the steps -/
local macro_rules | `(tactic| walk_at "as") => `(tactic| with_reducible assumption)
local macro_rules | `(tactic| walk_at "hp") => `(tactic| first
  | with_reducible assumption
  | ((with_reducible apply SqT.of); walk_at "as")
  | ((with_reducible apply SqL.of); walk_at "as")
  | ((with_reducible apply ex_at); (focus walk_at "as"); walk_at "hp")
  | ((with_reducible apply ex_t); (focus walk_at "as"); walk_at "hp")
  | ((with_reducible apply ex_l); (focus walk_at "as"); walk_at "hp")
  | ((with_reducible apply exb_ins); (focus walk_at "as"); (focus walk_at "hp"); walk_at "hp")
  | ((with_reducible apply exb_t); (focus walk_at "as"); (focus walk_at "hp"); walk_at "hp")
  | ((with_reducible apply exb_at); (focus walk_at "as"); (focus walk_at "ne"); walk_at "hp")
  | ((with_reducible apply exb_l); (focus walk_at "as"); (focus walk_at "ne"); walk_at "hp"))
local macro_rules | `(tactic| walk_at "ne") => `(tactic| first
  | with_reducible assumption
  | exact Ne.symm (by with_reducible assumption)
  | exact ne_of_none (by with_reducible assumption) (by with_reducible assumption)
  | exact Ne.symm (ne_of_none (by with_reducible assumption) (by with_reducible assumption)))
local macro_rules | `(tactic| walk_at "tr") => `(tactic| first
  | rfl
  | with_reducible assumption
  | exact decide_eq_true (by first | with_reducible assumption | omega)
  | exact decide_eq_false (by first | with_reducible assumption | omega)
  | (rw [Bool.not_eq_true']; exact decide_eq_false (by first | with_reducible assumption | omega))
  | (rw [Bool.not_eq_false']; exact decide_eq_true (by first | with_reducible assumption | omega)))
local macro_rules | `(tactic| walk_at "nn") => `(tactic| first | with_reducible assumption | (exact List.cons_ne_nil _ _))
local macro_rules | `(tactic| walk_at "sz") => `(tactic| first | (exact sz1000 (Nat.le_of_ble_eq_true rfl)) | (refine sz1000 ?_; simp only [List.length_map, List.length_cons, List.length_nil, List.length_append]; omega) | with_reducible assumption)
local macro_rules | `(tactic| walk_at "sl") => `(tactic| first | with_reducible assumption | (refine lt1000 ?_; simp only [List.length_map, List.length_cons, List.length_nil, List.length_append]; omega) | (refine lt1000 ?_; omega))
local macro_rules | `(tactic| walk_at "ix") => `(tactic| first | rfl | with_reducible assumption)
local macro_rules | `(tactic| walk_at "rg") => `(tactic| exact RgOk.of_le (by omega) (by omega) (by omega) (by omega))
local macro_rules | `(tactic| walk_at "sp") => `(tactic| fail "sp")
local macro_rules | `(tactic| walk_at "cl") => `(tactic| with_reducible assumption)
local macro_rules | `(tactic| walk_at "lk") => `(tactic| with_reducible assumption)
local macro_rules | `(tactic| walk_at "it") => `(tactic| first | rfl | with_reducible assumption | exact atI_nat (by with_reducible assumption))
local macro_rules | `(tactic| walk_at "g1") => `(tactic| first
  | (with_reducible apply g_var); (focus rfl)
  | with_reducible apply g_c
  | with_reducible apply g_seq
  | with_reducible apply g_asg
  | with_reducible apply gg_name
  | with_reducible apply g_op
  | with_reducible apply g_cons
  | with_reducible apply g_nil
  | with_reducible apply g_cb
  | with_reducible apply g_fld
  | ((with_reducible apply g_kFld); (focus walk_at "hp"); (focus walk_at "cl"); (focus walk_at "cl"); (focus walk_at "lk"))
  | with_reducible apply g_call
  | walk_at "sp"
  | with_reducible apply g_ret
  | with_reducible apply g_drop
  | with_reducible apply g_test
  | with_reducible apply g_B
  | with_reducible apply g_kTest
  | with_reducible apply g_ifS
  | with_reducible apply g_kIfST
  | with_reducible apply g_kIfSF
  | with_reducible apply g_add
  | with_reducible apply g_sub
  | with_reducible apply g_lt
  | with_reducible apply g_le
  | with_reducible apply g_gt
  | with_reducible apply g_ge
  | with_reducible apply g_eqI
  | with_reducible apply g_neI
  | ((with_reducible apply g_mod); (focus first | decide | omega))
  | ((with_reducible apply g_mul); (focus first | (left; constructor <;> omega) | (right; constructor <;> omega)))
  | ((with_reducible apply g_fdiv); (focus (constructor <;> omega)))
  | ((with_reducible apply g_ixT); (focus walk_at "hp"); (focus walk_at "it"))
  | ((with_reducible apply g_ixL); (focus walk_at "hp"); (focus walk_at "it"))
  | with_reducible apply g_and
  | with_reducible apply g_or
  | with_reducible apply g_not
  | with_reducible apply g_kNotT
  | with_reducible apply g_kNotF
  | with_reducible apply g_if
  | with_reducible apply g_kAndT
  | with_reducible apply g_kAndF
  | with_reducible apply g_kOrT
  | with_reducible apply g_kOrF
  | with_reducible apply g_kIfT
  | with_reducible apply g_kIfF
  | with_reducible apply g_next
  | with_reducible apply g_andV
  | with_reducible apply g_orV
  | with_reducible apply g_notV
  | with_reducible apply g_kNotV
  | with_reducible apply g_kAndVT
  | with_reducible apply g_kAndVF
  | with_reducible apply g_chain
  | with_reducible apply g_kChainT
  | with_reducible apply g_kChainF
  | with_reducible apply g_tup
  | with_reducible apply g_lst
  | ((with_reducible apply g_kT); (focus walk_at "sz"); intro _ _ _ _ _)
  | ((with_reducible apply g_kL); (focus walk_at "sz"); intro _ _ _ _ _)
  | with_reducible apply g_un
  | with_reducible apply g_neg
  | with_reducible apply g_meth
  | ((with_reducible apply g_kMeth); (focus walk_at "hp"); (focus walk_at "lk"))
  | with_reducible apply g_prop
  | ((with_reducible apply g_kProp); (focus walk_at "hp"))
  | with_reducible apply g_make
  | with_reducible apply g_par
  | with_reducible apply g_kPar
  | ((with_reducible apply g_lenLM); (focus walk_at "hp"))
  | ((with_reducible apply g_lenTM); (focus walk_at "hp"))
  | ((with_reducible apply g_lenL); (focus walk_at "hp"))
  | ((with_reducible apply g_lenT); (focus walk_at "hp"))
  | with_reducible apply g_int1
  | with_reducible apply g_max2
  | with_reducible apply g_min2
  | ((with_reducible apply g_listL); (focus walk_at "hp"); intro _ _ _ _ _)
  | ((with_reducible apply g_listT); (focus walk_at "hp"); intro _ _ _ _ _)
  | ((with_reducible apply g_tupL); (focus walk_at "hp"); intro _ _ _ _ _)
  | ((with_reducible apply g_sum); (focus walk_at "hp"))
  | with_reducible apply g_sfld
  | with_reducible apply g_sl
  | with_reducible apply g_nopart
  | with_reducible apply g_part
  | with_reducible apply g_kPart
  | with_reducible apply g_lstRg
  | with_reducible apply g_rg1
  | with_reducible apply g_kRg1
  | with_reducible apply g_bm
  | with_reducible apply gg_sub
  | ((with_reducible apply gg_tup); (focus walk_at "hp"); (focus rfl))
  | with_reducible apply gg_cons
  | with_reducible apply gg_nil
  | with_reducible apply g_forL
  | with_reducible apply g_forT
  | with_reducible apply g_forR1
  | with_reducible apply g_forR2
  | with_reducible apply g_forE
  | with_reducible apply g_forEL
  | ((with_reducible apply g_maxT); (focus walk_at "hp"); (focus walk_at "nn"))
  | ((with_reducible apply g_maxL); (focus walk_at "hp"); (focus walk_at "nn"))
  | ((with_reducible apply g_catA); (focus walk_at "hp"); (focus walk_at "hp"); (focus walk_at "sz"); intro _ _ _ _)
  | ((with_reducible apply g_slA); (focus walk_at "hp"); intro _ _ _ _)
  | ((with_reducible apply g_tupD); (focus walk_at "hp"); intro _ _ _ _ _)
  | ((with_reducible apply g_setL); (focus walk_at "hp"); (focus walk_at "ix"); intro _ _ _)
  | ((with_reducible apply g_append); (focus walk_at "hp"); (focus walk_at "sl"); intro _ _ _)
  | ((with_reducible apply g_aug); (focus rfl))
  | with_reducible apply g_ipI
  | with_reducible apply g_retN
  | with_reducible apply g_lcR1
  | with_reducible apply g_lcR2
  | with_reducible apply g_lcL
  | with_reducible apply g_lcU
  | with_reducible apply g_lcN
  | ((with_reducible apply g_kLcG); (focus rfl))
  | with_reducible apply g_yes
  | with_reducible apply g_kLcTT
  | with_reducible apply g_kLcTF
  | ((with_reducible apply g_kLcE); (focus walk_at "hp"); (focus walk_at "sl"); intro _ _ _)
  | ((with_reducible apply g_pow); (focus (constructor <;> (try constructor) <;> decide)))
  | ((with_reducible apply g_kLRg); (focus walk_at "rg"); intro _ _ _ _ _)
  | ((with_reducible apply g_cat); (focus walk_at "hp"); (focus walk_at "hp"); (focus walk_at "sz"); intro _ _ _ _ _)
  | ((with_reducible apply g_slL); (focus walk_at "hp"); intro _ _ _ _ _)
  | with_reducible apply g_bmT
  | with_reducible apply g_break
  | with_reducible apply g_cont)
local macro_rules | `(tactic| walk_at "g0") => `(tactic| try dsimp only [L2.cxOf, L2.Cx.nox, L2.Cx.wish])
local macro_rules | `(tactic| walk_at "yn") => `(tactic| first
  | ((with_reducible apply y_kIfS); (focus walk_at "tr"))
  | ((with_reducible apply n_kIfS); (focus walk_at "tr"))
  | ((with_reducible apply y_kOr); (focus walk_at "tr"))
  | ((with_reducible apply n_kOr); (focus walk_at "tr"))
  | ((with_reducible apply y_kAnd); (focus walk_at "tr"))
  | ((with_reducible apply n_kAnd); (focus walk_at "tr"))
  | ((with_reducible apply y_kNot); (focus walk_at "tr"))
  | ((with_reducible apply n_kNot); (focus walk_at "tr"))
  | ((with_reducible apply y_kIf); (focus walk_at "tr"))
  | ((with_reducible apply n_kIf); (focus walk_at "tr"))
  | ((with_reducible apply y_kAndV); (focus walk_at "tr"))
  | ((with_reducible apply n_kAndV); (focus walk_at "tr"))
  | ((with_reducible apply y_kOrV); (focus walk_at "tr"))
  | ((with_reducible apply n_kOrV); (focus walk_at "tr"))
  | ((with_reducible apply y_kChain); (focus walk_at "tr"))
  | ((with_reducible apply n_kChain); (focus walk_at "tr"))
  | ((with_reducible apply y_kLcT); (focus walk_at "tr"))
  | ((with_reducible apply n_kLcT); (focus walk_at "tr"))
  | ((with_reducible apply y_kWh); (focus walk_at "tr"))
  | ((with_reducible apply n_kWh); (focus walk_at "tr")))
local macro_rules | `(tactic| walk_at "go") => `(tactic| repeat (first | walk_at "g1" | walk_at "yn"))
local macro_rules | `(tactic| walk_at "hp") => `(tactic| first
  | ((with_reducible apply RingIn.ex); (focus walk_at "as"); walk_at "hp")
  | ((with_reducible apply RingAt.ex); (focus walk_at "as"); walk_at "hp")
  | ((with_reducible apply RingIn.exb); (focus walk_at "as"); (focus walk_at "hp"); walk_at "hp")
  | ((with_reducible apply RingAt.exb); (focus walk_at "as"); (focus walk_at "hp"); walk_at "hp")
  | ((with_reducible apply TupK.ex); (focus walk_at "as"); walk_at "hp")
  | ((with_reducible apply TupK.exb); (focus walk_at "as"); (focus walk_at "hp"); walk_at "hp"))
local macro_rules | `(tactic| walk_at "lk") => `(tactic| first | with_reducible exact rf_spans | with_reducible exact rf_heaps | with_reducible exact rf_total | with_reducible exact rf_nr | with_reducible exact rf_wd)
local macro_rules | `(tactic| walk_at "sp") => `(tactic| first
  | ((with_reducible apply g_isiTup); (focus walk_at "hp"))
  | ((with_reducible apply g_isiLst); (focus walk_at "hp"))
  | ((with_reducible apply g_isint); (focus omega); (focus omega))
  | ((with_reducible apply g_checkn); (focus omega); (focus omega))
  | ((with_reducible apply g_rbooks); (focus walk_at "hp"))
  | ((with_reducible apply g_rpace); (focus walk_at "hp"); intro _ _ _ _)
  | ((with_reducible apply g_rlen); (focus walk_at "hp"))
  | ((with_reducible apply g_rneed); (focus walk_at "hp"); (focus omega))
  | ((with_reducible apply g_rneedM); (focus walk_at "hp"))
  | ((with_reducible apply g_rwithM); (focus walk_at "hp"))
  | ((with_reducible apply g_rspans); (focus walk_at "hp"); (focus with_reducible assumption))
  | ((with_reducible apply g_rheaps); (focus walk_at "hp"); (focus with_reducible assumption))
  | ((with_reducible apply g_rtotal); (focus walk_at "hp"); (focus with_reducible assumption)))

local macro_rules | `(tactic| walk_at "hp") => `(tactic| first
  | ((with_reducible apply CrsIn.ex); (focus walk_at "as"); walk_at "hp")
  | ((with_reducible apply RowsAt.ex); (focus walk_at "as"); walk_at "hp"))
local macro_rules | `(tactic| walk_at "sp") => `(tactic| first
  | ((with_reducible apply g_crows); (focus walk_at "hp"); (focus with_reducible assumption))
  | ((with_reducible apply g_csize); (focus walk_at "hp"); (focus with_reducible assumption))
  | ((with_reducible apply g_cevery); (focus walk_at "hp"); (focus with_reducible assumption))
  | ((with_reducible apply g_cshift); (focus walk_at "hp"); (focus with_reducible assumption))
  | ((with_reducible apply g_cring); (focus walk_at "hp"); (focus with_reducible assumption))
  | ((with_reducible apply g_cfirst); (focus walk_at "hp"); (focus with_reducible assumption))
  | ((with_reducible apply g_clen); (focus walk_at "hp"))
  | ((with_reducible apply g_cmShifted); (focus walk_at "hp"))
  | ((with_reducible apply g_cmSettled); (focus walk_at "hp"))
  | ((with_reducible apply g_cmNext); (focus walk_at "hp"))
  | ((with_reducible apply g_cmEnd); (focus walk_at "hp"))
  | ((with_reducible apply g_cmArrival); (focus walk_at "hp")))

local macro_rules | `(tactic| walk_at "sp") => `(tactic| first
  | ((with_reducible apply g_taken); (focus walk_at "hp"); (focus first | decide | omega); (focus first | decide | omega); intro _ _ _ _ _ _))
local macro_rules | `(tactic| walk_at "hp") => `(tactic| first
  | ((with_reducible apply DiceAt.ex); (focus walk_at "as"); walk_at "hp")
  | ((with_reducible apply exb_tD); (focus walk_at "as"); (focus walk_at "hp"); walk_at "hp")
  | ((with_reducible apply exb_insD); (focus walk_at "as"); (focus walk_at "hp"); walk_at "hp")
  | ((with_reducible apply RingIn.exD); (focus walk_at "as"); (focus walk_at "hp"); walk_at "hp")
  | ((with_reducible apply TupK.exD); (focus walk_at "as"); (focus walk_at "hp"); walk_at "hp"))

local macro_rules | `(tactic| walk_at "hp") => `(tactic| first
  | ((with_reducible apply CrsAt.ex); (focus walk_at "as"); walk_at "hp")
  | ((with_reducible apply CrsAt.into); walk_at "hp"))
local macro_rules | `(tactic| walk_at "g1") => `(tactic| first
  | ((with_reducible apply g_callO); (focus walk_at "hp"))
  | with_reducible apply g_tCallO
  | with_reducible apply g_kCallO)
local macro_rules | `(tactic| walk_at "sp") => `(tactic| first
  | ((with_reducible apply g_rdays); (focus walk_at "hp"))
  | ((with_reducible apply g_rstarts); (focus walk_at "hp"))
  | ((with_reducible apply g_rget); (focus walk_at "hp"); (focus with_reducible assumption); intro _ _ _ _)
  | ((with_reducible apply g_rcall); (focus walk_at "hp"); (focus with_reducible assumption); (focus omega); intro _ _)
  | ((with_reducible apply g_mkCourse); (focus walk_at "hp"); intro _ _ _ _ _ _ _ _ _)
  | ((with_reducible apply g_ncheckn); (focus omega); (focus omega)))

section
variable {P : Program} {w : World} {K : PySem.W.Frag} {mg : Str → Option Value} {base : Heap} {C CC OC : Addr}
def sp_law (K : PySem.W.Frag) : Sp := fun vs H Q _ => ∃ (a : Addr) (ns : List Int), vs = [.ref a] ∧ Scr K H a (ns.map V.int) ∧ ns.length ≤ 63 ∧ H (lamT K) = some (.tbl #[]) ∧ ∀ H', Q (.bl true) H'
theorem sp_law_len {K : PySem.W.Frag} {vs : List V} {H : Hp} {Q : VK} {E : XK} (h : sp_law K vs H Q E) : vs.length = ["_law_script"].length := by
  obtain ⟨a, ns, rfl, _⟩ := h
  rfl
set_option maxHeartbeats 16000000 in
theorem bd_law (Z : Blt mg) (R : RingC K C) (RO : ObsC K OC) (G__law_raised : GFun K mg "_law_raised" s__law_raised) (T__law_raised : GivesL P w K mg base N__law_raised "_law_raised" s__law_raised "_law_work" 9 (TRaiseP K)) (Exr_Contradiction : ExcR K (He.ga K "Contradiction") 3)
    (D__law_taken : Df P w K mg base 1 "_law_taken" ["_law_row", "_law_many"] (sp_taken K)) (D__law_parts : Df P w K mg base 3 "_law_parts" ["_law_row", "_law_most"] (sp_parts K)) (I_Ring : If P w K mg base "Ring" C 3 ["self", "days", "starts"] (sp_Ring_init K C)) (M_Ring_with_days : Mf P w K mg base C 5 "with_days" ["self", "reader", "days"] (sp_Ring_with K C))
    (F_Ring___call__ : Cf P w K mg base C 7 "__call__" ["self", "reader", "number"] (sp_Ring_call K C)) (I_DaysObserver : If P w K mg base "DaysObserver" OC 7 ["self", "ring", "reader"] (sp_Obs_init K C CC OC)) (MX_DaysObserver_see_end : Mf P w K mg base OC 3 "see_end" ["self", "reader", "number", "day"] (sp_seeE K C CC OC)) (MX_DaysObserver_see_open : Mf P w K mg base OC 3 "see_open" ["self", "reader", "number", "day"] (sp_seeO K C CC OC))
    (Q_DaysObserver_possible_days : Pf P w K mg base OC 1 "possible_days" ["self"] (sp_possible K C CC OC)) (Q_DaysObserver_observations : Pf P w K mg base OC 1 "observations" ["self"] (sp_observations K C CC OC)) (M_DaysObserver_possible_ends : Mf P w K mg base OC 3 "possible_ends" ["self", "reader", "number"] (sp_ends K C CC OC))
    (M_DaysObserver_telling_number : Mf P w K mg base OC 4 "telling_number" ["self", "reader", "limit"] (sp_tell K C CC OC)) (S_DaysObserver_from_log : Sf P w K mg base OC 9 "from_log" (sp_from K C CC OC)) (g_DaysObserver : mg "DaysObserver" = some (.ref OC)) : BodyT P w K mg base N_law s_law 12 (sp_law K) := by
  intro f A outer s H vs Q E TB hr h
  · obtain ⟨sc, ns, rfl, hsc, hns, ht0, q⟩ := h
    have cl_Ring := R.cl
    have cl_DaysObserver := RO.cl
    refine ⟨_, (pss_cons (ps_set (i := 1) sc_law.nd rfl (by first | exact Or.inl rfl | exact Or.inr rfl) (pe_lst (pa_cons (pv 0) (pa_cons pe_int (pa_cons pe_int (pa_cons pe_int pa_nil))))))
      (pss_cons (ps_set (i := 2) sc_law.nd rfl (by first | exact Or.inl rfl | exact Or.inr rfl) (pg D__law_parts hr (pa_cons (pv 1) (pa_cons pe_int pa_nil))))
      (pss_cons (ps_asg (pe_tup (pa_cons (pk I_Ring hr (pa_cons (pe_ix ix_tup (pv 2) pe_int (fun _ _ => rfl)) (pa_cons (pe_ix ix_tup (pv 2) pe_int (fun _ _ => rfl)) pa_nil))) (pa_cons (pg D__law_taken hr (pa_cons (pv 1) (pa_cons (pe_callB c_len (by rfl) Z.zlen PySem.boot_len (pa_cons (pe_ix ix_tup (pv 2) pe_int (fun _ _ => rfl)) pa_nil)) pa_nil))) pa_nil))) (pg_tup (by rfl) (pgs_cons (pg_name (i := 3) sc_law.nd rfl (by first | exact Or.inl rfl | exact Or.inr rfl)) (pgs_cons (pg_name (i := 4) sc_law.nd rfl (by first | exact Or.inl rfl | exact Or.inr rfl)) pgs_nil))))
      (pss_cons (ps_asg (pe_tup (pa_cons (pk I_DaysObserver hr (pa_cons (pv 3) (pa_cons (pv 4) pa_nil))) (pa_cons (pe_listRg rfl (by rfl) Z.zlist (prg_2 (by rfl) Z.zrange pe_int pe_int)) (pa_cons (pe_lst pa_nil) pa_nil)))) (pg_tup (by rfl) (pgs_cons (pg_name (i := 5) sc_law.nd rfl (by first | exact Or.inl rfl | exact Or.inr rfl)) (pgs_cons (pg_name (i := 6) sc_law.nd rfl (by first | exact Or.inl rfl | exact Or.inr rfl)) (pgs_cons (pg_name (i := 7) sc_law.nd rfl (by first | exact Or.inl rfl | exact Or.inr rfl)) pgs_nil)))))
      (pss_cons (ps_set (i := 8) sc_law.nd rfl (by first | exact Or.inl rfl | exact Or.inr rfl) (pe_lc (own := [("_law_days", 17)]) rfl sc_law.nd (pi_list (pv 6)) (blkOk_by (N := N_law) (sc := defScope s_law) (by decide +kernel)) (fun _ _ _ _ _ => (pg_name (i := 17) sc_law.nd rfl (by first | exact Or.inl rfl | exact Or.inr rfl))) (fun _ _ _ _ _ => pts_nil) (fun _ _ _ _ _ => (pm (pv 3) cl_Ring M_Ring_with_days hr (pa_cons (pv 4) (pa_cons (pv 17) pa_nil))))))
      (pss_cons (ps_set (i := 9) sc_law.nd rfl (by first | exact Or.inl rfl | exact Or.inr rfl) (pe_ix ix_list (pv 8) (pg D__law_taken hr (pa_cons (pv 1) (pa_cons pe_int pa_nil))) (fun _ _ => rfl)))
      (pss_cons (ps_for PassesOwn.never rfl (pi_range1 (by rfl) Z.zrange (pa_cons (pe_op op_add pe_int (pg D__law_taken hr (pa_cons (pv 1) (pa_cons pe_int pa_nil)))) pa_nil)) (pg_name (i := 10) sc_law.nd rfl (by first | exact Or.inl rfl | exact Or.inr rfl)) (pss_cons (ps_asg (pe_tup (pa_cons (pg D__law_taken hr (pa_cons (pv 1) (pa_cons (pe_callB c_len (by rfl) Z.zlen PySem.boot_len (pa_cons (pe_ix ix_tup (pv 2) pe_int (fun _ _ => rfl)) pa_nil)) pa_nil))) (pa_cons (pg D__law_taken hr (pa_cons (pv 1) (pa_cons pe_int pa_nil))) pa_nil))) (pg_tup (by rfl) (pgs_cons (pg_name (i := 11) sc_law.nd rfl (by first | exact Or.inl rfl | exact Or.inr rfl)) (pgs_cons (pg_name (i := 12) sc_law.nd rfl (by first | exact Or.inl rfl | exact Or.inr rfl)) pgs_nil))))
          (pss_cons (ps_set (i := 13) sc_law.nd rfl (by first | exact Or.inl rfl | exact Or.inr rfl) (pe_op op_add (pe_callO (pv 9) F_Ring___call__ hr (pa_cons (pv 11) (pa_cons (pv 12) pa_nil))) (pe_ix ix_list (pe_lst (pa_cons pe_int (pa_cons pe_int (pa_cons pe_int (pa_cons pe_int pa_nil))))) (pg D__law_taken hr (pa_cons (pv 1) (pa_cons pe_int pa_nil))) (fun _ _ => rfl))))
          (pss_cons (ps_set (i := 14) sc_law.nd rfl (by first | exact Or.inl rfl | exact Or.inr rfl) (pe_cmpR op_eq (pg D__law_taken hr (pa_cons (pv 1) (pa_cons pe_int pa_nil))) pe_int (nomark _)))
          (pss_cons (ps_set (i := 15) sc_law.nd rfl (by first | exact Or.inl rfl | exact Or.inr rfl) (pe_ifExp (pt_val (pv 14)) (pv 13) (pe_callB (c_max2 rfl) (by rfl) Z.zmax (by decide +kernel) (pa_cons pe_int (pa_cons (pe_op op_sub (pe_op op_sub (pv 13) pe_int) (pg D__law_taken hr (pa_cons (pv 1) (pa_cons pe_int pa_nil)))) pa_nil)))))
          (pss_cons (ps_set (i := 16) sc_law.nd rfl (by first | exact Or.inl rfl | exact Or.inr rfl) (pe_lst pa_nil))
          (pss_cons (ps_for PassesOwn.never rfl (pi_list (pv 6)) (pg_name (i := 17) sc_law.nd rfl (by first | exact Or.inl rfl | exact Or.inr rfl)) (pss_cons (ps_set (i := 18) sc_law.nd rfl (by first | exact Or.inl rfl | exact Or.inr rfl) (pe_callOE (pe_ix ix_list (pv 8) (pe_op op_sub (pv 17) pe_int) (fun _ _ => rfl)) F_Ring___call__ hr (pa_cons (pv 11) (pa_cons (pv 12) pa_nil))))
          (pss_one (ps_if (pt_ifExp (pt_val (pv 14)) (pt_cmpR op_eq (pv 18) (pv 15) (nomark _)) (pt_cmpR op_gt (pv 18) (pv 15) (nomark _))) (pss_one (ps_expr (pe_bm PySem.F.plainAttrs_list PySem.F.slot_list_append PySem.F.type_list_append mt_append (pv 16) (pa_cons (pv 17) pa_nil)))) pss_nil))))
          (pss_cons (ps_set (i := 19) sc_law.nd rfl (by first | exact Or.inl rfl | exact Or.inr rfl) (pe_ix ix_list (pe_lst (pa_cons (pe_lamT0 (k := 8) (T := lamTs K) TB rfl lamTs_m lamTs_u (lamS_of (N := N_law) (sc := defScope s_law) (by decide +kernel)) (lamB0 fun _ _ _ _ _ _ _ _ => rfl) (fun A outer s H E f c' hr => (pm (pv 5) cl_DaysObserver MX_DaysObserver_see_open hr (pa_cons (pv 11) (pa_cons (pv 12) (pa_cons (pv 15) pa_nil))) (passes_call (takes_of rfl rfl rfl rfl) (fun _ _ _ _ h => h))))) (pa_cons (pe_lamT1 (k := 8) (T := lamTs K) TB rfl lamTs_m lamTs_u (lamS_of (N := N_law) (sc := defScope s_law) (by decide +kernel)) (lamB1 fun _ _ _ _ _ _ _ _ _ => ⟨_, rfl, fun _ => rfl⟩) (fun A outer s H E f c' hr => (pm (pv 5) cl_DaysObserver MX_DaysObserver_see_end hr (pa_cons (pv 11) (pa_cons (pv 12) (pa_cons (pv 15) pa_nil))) (passes_call (takes_of rfl rfl rfl rfl) (fun _ _ _ _ h => h))))) pa_nil))) (pe_callTy c_int1 (by rfl) Z.zint (by decide +kernel) (pa_cons (pv 14) pa_nil)) (fun _ _ => rfl)))
          (pss_cons (ps_set (i := 20) sc_law.nd rfl (by first | exact Or.inl rfl | exact Or.inr rfl) (pe_toldN (k := 8) hr G__law_raised sc__law_raised b__law_raised T__law_raised rfl (.inl rfl) (pa_cons (pv 19) pa_nil)))
          (pss_cons (ps_if (pt_cmpR (op_neD hr.units) (pv 20) (pe_ifExp (pt_cmpR (op_neD hr.units) (pv 16) (pe_lst pa_nil) (nomark _)) pe_non (pe_tup (pa_cons pe_str pa_nil))) (nomark _)) (pss_one (ps_ret pe_bl)) pss_nil)
          (pss_cons (ps_if (pt_cmpR op_isN (pv 20) pe_non (nomark _)) (pss_cons (ps_set (i := 6) sc_law.nd rfl (by first | exact Or.inl rfl | exact Or.inr rfl) (pv 16))
          (pss_one (ps_expr (pe_bm PySem.F.plainAttrs_list PySem.F.slot_list_append PySem.F.type_list_append mt_append (pv 7) (pa_cons (pe_tup (pa_cons (pe_ix ix_list (pe_lst (pa_cons pe_str (pa_cons pe_str pa_nil))) (pe_callTy c_int1 (by rfl) Z.zint (by decide +kernel) (pa_cons (pv 14) pa_nil)) (fun _ _ => rfl)) (pa_cons (pv 11) (pa_cons (pv 12) (pa_cons (pv 15) pa_nil))))) pa_nil))))) pss_nil)
          (pss_cons (ps_if (PW.pt (pw_or (pt_cmpR (op_neD hr.units) (pp (pv 5) cl_DaysObserver Q_DaysObserver_possible_days hr) (pv 6) (nomark _)) (pw_or1 (pt_cmpR (op_neD hr.units) (pp (pv 5) cl_DaysObserver Q_DaysObserver_observations hr) (pv 7) (nomark _))))) (pss_one (ps_ret pe_bl)) pss_nil)
          (pss_cons (ps_set (i := 21) sc_law.nd rfl (by first | exact Or.inl rfl | exact Or.inr rfl) (pe_lc (own := [("_law_j", 23)]) rfl sc_law.nd (pi_range1 (by rfl) Z.zrange (pa_cons pe_int pa_nil)) (blkOk_by (N := N_law) (sc := defScope s_law) (by decide +kernel)) (fun _ _ _ _ _ => (pg_name (i := 23) sc_law.nd rfl (by first | exact Or.inl rfl | exact Or.inr rfl))) (fun _ _ _ _ _ => pts_nil) (fun _ _ _ _ _ => (pe_lc (own := [("_law_days", 17)]) rfl sc_law.nd (pi_listK K (pv 6)) (blkOk_by (N := N_law) (sc := ({ kind := .function, names := [(".0", .local), ("_law_j", .cell), ("_law_k", .cell), ("_law_left", .cell), ("_law_rings", .cell)], isGenerator := false, isCoroutine := false } : Scope)) (by decide +kernel)) (fun _ _ _ _ _ => (pg_name (i := 17) sc_law.nd rfl (by first | exact Or.inl rfl | exact Or.inr rfl))) (fun _ _ _ _ _ => pts_nil) (fun _ _ _ _ _ => (pe_callOE (pe_ix (ix_listK K) (pv 8) (pe_op op_sub (pv 17) pe_int) (fun _ _ => rfl)) F_Ring___call__ hr (pa_cons (pv 11) (pa_cons (pv 23) pa_nil))))))))
          (pss_cons (ps_if (pt_cmpR (op_neD hr.units) (pm (pv 5) cl_DaysObserver M_DaysObserver_possible_ends hr (pa_cons (pv 11) (pa_cons (pv 12) pa_nil))) (pe_callB (cr_sortedSet rfl) (by rfl) Z.zsorted (by decide +kernel) (pa_cons (pe_callTy (cr_setL rfl) (by rfl) Z.zset (by decide +kernel) (pa_cons (pe_lc (own := [("_law_days", 17)]) rfl sc_law.nd (pi_list (pv 6)) (blkOk_by (N := N_law) (sc := defScope s_law) (by decide +kernel)) (fun _ _ _ _ _ => (pg_name (i := 17) sc_law.nd rfl (by first | exact Or.inl rfl | exact Or.inr rfl))) (fun _ _ _ _ _ => pts_nil) (fun _ _ _ _ _ => (pe_callOE (pe_ix (ix_listK K) (pv 8) (pe_op op_sub (pv 17) pe_int) (fun _ _ => rfl)) F_Ring___call__ hr (pa_cons (pv 11) (pa_cons (pv 12) pa_nil))))) pa_nil)) pa_nil)) (nomark _)) (pss_one (ps_ret pe_bl)) pss_nil)
          (pss_cons (ps_setLc (i := 22) (own := [("_law_j", 23)]) rfl sc_law.nd rfl rfl (sw_true rfl rfl rfl (by decide +kernel)) (pi_range1 (by rfl) Z.zrange (pa_cons pe_int pa_nil)) (blkOk_by (N := N_law) (sc := defScope s_law) (by decide +kernel)) (fun _ _ _ _ _ => (pg_name (i := 23) sc_law.nd rfl (by first | exact Or.inl rfl | exact Or.inr rfl))) (fun _ _ _ _ _ => (pts_one (pt_cmpR op_eq (pe_callB (c_lenSw w) (by rfl) Z.zlen PySem.boot_len (pa_cons (pe_callTy (cr_setLw K w rfl) (by rfl) Z.zset (by decide +kernel) (pa_cons (pe_ix (ix_listK K) (pv 21) (pv 23) (fun _ _ => rfl)) pa_nil)) pa_nil)) (pe_callB (c_lenK K) (by rfl) Z.zlen PySem.boot_len (pa_cons (pv 6) pa_nil)) (nomark _)))) (fun _ _ _ _ _ => (pv 23)))
          (pss_one (ps_if (pt_cmpR (op_neD hr.units) (pm (pv 5) cl_DaysObserver M_DaysObserver_telling_number hr (pa_cons (pv 11) (pa_cons pe_int pa_nil))) (pe_ifExp (pt_cmpR (op_neD hr.units) (pv 22) (pe_lst pa_nil) (nomark _)) (pe_ix ix_list (pv 22) pe_int (fun _ _ => rfl)) pe_non) (nomark _)) (pss_one (ps_ret pe_bl)) pss_nil)))))))))))))))))
      (pss_one (ps_ret (pe_cmpR (op_eqD hr.units) (pp (pcm (pcls g_DaysObserver) S_DaysObserver_from_log hr (pa_cons (pv 3) (pa_cons (pv 4) (pa_cons (pv 7) pa_nil)))) cl_DaysObserver Q_DaysObserver_possible_days hr) (pv 6) (nomark _))))))))))), ?_⟩
    walk_at "g0"
    walk_at "go"
    rename_i d H1 nd e1 hd
    refine ⟨d, 6, rfl, ⟨sc, ns, 0, 0, 0, hd, hsc.ex e1, hns, by decide, by decide, by decide⟩, by decide, fun p a b ds hs H2 np e2 D2 hp ta tb O hlm => ?_⟩
    have D1 : DiceAt K H1 d := ⟨sc, ns, 0, 0, 0, hd, hsc.ex e1, hns, by decide, by decide, by decide⟩
    have T2 := tabs_exD e2 D1 ((lamTs_0 ht0).ext e1)
    have sa := ta.sq (K := K)
    have sb := tb.sq (K := K)
    walk_at "go"
    refine g_mkRing sa sb O fun r H3 nr e3 RI => ?_
    have o2 := O.two
    have o8 := O.eight
    have o1 := O.one
    have o12 := O.twelve
    have D3 := D2.ex e3
    have T3 := T2.ext e3
    have hp3 := ex_t e3 (SqT.of (K := K) hp)
    have sa3 := ex_t e3 sa
    clear hp sa sb ta tb hd hsc D1 T2 D2
    walk_at "go"
    rename_i kk H4 k0 k1 e4 D4 p5 H5 n5 e5 h5
    obtain ⟨h, rfl⟩ : ∃ h : Nat, kk = (h : Int) := ⟨kk.toNat, by omega⟩
    have hh : h < ds.length := by omega
    have RI5 := (RI.exD e4 D3).ex e5
    have D5 := D4.ex e5
    have T5 := (tabs_exD e4 D3 T3).ext e5
    have hp5 := ex_t e5 (exb_tD e4 D3 hp3)
    have sa5 := ex_t e5 (exb_tD e4 D3 sa3)
    clear RI D3 T3 hp3 sa3 e4 D4 e5 h5 n5
    refine g_mkObs RI5 hh fun o DD pp cA H6 no e6 ob6 => ?_
    have D6 := D5.ex e6
    have T6 := T5.ext e6
    have hp6 := ex_t e6 hp5
    have sa6 := ex_t e6 sa5
    clear D5 T5 hp5 sa5
    walk_at "go"
    refine ⟨1, 31, rfl, rfl, ?_⟩
    refine g_kLRg (by walk_at "rg") fun lf H7 n7 e7 h7 => ?_
    have h7' : H7 lf = some (.lst (days30.map V.int)) := by
      rw [h7]
      rfl
    walk_at "go"
    rename_i sl H8 n8 e8 h8 p9 H9 n9 e9 h9
    have e69 := (e7.trans e8).trans e9
    have hl9 := e9 _ _ (e8 _ _ h7')
    have hsl9 := e9 _ _ h8
    have nsl6 : H6 sl = none := fresh_back e7 n8
    have nll : lf ≠ sl := ne_of_none h7' n8
    have RI9 := (RI5.ex e6).ex e69
    clear e7 e8 e9 h7 h7' h8 n9 h9
    walk_at "go"
    refine g_kLcL (SqL.of hl9) (fun A i H' => Ex H9 H' ∧ ∃ rg : Nat → Addr, H' A = some (.lst ((List.range i).map fun j => V.ref (rg j))) ∧ ∀ j, j < i → ∃ a', RingIn K C H' (rg j) a' b (ds.set h (1 + (j : Int))) hs) (fun A H1 nA e1 hA => ⟨e1, fun _ => 0, by rw [hA]; rfl, fun j hj => absurd hj (by omega)⟩) (fun A i H2 nA _ hP => SqL.of (hP.1 _ _ hl9)) ?_ ?_
    · rintro A i x H10 nA hx ⟨e10, rg, hA, hr10⟩
      have hi30 : i < 30 := (List.getElem?_eq_some_iff.mp hx).1
      obtain rfl : x = .int (1 + (i : Int)) := by
        rw [List.getElem?_map, days30_at hi30] at hx
        exact (Option.some.inj hx).symm
      have RI10 := RI9.ex e10
      walk_at "go"
      refine ⟨r, a, b, ds, hs, h, 1 + (i : Int), rfl, RI10, hh, ⟨by omega, by omega⟩, fun r' a' H11 n11 e11 R11 => ?_⟩
      have hA11 := e11 _ _ hA
      walk_at "go"
      refine g_kLcE hA11 (ltLine (by rw [List.length_map, List.length_range]; omega)) fun H12 e12 hA12 => ?_
      refine ⟨Exb.ex nA (e10.trans e11) e12, fun j => if j = i then r' else rg j, ?_, fun j hj => ?_⟩
      · rw [hA12, List.range_succ, List.map_append]
        congr 3
        · refine List.map_congr_left fun j hj => ?_
          show V.ref (rg j) = V.ref (if j = i then r' else rg j)
          rw [if_neg (by have := List.mem_range.mp hj; omega)]
        · show [V.ref r'] = [V.ref (if i = i then r' else rg i)]
          rw [if_pos rfl]
      · by_cases z : j = i
        · subst z
          show ∃ a', RingIn K C H12 (if j = j then r' else rg j) a' b _ hs
          rw [if_pos rfl]
          exact ⟨a', R11.exb e12 hA11⟩
        · obtain ⟨a2, R2⟩ := hr10 j (by omega)
          show ∃ a', RingIn K C H12 (if j = i then r' else rg j) a' b _ hs
          rw [if_neg z]
          exact ⟨a2, (R2.ex e11).exb e12 hA11⟩
    · rintro rl H10 nrl ⟨e10, rg, hrl, hrg⟩
      have h30 : (days30.map V.int).length = 30 := rfl
      rw [h30] at hrl hrg
      have e610 := e69.trans e10
      have D10 := D6.ex e610
      have T10 := T6.ext e610
      have hp10 := ex_t e610 hp6
      have hl10 := e10 _ _ hl9
      have hsl10 := e10 _ _ hsl9
      have nrs : rl ≠ sl := Ne.symm (ne_of_none hsl9 nrl)
      have nrf : rl ≠ lf := Ne.symm (ne_of_none hl9 nrl)
      clear RI9 e69 T6 e10 hl9 hsl9 nrl h30
      walk_at "go"
      rename_i kx H11 x0 x1 e11 D11
      obtain ⟨xx, rfl⟩ : ∃ x : Nat, kx = (x : Int) := ⟨kx.toNat, by omega⟩
      have hx30 : xx < 30 := by omega
      have nrd : rl ≠ d := by
        obtain ⟨sc', ns', p0, m0, r0, hd, _⟩ := id D10
        intro z
        rw [z, hd] at hrl
        have q := HO.lst.inj (Option.some.inj hrl)
        have := congrArg List.length q
        simp at this
      have nld : lf ≠ d := by
        obtain ⟨sc', ns', p0, m0, r0, hd, _⟩ := id D10
        intro z
        rw [z, hd] at hl10
        cases HO.lst.inj (Option.some.inj hl10)
      have nsd : sl ≠ d := by
        obtain ⟨sc', ns', p0, m0, r0, hd, _⟩ := id D10
        intro z
        rw [z, hd] at hsl10
        cases HO.lst.inj (Option.some.inj hsl10)
      have hat : ∀ j, j < 30 → atI ((List.range 30).map fun j => V.ref (rg j)) ((j : Nat) : Int) = some (.ref (rg j)) := fun j hj => atI_nat (by rw [List.getElem?_map, List.getElem?_range hj]; rfl)
      refine g_ixL (SqL.of (e11 _ _ nrd hrl)) (hat xx hx30) ?_
      walk_at "go"
      rename_i km H12 y0 y1 e12 D12
      have e1012 : Exb d H10 H12 := e11.trans e12
      obtain ⟨dx6, fs6, ho6, of6⟩ := ob6.obj
      have ho10 := e610 _ _ ho6
      have w12 : LW K C CC OC H6 H10 d o sl r a b ds hs h cA H12 days30 [] lf := by
        have w10 : LW K C CC OC H6 H10 d o sl r a b ds hs h cA H10 days30 [] lf := ⟨KX.ex e610, KX.refl, D10, T10, ⟨DD, pp, [], ob6.kd (KD.of e610) (e610 _ _ ob6.dct), rfl, fun i z q hz => (by cases hz)⟩, ⟨hl10, nld, nll⟩, ⟨[], hsl10, rfl, fun i z q hz => (by cases hz)⟩, nsd, rfl, fun q hq => absurd hq (by simp), fun i hi => by
          have : i = 0 := by simpa using hi
          subst this
          show days30 ≠ []
          decide⟩
        exact w10.exd e1012 D12
      have hsl10' : H10 sl = none ∨ ∃ xs, H10 sl = some (.lst xs) := .inr ⟨_, hsl10⟩
      clear e11 e12 D11 T10 hl10 D12 e1012 x0 x1 n7 n8
      refine g_kForR1 ⟨by omega, by omega⟩ (fun t σ H' => ∃ (L : List Int) (sn : List Sn) (lf' : Addr) (v10 v11 v12 v13 v14 v15 v16 v17 v18 v19 v20 v21 v22 v23 : Option V), σ = [some (.ref sc), some (.ref d), some (.ref p), some (.ref r), some (.int (h : Int)), some (.ref o), some (.ref lf'), some (.ref sl), some (.ref rl), some (.ref (rg xx)), v10, v11, v12, v13, v14, v15, v16, v17, v18, v19, v20, v21, v22, v23] ∧ LW K C CC OC H6 H10 d o sl r a b ds hs h cA H' L sn lf' ∧ sn.length ≤ t)
        ⟨days30, [], lf, _, _, _, _, _, _, _, _, _, _, _, _, _, _, rfl, w12, Nat.le_refl _⟩ ?_ ?_
      · rintro t σ H13 ht ⟨L, sn, lf', v10, v11, v12, v13, v14, v15, v16, v17, v18, v19, v20, v21, v22, v23, rfl, w13, hst⟩
        have ht6 : t < 6 := by omega
        have hp13 := KX.t w13.k6 D6 ho6 of6.m8 of6.m9 (.inl nsl6) hp6
        have sa13 := KX.t w13.k6 D6 ho6 of6.m8 of6.m9 (.inl nsl6) sa6
        have D13 := w13.dice
        walk_at "go"
        rename_i kk H14 z0 z1 e14 D14 num H15 z2 z3 e15 D15 p16 H16 n16 e16 h16
        obtain ⟨k, rfl⟩ : ∃ k : Nat, kk = (k : Int) := ⟨kk.toNat, by omega⟩
        obtain ⟨n, rfl⟩ : ∃ n : Nat, num = (n : Int) := ⟨num.toNat, by omega⟩
        have hk : k < ds.length := by omega
        have w16 := ((w13.exd e14 D14).exd e15 D15).ex e16
        obtain ⟨ax, Rx⟩ := hrg xx hx30
        have Rx16 := RingIn.kx w16.k10 D10 ho10 of6.m8 of6.m9 hsl10' Rx
        have hkx : k < (ds.set h (1 + (xx : Int))).length := by rw [List.length_set]; exact hk
        refine g_callO Rx16 ?_
        refine g_rcall Rx16 hkx (by omega) fun H17 e17 => ?_
        have Dx16 := w16.dice
        have Dx17 := Dx16.ex e17
        clear e14 e15 e16 D14 D15 h16 n16 D13 hp13
        walk_at "go"
        rename_i l18 H18 n18 e18 h18 ix H19 i0 i1 e19 D19
        obtain ⟨ex, hex, ex0, ex1⟩ : ∃ ex : Int, atI [V.int 0, V.int 0, V.int 0, V.int 1] ix = some (.int ex) ∧ 0 ≤ ex ∧ ex ≤ 1 := by
          have : ix = 0 ∨ ix = 1 ∨ ix = 2 ∨ ix = 3 := by omega
          rcases this with rfl | rfl | rfl | rfl
          · exact ⟨0, rfl, by decide, by decide⟩
          · exact ⟨0, rfl, by decide, by decide⟩
          · exact ⟨0, rfl, by decide, by decide⟩
          · exact ⟨1, rfl, by decide, by decide⟩
        have npd : l18 ≠ d := by
          obtain ⟨ys, hys⟩ := Dx17.lst
          exact Ne.symm (ne_of_none hys n18)
        refine g_ixL (SqL.of (e19 _ _ npd h18)) hex ?_
        have w19 := ((w16.ex e17).ex e18).exd e19 D19
        have XE := XR_ge (O.set h (show 1 ≤ 1 + (xx : Int) ∧ 1 + (xx : Int) ≤ 30 by omega)) hkx n
        have XS := XR_sum (O.set h (show 1 ≤ 1 + (xx : Int) ∧ 1 + (xx : Int) ≤ 30 by omega)) hkx n
        have XD := (O.set h (show 1 ≤ 1 + (xx : Int) ∧ 1 + (xx : Int) ≤ 30 by omega)).days.sum
        obtain ⟨en, hen⟩ : ∃ en : Nat, XR (ds.set h (1 + (xx : Int))) hs n k + ex = (en : Int) := ⟨(XR (ds.set h (1 + (xx : Int))) hs n k + ex).toNat, by omega⟩
        clear e17 e18 e19 h18 n18 npd Dx16 Dx17 w16 Rx16
        have hadd : ∀ Q' : VK, Q' (.int (en : Int)) H19 → rI0 (fun i j => V.int (i + j)) (.int (XR (ds.set h (1 + (xx : Int))) hs n k)) (.int ex) H19 Q' := fun Q' q' => ⟨_, _, rfl, rfl, by
          show Q' (V.int (XR (ds.set h (1 + (xx : Int))) hs n k + ex)) H19
          rw [hen]
          exact q'⟩
        refine hadd _ ?_
        clear hadd
        walk_at "go"
        rename_i kb H20 b0 b1 e20 D20
        have w20 := w19.exd e20 D20
        have hen2 : (en : Int) ≤ 3000 := by
          have := Int.mul_le_mul (show (n : Int) + 1 ≤ 12 by omega) XD.2 (by omega) (by decide)
          omega
        generalize decide (kb = 0) = be
        refine g_kIf2 (Rr := fun v H' => ∃ dy : Nat, v = .int (dy : Int) ∧ dy ≤ 3000 ∧ Exb d H20 H' ∧ DiceAt K H' d) (fun _ Q' q' => ?_) (fun _ Q' q' => ?_) ?_
        · walk_at "go"
          exact q' _ _ ⟨en, rfl, by omega, Exb.of (Ex.refl _), D20⟩
        · walk_at "go"
          rename_i kc H21 c0 c1 e21 D21
          refine q' _ _ ⟨((if (en : Int) - 1 - kc > 0 then (en : Int) - 1 - kc else 0)).toNat, ?_, ?_, e21, D21⟩
          · congr 1
            split <;> omega
          · split <;> omega
        · rintro v H21 ⟨dy, rfl, hdy, e21, D21⟩
          have w21 := w20.exd e21 D21
          clear e20 e21 w19 D19 D20 w20 hen hen2 XE XS XD hex ex0 ex1 b0 b1 i0 i1
          walk_at "go"
          rename_i gl H22 n22 e22 h22
          obtain ⟨hlf, nlfd, nlfs⟩ := w21.lf
          have hrl21 := w21.k10 rl _ nrd (ne_of hrl ho10 (by intro z; cases z)) nrs hrl (by intro _ z; cases z) (by intro _ _ z; cases z) (by intro _ z; cases z)
          have rgAt : ∀ H', Ex H21 H' → ∀ j, j < 30 → ∃ a', RingIn K C H' (rg j) a' b (ds.set h (1 + (j : Int))) hs := fun H' e j hj => let ⟨a', R'⟩ := hrg j hj; ⟨a', (RingIn.kx w21.k10 D10 ho10 of6.m8 of6.m9 hsl10' R').ex e⟩
          have hL30 : ∀ d ∈ L, d ∈ days30 := fun d hd => foldL_mem (sn := sn) (ds := ds) (hs := hs) (h := h) (by rw [← w21.fold]; exact hd)
          have lL : L.length ≤ 30 := let ⟨_, _, _, ob, _⟩ := w21.obs; ob.len
          refine g_kForL (SqL.of (e22 _ _ hlf)) (fun i σ H' => ∃ v17 v18, σ = [some (.ref sc), some (.ref d), some (.ref p), some (.ref r), some (.int (h : Int)), some (.ref o), some (.ref lf'), some (.ref sl), some (.ref rl), some (.ref (rg xx)), some (.int (t : Int)), some (.int (k : Int)), some (.int (n : Int)), some (.int (en : Int)), some (.bl be), some (.int (dy : Int)), some (.ref gl), v17, v18, v19, v20, v21, v22, v23] ∧ Ex H21 H' ∧ H' gl = some (.lst ((stepL ds hs h (L.take i) (be, k, n, dy)).map V.int)))
            ⟨_, _, rfl, e22, by rw [h22]; cases be <;> rfl⟩ (fun i σ H' _ hP => by
              obtain ⟨_, _, _, e, _⟩ := hP
              exact SqL.of (e _ _ hlf)) ?_ ?_
          · rintro i x σ H23 hx ⟨v17, v18, rfl, e23, hg⟩
            obtain ⟨dd, hdd, rfl⟩ : ∃ dd, L[i]? = some dd ∧ x = .int dd := by
              rw [List.getElem?_map] at hx
              obtain ⟨dd, a1, a2⟩ := Option.map_eq_some_iff.mp hx
              exact ⟨dd, a1, a2.symm⟩
            have hmd := List.mem_of_getElem? hdd
            obtain ⟨j, hj, rfl⟩ := days30_mem (hL30 dd hmd)
            obtain ⟨aj, Rj⟩ := rgAt H23 e23 j hj
            have hrl23 := e23 _ _ hrl21
            have hkj : k < (ds.set h (1 + (j : Int))).length := by rw [List.length_set]; exact hk
            have es := stepL_succ (ds := ds) (hs := hs) (h := h) (k := k) (n := n) (day := dy) (be := be) hdd
            have hlen : (stepL ds hs h (L.take i) (be, k, n, dy)).length ≤ 1000 := by
              have h1 := stepL_len (ds := ds) (hs := hs) (h := h) (q := (be, k, n, dy)) (L := L.take i)
              rw [List.length_take] at h1
              omega
            walk_at "go"
            rw [show 1 + (j : Int) - 1 = (j : Int) by omega]
            refine g_ixL (SqL.of hrl23) (hat j hj) ?_
            walk_at "go"
            rename_i H24 e24
            have hg24 := e24 _ _ hg
            cases be with
            | true =>
              refine g_ifT ?_
              walk_at "go"
              refine g_kIfTt ?_
              walk_at "go"
              by_cases z : XR (ds.set h (1 + (j : Int))) hs n k = (dy : Int)
              · rw [decide_eq_true z]
                walk_at "go"
                refine g_kBM_list (SqL.of hg24) ?_
                walk_at "go"
                refine g_append hg24 (ltLine (by rw [List.length_map]; exact Nat.lt_of_le_of_lt hlen (by decide))) fun H25 e25 h25 => ?_
                refine ⟨_, _, rfl, Exb.ex n22 (e23.trans e24) e25, ?_⟩
                rw [h25, es, if_pos (by first | exact z | (rw [if_pos rfl]; exact z) | (rw [if_neg (by decide)]; exact z)), List.map_append]
                rfl
              · rw [decide_eq_false z]
                walk_at "go"
                refine ⟨_, _, rfl, e23.trans e24, ?_⟩
                rw [es, if_neg (by first | exact z | (rw [if_pos rfl]; exact z) | (rw [if_neg (by decide)]; exact z)), List.append_nil]
                exact hg24
            | false =>
              refine g_ifT ?_
              walk_at "go"
              refine g_kIfTf ?_
              walk_at "go"
              by_cases z : (dy : Int) < XR (ds.set h (1 + (j : Int))) hs n k
              · rw [decide_eq_true z]
                walk_at "go"
                refine g_kBM_list (SqL.of hg24) ?_
                walk_at "go"
                refine g_append hg24 (ltLine (by rw [List.length_map]; exact Nat.lt_of_le_of_lt hlen (by decide))) fun H25 e25 h25 => ?_
                refine ⟨_, _, rfl, Exb.ex n22 (e23.trans e24) e25, ?_⟩
                rw [h25, es, if_pos (by first | exact z | (rw [if_pos rfl]; exact z) | (rw [if_neg (by decide)]; exact z)), List.map_append]
                rfl
              · rw [decide_eq_false z]
                walk_at "go"
                refine ⟨_, _, rfl, e23.trans e24, ?_⟩
                rw [es, if_neg (by first | exact z | (rw [if_pos rfl]; exact z) | (rw [if_neg (by decide)]; exact z)), List.append_nil]
                exact hg24
          · rintro σ H23 ⟨v17, v18, rfl, e23, hg⟩
            rw [List.length_map, List.take_length] at hg
            have w23 := w21.ex e23
            walk_at "go"
            refine ⟨w23.tabs, fun f1 H24 n24 e24 T24 L1 => ?_⟩
            have w24 := w23.exn e24 T24
            walk_at "go"
            refine ⟨w24.tabs, fun f2 H25 n25 e25 T25 L2 => ?_⟩
            have w25 := w24.exn e25 T25
            have hg25 := exn_lst e25 (exn_lst e24 hg)
            walk_at "go"
            rename_i pl H26 npl e26 hpl
            have w26 := w25.ex e26
            have hg26 := e26 _ _ hg25
            have L1' := (L1.exn e25).ex e26
            have L2' := L2.ex e26
            obtain ⟨fw, hfw, hbe⟩ : ∃ fw, atI [V.ref f1, V.ref f2] (if be then (1 : Int) else 0) = some (V.ref fw) ∧ ((be = true ∧ fw = f2) ∨ (be = false ∧ fw = f1)) := by
              cases be
              · exact ⟨_, rfl, .inr ⟨rfl, rfl⟩⟩
              · exact ⟨_, rfl, .inl ⟨rfl, rfl⟩⟩
            refine g_int1b ?_
            refine g_ixL (SqL.of hpl) hfw ?_
            refine gg_name ?_
            simp only [List.set_cons_succ, List.set_cons_zero]
            refine g_cut3 (fun σ' H' => ∃ (L' : List Int) (sn' : List Sn) (lf2 : Addr) (v20 : Option V), σ' = [some (.ref sc), some (.ref d), some (.ref p), some (.ref r), some (.int (h : Int)), some (.ref o), some (.ref lf2), some (.ref sl), some (.ref rl), some (.ref (rg xx)), some (.int (t : Int)), some (.int (k : Int)), some (.int (n : Int)), some (.int (en : Int)), some (.bl be), some (.int (dy : Int)), some (.ref gl), v17, v18, some (.ref fw), v20, v21, v22, v23] ∧ LW K C CC OC H6 H10 d o sl r a b ds hs h cA H' L' sn' lf2 ∧ sn'.length ≤ t + 1) (fun D' q' => ?_) ?_
            · walk_at "go"
              refine g_toldTk ?_
              walk_at "go"
              refine g_cutT (Rr := fun v H' => (stepL ds hs h L (be, k, n, dy) = [] ∧ ∃ pw, v = .ref pw ∧ H' pw = some (.tup [.str "contradiction"]) ∧ LW K C CC OC H6 H10 d o sl r a b ds hs h cA H' L sn lf' ∧ H' gl = some (.lst ((stepL ds hs h L (be, k, n, dy)).map V.int))) ∨
                (stepL ds hs h L (be, k, n, dy) ≠ [] ∧ v = .non ∧ ∃ zs1 D2 p2 t2, SnL K H26 zs1 sn ∧ KO o H26 H' ∧ ObsAt K C CC OC H' o D2 r a b p2 ds hs h (stepL ds hs h L (be, k, n, dy)) cA (zs1 ++ [.ref t2]) ∧ SnV K H' (.ref t2) (be, k, n, dy) ∧ H' gl = some (.lst ((stepL ds hs h L (be, k, n, dy)).map V.int)))) (fun Q' q2 => ?_) ?_
              · obtain ⟨DD, pp, zs1, ob, sz⟩ := w26.obs
                obtain ⟨dxo, fso, ho, of⟩ := ob.obj
                have hm1 := of.m1
                have hm2 := of.m2
                rcases hbe with ⟨rfl, rfl⟩ | ⟨rfl, rfl⟩
                · refine ⟨_, L2', ?_⟩
                  unfold TRaiseP
                  walk_at "go"
                  refine ⟨o, DD, r, a, b, pp, ds, hs, h, L, cA, zs1, k, n, dy, rfl, ob, hk, by omega, by have := sz.1; omega, ?_⟩
                  by_cases z : endL ds hs h k n dy L = []
                  · refine .inl ⟨z, fun H28 kd hD => ?_⟩
                    refine ⟨_, 3, rfl, rfl, Exr_Contradiction, by decide, by decide, fun pw H29 np e29 hpw => q2 _ _ (.inl ⟨z, pw, rfl, hpw, (w26.kdo kd ⟨DD, pp, zs1, ob, sz, hD⟩).ex e29, e29 _ _ (kd.l hg26)⟩)⟩
                  · refine .inr ⟨z, fun D2 p2 t2 H28 ko ob2 st => ?_⟩
                    exact q2 _ _ (.inr ⟨z, rfl, zs1, D2, p2, t2, sz, ko, ob2, ⟨t2, rfl, st⟩, KO.l ko ho of.m8 of.m9 hg26⟩)
                · refine ⟨_, L1', ?_⟩
                  unfold TRaiseP
                  walk_at "go"
                  refine ⟨o, DD, r, a, b, pp, ds, hs, h, L, cA, zs1, k, n, dy, rfl, ob, hk, by omega, by omega, by have := sz.1; omega, ?_⟩
                  by_cases z : openL ds hs h k n dy L = []
                  · refine .inl ⟨z, fun H28 kd hD => ?_⟩
                    refine ⟨_, 3, rfl, rfl, Exr_Contradiction, by decide, by decide, fun pw H29 np e29 hpw => q2 _ _ (.inl ⟨z, pw, rfl, hpw, (w26.kdo kd ⟨DD, pp, zs1, ob, sz, hD⟩).ex e29, e29 _ _ (kd.l hg26)⟩)⟩
                  · refine .inr ⟨z, fun D2 p2 t2 H28 ko ob2 st => ?_⟩
                    exact q2 _ _ (.inr ⟨z, rfl, zs1, D2, p2, t2, sz, ko, ob2, ⟨t2, rfl, st⟩, KO.l ko ho of.m8 of.m9 hg26⟩)
              · rintro v H27 (⟨hz, pw, rfl, hpw, w27, hg27⟩ | ⟨hz, rfl, zs1, D2, p2, t2, sz, ko, ob2, st, hg27⟩)
                · walk_at "go"
                  rename_i pe H28 npe e28 hpe
                  refine g_neLI (ys := []) (SqL.of (e28 _ _ hg27)) (SqL.of hpe) ?_
                  rw [hz, decide_eq_true rfl]
                  have w28 := w27.ex e28
                  have hpw28 := e28 _ _ hpw
                  walk_at "go"
                  rename_i pf H29 npf e29 hpf
                  refine g_neW (by decide +kernel) (SqT.of (e29 _ _ hpw28)) (SqT.of hpf) ?_
                  have w29 := w28.ex e29
                  walk_at "go"
                  refine ⟨rfl, ?_⟩
                  rw [decide_eq_false (show ¬ V.ref pw = V.non by intro z; cases z)]
                  walk_at "go"
                  exact q' _ _ ⟨L, sn, lf', _, rfl, w29, by omega⟩
                · walk_at "go"
                  rename_i pe H28 npe e28 hpe
                  refine g_neLI (ys := []) (SqL.of (e28 _ _ hg27)) (SqL.of hpe) ?_
                  rw [decide_eq_false hz]
                  walk_at "go"
                  refine g_neNon ?_
                  walk_at "go"
                  refine ⟨rfl, ?_⟩
                  rw [decide_eq_true rfl]
                  obtain ⟨zs2, hsl26, s2⟩ := w26.seen
                  obtain ⟨DD0, pp0, zs0, ob0, _⟩ := w26.obs
                  obtain ⟨dx0, fs0, ho0, of0⟩ := ob0.obj
                  have hsl27 := KO.l ko ho0 of0.m8 of0.m9 hsl26
                  walk_at "go"
                  refine g_kBM_list (SqL.of (e28 _ _ hsl27)) ?_
                  walk_at "go"
                  rename_i pf H29 npf e29 hpf
                  have hwd : atI [V.str "see_open", V.str "see_end"] (if be then (1 : Int) else 0) = some (V.str (snW (be, k, n, dy))) := by cases be <;> rfl
                  refine g_int1b ?_
                  refine g_ixL (SqL.of hpf) hwd ?_
                  walk_at "go"
                  rename_i pt H30 npt e30 hpt
                  have e2730 := (e28.trans e29).trans e30
                  refine g_append (e2730 _ _ hsl27) (ltLine (by have := s2.1; omega)) fun H31 e31 h31 => ?_
                  have ngd : gl ≠ d := by
                    obtain ⟨ys, hys⟩ := w21.dice.lst
                    exact Ne.symm (ne_of_none hys n22)
                  have ngs : gl ≠ sl := by
                    obtain ⟨_, hys, _⟩ := w21.seen
                    exact Ne.symm (ne_of_none hys n22)
                  have w31 := LW.acc ob6 D6 nsl6 w26 ko ob2 sz st e2730 e31 ⟨pt, rfl, SqT.of hpt⟩ hsl26 s2 h31 (e2730 _ _ hg27) ngd ngs ⟨hk, show n ≤ 1000000 by omega, show dy ≤ 1000000000000000 by omega⟩ hz
                  exact q' _ _ ⟨_, _, gl, _, rfl, w31, by rw [List.length_append]; exact Nat.succ_le_succ hst⟩
            · rintro σ' H27 ⟨L', sn', lf2, v20, rfl, w27, hst'⟩
              obtain ⟨DD, pp, zs1, ob, sz⟩ := w27.obs
              obtain ⟨dxo, fso, ho, of⟩ := ob.obj
              have hm4 := of.m4
              have hm5 := of.m5
              have hm6 := of.m6
              have hm7 := of.m7
              obtain ⟨hlf2, nl1, nl2⟩ := w27.lf
              obtain ⟨zs2, hsl27, s2⟩ := w27.seen
              walk_at "go"
              refine ⟨o, DD, r, a, b, pp, ds, hs, h, L', cA, zs1, rfl, ob, fun l28 H28 n28 e28 hl28 => ?_⟩
              have ho28 := e28 _ _ ho
              walk_at "go"
              refine g_neLI (SqL.of hl28) (SqL.of (e28 _ _ hlf2)) ?_
              rw [decide_eq_true rfl]
              walk_at "go"
              refine ⟨o, DD, r, a, b, pp, ds, hs, h, L', cA, zs1, rfl, ob.kd (KD.of e28) (e28 _ _ ob.dct), fun l29 H29 n29 e29 hl29 => ?_⟩
              have e2729 := e28.trans e29
              walk_at "go"
              refine g_neSn (SqL.of hl29) (sz.imp fun _ _ => ex_t e2729) (SqL.of (e2729 _ _ hsl27)) (s2.imp fun _ _ => ex_t e2729) ?_
              have w29 := w27.ex e2729
              clear hl28 hl29 e28 e29 ho28 n28 n29
              have hrl27 := w27.k10 rl _ nrd (ne_of hrl ho10 (by intro z; cases z)) nrs hrl (by intro _ z; cases z) (by intro _ _ z; cases z) (by intro _ z; cases z)
              have rgA : ∀ H', Ex H27 H' → ∀ j, j < 30 → ∃ a', RingIn K C H' (rg j) a' b (ds.set h (1 + (j : Int))) hs := fun H' e j hj => let ⟨a', R'⟩ := hrg j hj; ⟨a', (RingIn.kx w27.k10 D10 ho10 of6.m8 of6.m9 hsl10' R').ex e⟩
              have hL3 : ∀ d ∈ L', d ∈ days30 := fun d hd => foldL_mem (sn := sn') (ds := ds) (hs := hs) (h := h) (by rw [← w27.fold]; exact hd)
              have lL3 := ob.len
              walk_at "go"
              have hlf29 := e2729 _ _ hlf2
              refine g_kLcR1 (n := 9) ⟨by decide, by decide⟩ (fun A j H' => Ex H29 H' ∧ ∃ ea : Nat → Addr, H' A = some (.lst ((List.range j).map fun i => V.ref (ea i))) ∧ ∀ i, i < j → H' (ea i) = some (.lst ((endsX ds hs h k i L').map V.int))) (fun A H1 nA e1 hA => ⟨e1, fun _ => 0, by rw [hA]; rfl, fun j hj => absurd hj (by omega)⟩) ?_ ?_
              · rintro A j H30 nA hj ⟨e30, ea, hA, hea⟩
                have hlfX := e30 _ _ hlf29
                have e2730 := e2729.trans e30
                walk_at "go"
                refine g_kLcL (SqL.of hlfX) (fun B i H' => Ex H30 H' ∧ H' B = some (.lst ((endsX ds hs h k j (L'.take i)).map V.int))) (fun B H1 nB e1 hB => ⟨e1, hB⟩) (fun B i H2 nB _ hP => SqL.of (hP.1 _ _ hlfX)) ?_ ?_
                · rintro B i x H41 nB hx ⟨e41, hB⟩
                  obtain ⟨dd, hdd, rfl⟩ : ∃ dd, L'[i]? = some dd ∧ x = .int dd := by
                    rw [List.getElem?_map] at hx
                    obtain ⟨dd, a1, a2⟩ := Option.map_eq_some_iff.mp hx
                    exact ⟨dd, a1, a2.symm⟩
                  obtain ⟨jj, hjj, rfl⟩ := days30_mem (hL3 dd (List.mem_of_getElem? hdd))
                  obtain ⟨aj, Rj⟩ := rgA H41 (e2730.trans e41) jj hjj
                  have hrl41 := (e2730.trans e41) _ _ hrl27
                  have hkj : k < (ds.set h (1 + (jj : Int))).length := by rw [List.length_set]; exact hk
                  walk_at "go"
                  rw [show 1 + (jj : Int) - 1 = (jj : Int) by omega]
                  refine g_ixL (SqL.of hrl41) (hat jj hjj) ?_
                  walk_at "go"
                  rename_i H42 e42
                  have hil := (List.getElem?_eq_some_iff.mp hdd).1
                  refine g_kLcE (e42 _ _ hB) (ltLine (by rw [List.length_map, endsX_len, List.length_take]; omega)) fun H43 e43 hB43 => ?_
                  refine ⟨Exb.ex nB (e41.trans e42) e43, ?_⟩
                  rw [hB43, endsX_succ hdd, List.map_append]
                  rfl
                · rintro B H41 nB ⟨e41, hB⟩
                  rw [List.length_map, List.take_length] at hB
                  have hA41 := e41 _ _ hA
                  have nBA : B ≠ A := Ne.symm (ne_of_none hA nB)
                  refine g_kLcE hA41 (ltLine (by rw [List.length_map, List.length_range]; omega)) fun H42 e42 hA42 => ?_
                  refine ⟨Exb.ex nA (e30.trans e41) e42, fun i => if i = j then B else ea i, ?_, fun i hi => ?_⟩
                  · rw [hA42, List.range_succ, List.map_append]
                    congr 3
                    · refine List.map_congr_left fun i hi => ?_
                      show V.ref (ea i) = V.ref (if i = j then B else ea i)
                      rw [if_neg (by have := List.mem_range.mp hi; omega)]
                    · show [V.ref B] = [V.ref (if j = j then B else ea j)]
                      rw [if_pos rfl]
                  · by_cases z : i = j
                    · subst z
                      show H42 (if i = i then B else ea i) = _
                      rw [if_pos rfl]
                      exact e42 _ _ nBA hB
                    · show H42 (if i = j then B else ea i) = _
                      rw [if_neg z]
                      have h1 := hea i (by omega)
                      refine e42 _ _ (fun z2 => ?_) (e41 _ _ h1)
                      rw [z2, hA] at h1
                      have h2 := HO.lst.inj (Option.some.inj h1)
                      have h3 : V.ref (ea 0) ∈ (endsX ds hs h k i L').map V.int := by
                        rw [← h2]
                        exact List.mem_map.mpr ⟨0, List.mem_range.mpr (by omega), rfl⟩
                      obtain ⟨y, _, hy⟩ := List.mem_map.mp h3
                      cases hy
              · rintro A H30 nA ⟨e30, ea, hA, hea⟩
                have h9 : ((9 : Int)).toNat = 9 := rfl
                rw [h9] at hA hea
                have w30 := w29.ex e30
                have e2730 := e2729.trans e30
                have ho30 := e2730 _ _ ho
                have ob30 := ob.kd (KD.of e2730) (e2730 _ _ ob.dct)
                have sz30 := sz.imp (H' := H30) fun _ _ => ex_t e2730
                walk_at "go"
                refine ⟨o, DD, r, a, b, pp, ds, hs, h, L', cA, zs1, k, n, rfl, ob30, hk, by omega, fun l31 ks H31 n31 kd31 hD31 hl31 hpw31 hme31 => ?_⟩
                have w31 := w30.kdo kd31 ⟨DD, pp, zs1, ob30, sz30, hD31⟩
                have ob31 := ob30.kd kd31 hD31
                have sz31 := sz30.imp (H' := H31) fun _ _ => kd31.t
                have hlfX := kd31.l (e30 _ _ hlf29)
                have hA31 := kd31.l hA
                have hea31 : ∀ i, i < 9 → H31 (ea i) = some (.lst ((endsX ds hs h k i L').map V.int)) := fun i hi => kd31.l (hea i hi)
                clear hrl27 rgA hA hea
                have hrl27 := w31.k10 rl _ nrd (ne_of hrl ho10 (by intro z; cases z)) nrs hrl (by intro _ z; cases z) (by intro _ _ z; cases z) (by intro _ z; cases z)
                have rgA : ∀ H', Ex H31 H' → ∀ j, j < 30 → ∃ a', RingIn K C H' (rg j) a' b (ds.set h (1 + (j : Int))) hs := fun H' e j hj => let ⟨a', R'⟩ := hrg j hj; ⟨a', (RingIn.kx w31.k10 D10 ho10 of6.m8 of6.m9 hsl10' R').ex e⟩
                walk_at "go"
                refine g_kLcL (SqL.of hlfX) (fun B i H' => Ex H31 H' ∧ H' B = some (.lst ((endsX ds hs h k n (L'.take i)).map V.int))) (fun B H1 nB e1 hB => ⟨e1, hB⟩) (fun B i H2 nB _ hP => SqL.of (hP.1 _ _ hlfX)) ?_ ?_
                · rintro B i x H41 nB hx ⟨e41, hB⟩
                  obtain ⟨dd, hdd, rfl⟩ : ∃ dd, L'[i]? = some dd ∧ x = .int dd := by
                    rw [List.getElem?_map] at hx
                    obtain ⟨dd, a1, a2⟩ := Option.map_eq_some_iff.mp hx
                    exact ⟨dd, a1, a2.symm⟩
                  obtain ⟨jj, hjj, rfl⟩ := days30_mem (hL3 dd (List.mem_of_getElem? hdd))
                  obtain ⟨aj, Rj⟩ := rgA H41 ((Ex.refl H31).trans e41) jj hjj
                  have hrl41 := ((Ex.refl H31).trans e41) _ _ hrl27
                  have hkj : k < (ds.set h (1 + (jj : Int))).length := by rw [List.length_set]; exact hk
                  walk_at "go"
                  rw [show 1 + (jj : Int) - 1 = (jj : Int) by omega]
                  refine g_ixL (SqL.of hrl41) (hat jj hjj) ?_
                  walk_at "go"
                  rename_i H42 e42
                  have hil := (List.getElem?_eq_some_iff.mp hdd).1
                  refine g_kLcE (e42 _ _ hB) (ltLine (by rw [List.length_map, endsX_len, List.length_take]; omega)) fun H43 e43 hB43 => ?_
                  refine ⟨Exb.ex nB (e41.trans e42) e43, ?_⟩
                  rw [hB43, endsX_succ hdd, List.map_append]
                  rfl
                · rintro B H41 nB ⟨e41, hB⟩
                  rw [List.length_map, List.take_length] at hB
                  walk_at "go"
                  refine g_setI (SqL.of hB) (by rw [endsX_len]; omega) fun S c H42 nS hc e42 hS => ?_
                  rw [endsX_len] at hc
                  walk_at "go"
                  refine g_sortSI hS (by omega) fun ks2 l43 H43 hp2 hm2 n43 e43 hl43 => ?_
                  have hks : ks = ks2 := pw_ext hpw31 hp2 fun x => (hme31 x).trans (hm2 x).symm
                  have e3143 := (e41.trans e42).trans e43
                  walk_at "go"
                  refine g_neLI (SqL.of (e3143 _ _ hl31)) (SqL.of hl43) ?_
                  rw [decide_eq_true hks]
                  have w43 := w31.ex e3143
                  have ob43 := ob31.kd (KD.of e3143) (e3143 _ _ hD31)
                  have sz43 := sz31.imp (H' := H43) fun _ _ => ex_t e3143
                  have hA43 := e3143 _ _ hA31
                  have hea43 : ∀ i, i < 9 → H43 (ea i) = some (.lst ((endsX ds hs h k i L').map V.int)) := fun i hi => e3143 _ _ (hea31 i hi)
                  have hlf43 := e3143 _ _ hlfX
                  have ho43 := e3143 _ _ (kd31.i ho30)
                  clear e41 e42 e43 hS hl43 nS n43 hp2 hm2 hks hme31 hpw31 hl31 n31 hB nB
                  walk_at "go"
                  refine g_kLcR1 (n := 9) ⟨by decide, by decide⟩ (fun T j H' => Ex H43 H' ∧ ∃ ms : List Nat, H' T = some (.lst ((List.map (fun m : Nat => (m : Int)) ms).map V.int)) ∧ ms.length ≤ j ∧ ms.Pairwise (· < ·) ∧ ∀ m, m ∈ ms ↔ m < j ∧ Tells ds hs h k L' m) (fun T H1 nT e1 hT => ⟨e1, [], by rw [hT]; rfl, Nat.le_refl _, .nil, fun m => by simp⟩) ?_ ?_
                  · rintro T j H44 nT hj ⟨e44, ms, hT, hml, hmp, hmm⟩
                    have hj9 : j < 9 := by omega
                    have hat9 : atI ((List.range 9).map fun i => V.ref (ea i)) (j : Int) = some (.ref (ea j)) := atI_nat (by rw [List.getElem?_map, List.getElem?_range hj9]; rfl)
                    have hA44 := e44 _ _ hA43
                    walk_at "go"
                    refine g_setI (SqL.of (e44 _ _ (hea43 j hj9))) (by rw [endsX_len]; omega) fun S c H45 nS hc e45 hS => ?_
                    rw [endsX_len] at hc
                    walk_at "go"
                    refine g_lenSI hS (by omega) fun hdc => ?_
                    have hlf45 := e45 _ _ (e44 _ _ hlf43)
                    walk_at "go"
                    by_cases z : c = L'.length
                    · rw [decide_eq_true (show (c : Int) = (L'.length : Int) by omega)]
                      walk_at "go"
                      rename_i H46 e46 hT46
                      refine ⟨Exb.ex nT (e44.trans e45) e46, ms ++ [j], ?_, ?_, ?_, fun m => ?_⟩
                      · rw [hT46, List.map_append, List.map_append]
                        rfl
                      · rw [List.length_append]
                        exact Nat.succ_le_succ hml
                      · exact List.pairwise_append.mpr ⟨hmp, List.pairwise_singleton .., fun x hx y hy => by rw [List.mem_singleton.mp hy]; exact ((hmm x).mp hx).1⟩
                      · rw [List.mem_append, List.mem_singleton, hmm m]
                        constructor
                        · rintro (⟨h1, h2⟩ | rfl)
                          · exact ⟨by omega, h2⟩
                          · exact ⟨by omega, by unfold Tells; rw [← z]; exact hdc⟩
                        · rintro ⟨h1, h2⟩
                          by_cases y : m = j
                          · exact .inr y
                          · exact .inl ⟨by omega, h2⟩
                    · rw [decide_eq_false (show ¬ (c : Int) = (L'.length : Int) by omega)]
                      walk_at "go"
                      refine ⟨e44.trans e45, ms, e45 _ _ hT, by omega, hmp, fun m => ?_⟩
                      rw [hmm m]
                      constructor
                      · rintro ⟨h1, h2⟩
                        exact ⟨by omega, h2⟩
                      · rintro ⟨h1, h2⟩
                        by_cases y : m = j
                        · subst y
                          exact absurd (hdc.inj h2) z
                        · exact ⟨by omega, h2⟩
                  · rintro T H44 nT ⟨e44, ms, hT, hml, hmp, hmm⟩
                    have h9b : ((9 : Int)).toNat = 9 := rfl
                    rw [h9b] at hml hmm
                    have w44 := w43.ex e44
                    have ob44 := ob43.kd (KD.of e44) (e44 _ _ (e3143 _ _ hD31))
                    have sz44 := sz43.imp (H' := H44) fun _ _ => ex_t e44
                    have ho44 := e44 _ _ ho43
                    walk_at "go"
                    refine ⟨o, DD, r, a, b, pp, ds, hs, h, L', cA, zs1, k, 8, rfl, ob44, hk, by decide, fun v H45 kd45 hD45 tv => ?_⟩
                    have w45 := w44.kdo kd45 ⟨DD, pp, zs1, ob44, sz44, hD45⟩
                    have hT45 := kd45.l hT
                    walk_at "go"
                    rename_i pe H46 npe e46 hpe
                    have hT46 := e46 _ _ hT45
                    have w46 := w45.ex e46
                    refine g_neLI (ys := []) (SqL.of hT46) (SqL.of hpe) ?_
                    rcases tv with ⟨m, rfl, hm8, hTm, hlt⟩ | ⟨rfl, hno⟩
                    · have hmem : m ∈ ms := (hmm m).mpr ⟨by omega, hTm⟩
                      cases ms with
                      | nil => cases hmem
                      | cons m0 ms =>
                        have h0 : m = m0 := by
                          have h1 := (hmm m0).mp List.mem_cons_self
                          have h2 : ¬ m0 < m := fun z => hlt m0 z h1.2
                          rcases List.mem_cons.mp hmem with z | z
                          · exact z
                          · have := (List.pairwise_cons.mp hmp).1 m z
                            omega
                        subst h0
                        rw [decide_eq_false (by intro z; cases z)]
                        walk_at "go"
                        refine g_ixL (v := .int (m : Int)) (SqL.of hT46) (show atI _ ((0 : Nat) : Int) = _ from atI_nat rfl) ?_
                        walk_at "go"
                        refine g_neX (.inr ⟨_, rfl⟩) ?_
                        walk_at "go"
                        exact ⟨L', sn', lf2, _, _, _, _, _, _, _, _, _, _, _, _, _, _, rfl, w46, hst'⟩
                    · cases ms with
                      | nil =>
                        rw [decide_eq_true (by rfl)]
                        walk_at "go"
                        refine g_neNon ?_
                        walk_at "go"
                        exact ⟨L', sn', lf2, _, _, _, _, _, _, _, _, _, _, _, _, _, _, rfl, w46, hst'⟩
                      | cons m0 ms =>
                        have h1 := (hmm m0).mp List.mem_cons_self
                        exact absurd h1.2 (hno m0 (by omega))
      · rintro σ H13 ⟨L, sn, lf', v10, v11, v12, v13, v14, v15, v16, v17, v18, v19, v20, v21, v22, v23, rfl, w13, hst⟩
        have RI13 := RingIn.kx w13.k6 D6 ho6 of6.m8 of6.m9 (.inl nsl6) (RI5.ex e6)
        obtain ⟨zs, hsz, sz⟩ := w13.seen
        obtain ⟨hlf, _, _⟩ := w13.lf
        walk_at "go"
        refine g_cm ?_
        walk_at "go"
        refine g_kCM ?_
        walk_at "go"
        refine ⟨r, a, b, sl, ds, hs, h, zs, sn, rfl, RI13, hh, hsz, sz.1, by omega, sz.2, w13.ok, w13.ne, fun o2' D2 p2 cA2 zs' H14 no2 kd ob2 => ?_⟩
        walk_at "go"
        obtain ⟨dx2, fs2, ho2, of2⟩ := ob2.obj
        refine ⟨o2', _, _, rfl, ho2, o2', D2, r, a, b, p2, ds, hs, h, _, cA2, zs', rfl, ob2, fun l H15 nl e15 hl => ?_⟩
        walk_at "go"
        refine g_eqLI (SqL.of hl) (SqL.of (e15 _ _ (kd.l hlf))) ?_
        rw [← w13.fold, decide_eq_true rfl]
        exact q _
end
end G48

namespace G48
open PySem PySem.Spec PyProof.Rows L2 Evl
theorem facts {P : Program} {w : World} {K : PySem.W.Frag} {h : Heap} {mg : Str → Option Value} {f : Addr} (X : K.In h) (G : h.Ns mainGlobals mg) (hfa : mg ("law" : Str) = some (.ref f)) (c0 : SaysL fasL fnL h K) :
    ∃ fd : FuncData, (∀ (s : Shared) (v : Value), BindsTo s fd ⟨[v], []⟩ [("_law_script", v)]) ∧ ∀ base : Heap, LamX.TabB base mg (lamC K) (lamT K) → FnOk P w K mg base CX0 13 f fd ["_law_script"] (sp_law K) := by
  have c := c0.1
  obtain ⟨fd, FL⟩ := c.def_ 30 (d := gd "law" s_law)
  have e := hfa.symm.trans (He.glo_ok X G (c.fact 55))
  cases e
  refine ⟨fd, fun s v => FunD.bindsA FL b_law s [v] rfl, fun base TB => ?_⟩
  have Z : Blt mg := ⟨He.free_ok X G (c.fact 0), He.free_ok X G (c.fact 1), He.free_ok X G (c.fact 2), He.free_ok X G (c.fact 3), He.free_ok X G (c.fact 4), He.free_ok X G (c.fact 5), He.free_ok X G (c.fact 6), He.free_ok X G (c.fact 7), He.free_ok X G (c.fact 8), He.free_ok X G (c.fact 9), He.free_ok X G (c.fact 10), He.free_ok X G (c.fact 11), He.free_ok X G (c.fact 12), He.free_ok X G (c.fact 13), He.free_ok X G (c.fact 14), He.free_ok X G (c.fact 15), He.free_ok X G (c.fact 16), He.free_ok X G (c.fact 17), He.free_ok X G (c.fact 18), He.free_ok X G (c.fact 19), He.free_ok X G (c.fact 20), He.free_ok X G (c.fact 21)⟩
  have G_is_integer : GFun K mg "is_integer" s_is_integer := let ⟨fd, F⟩ := c.def_ 0 (d := gd "is_integer" s_is_integer); ⟨_, fd, He.glo_ok X G (c.fact 22), Fun_ofD F⟩
  have G_check_number : GFun K mg "check_number" s_check_number := let ⟨fd, F⟩ := c.def_ 1 (d := gd "check_number" s_check_number); ⟨_, fd, He.glo_ok X G (c.fact 23), Fun_ofD F⟩
  have G_check_days : GFun K mg "check_days" s_check_days := let ⟨fd, F⟩ := c.def_ 2 (d := gd "check_days" s_check_days); ⟨_, fd, He.glo_ok X G (c.fact 24), Fun_ofD F⟩
  have G_check_starts : GFun K mg "check_starts" s_check_starts := let ⟨fd, F⟩ := c.def_ 3 (d := gd "check_starts" s_check_starts); ⟨_, fd, He.glo_ok X G (c.fact 25), Fun_ofD F⟩
  have G_Ring___init__ : IFun K mg "Ring" (He.ga K "Ring") "Ring.__init__" s_Ring___init__ := let ⟨fd, F⟩ := c.def_ 4 (d := md "Ring" "__init__" "Ring.__init__" s_Ring___init__); ⟨_, fd, He.mkr_ok (c.fact 26), He.glo_ok X G (c.fact 27), Fun_ofD F⟩
  have G_Ring_books : PFun K (He.ga K "Ring") "books" "Ring.books" s_Ring_books := let ⟨fd, F⟩ := c.def_ 5 (d := prd "Ring" "books" "Ring.books" s_Ring_books); let ⟨pA, hp⟩ := Gp.pp_ok (c.fact 28); ⟨pA, _, fd, hp, Fun_ofD F⟩
  have G_Ring___len__ : CFun K (He.ga K "Ring") "__len__" "Ring.__len__" s_Ring___len__ := let ⟨fd, F⟩ := c.def_ 6 (d := md "Ring" "__len__" "Ring.__len__" s_Ring___len__); ⟨_, fd, He.meth_ok (c.fact 29), Fun_ofD F⟩
  have G_Ring_need_reader : CFun K (He.ga K "Ring") "need_reader" "Ring.need_reader" s_Ring_need_reader := let ⟨fd, F⟩ := c.def_ 7 (d := md "Ring" "need_reader" "Ring.need_reader" s_Ring_need_reader); ⟨_, fd, He.meth_ok (c.fact 30), Fun_ofD F⟩
  have G_Ring_with_days : CFun K (He.ga K "Ring") "with_days" "Ring.with_days" s_Ring_with_days := let ⟨fd, F⟩ := c.def_ 8 (d := md "Ring" "with_days" "Ring.with_days" s_Ring_with_days); ⟨_, fd, He.meth_ok (c.fact 31), Fun_ofD F⟩
  have G__law_taken : GFun K mg "_law_taken" s__law_taken := let ⟨fd, F⟩ := c.def_ 9 (d := gd "_law_taken" s__law_taken); ⟨_, fd, He.glo_ok X G (c.fact 32), Fun_ofD F⟩
  have G__law_parts : GFun K mg "_law_parts" s__law_parts := let ⟨fd, F⟩ := c.def_ 10 (d := gd "_law_parts" s__law_parts); ⟨_, fd, He.glo_ok X G (c.fact 33), Fun_ofD F⟩
  have G_Course_next_row : CFun K (He.ga K "Course") "next_row" "Course.next_row" s_Course_next_row := let ⟨fd, F⟩ := c.def_ 11 (d := md "Course" "next_row" "Course.next_row" s_Course_next_row); ⟨_, fd, He.meth_ok (c.fact 34), Fun_ofD F⟩
  have G_Course_is_shifted : CFun K (He.ga K "Course") "is_shifted" "Course.is_shifted" s_Course_is_shifted := let ⟨fd, F⟩ := c.def_ 12 (d := md "Course" "is_shifted" "Course.is_shifted" s_Course_is_shifted); ⟨_, fd, He.meth_ok (c.fact 35), Fun_ofD F⟩
  have G_Course_is_settled : CFun K (He.ga K "Course") "is_settled" "Course.is_settled" s_Course_is_settled := let ⟨fd, F⟩ := c.def_ 13 (d := md "Course" "is_settled" "Course.is_settled" s_Course_is_settled); ⟨_, fd, He.meth_ok (c.fact 36), Fun_ofD F⟩
  have G_Course___init__ : IFun K mg "Course" (He.ga K "Course") "Course.__init__" s_Course___init__ := let ⟨fd, F⟩ := c.def_ 14 (d := md "Course" "__init__" "Course.__init__" s_Course___init__); ⟨_, fd, He.mkr_ok (c.fact 37), He.glo_ok X G (c.fact 38), Fun_ofD F⟩
  have G_Course_end : CFun K (He.ga K "Course") "end" "Course.end" s_Course_end := let ⟨fd, F⟩ := c.def_ 15 (d := md "Course" "end" "Course.end" s_Course_end); ⟨_, fd, He.meth_ok (c.fact 39), Fun_ofD F⟩
  have G_Ring_days : PFun K (He.ga K "Ring") "days" "Ring.days" s_Ring_days := let ⟨fd, F⟩ := c.def_ 16 (d := prd "Ring" "days" "Ring.days" s_Ring_days); let ⟨pA, hp⟩ := Gp.pp_ok (c.fact 40); ⟨pA, _, fd, hp, Fun_ofD F⟩
  have G_Ring_starts : PFun K (He.ga K "Ring") "starts" "Ring.starts" s_Ring_starts := let ⟨fd, F⟩ := c.def_ 17 (d := prd "Ring" "starts" "Ring.starts" s_Ring_starts); let ⟨pA, hp⟩ := Gp.pp_ok (c.fact 41); ⟨pA, _, fd, hp, Fun_ofD F⟩
  have G_Ring___getitem__ : CFun K (He.ga K "Ring") "__getitem__" "Ring.__getitem__" s_Ring___getitem__ := let ⟨fd, F⟩ := c.def_ 18 (d := md "Ring" "__getitem__" "Ring.__getitem__" s_Ring___getitem__); ⟨_, fd, He.meth_ok (c.fact 42), Fun_ofD F⟩
  have G_Ring___call__ : CFun K (He.ga K "Ring") "__call__" "Ring.__call__" s_Ring___call__ := let ⟨fd, F⟩ := c.def_ 19 (d := md "Ring" "__call__" "Ring.__call__" s_Ring___call__); ⟨_, fd, He.meth_ok (c.fact 43), Fun_ofD F⟩
  have G__law_raised : GFun K mg "_law_raised" s__law_raised := let ⟨fd, F⟩ := c.def_ 20 (d := gd "_law_raised" s__law_raised); ⟨_, fd, He.glo_ok X G (c.fact 44), Fun_ofD F⟩
  have G_DaysObserver_accept : CFun K (He.ga K "DaysObserver") "accept" "DaysObserver.accept" s_DaysObserver_accept := let ⟨fd, F⟩ := c.def_ 21 (d := md "DaysObserver" "accept" "DaysObserver.accept" s_DaysObserver_accept); ⟨_, fd, He.meth_ok (c.fact 45), Fun_ofD F⟩
  have G_DaysObserver_see_open : CFun K (He.ga K "DaysObserver") "see_open" "DaysObserver.see_open" s_DaysObserver_see_open := let ⟨fd, F⟩ := c.def_ 22 (d := md "DaysObserver" "see_open" "DaysObserver.see_open" s_DaysObserver_see_open); ⟨_, fd, He.meth_ok (c.fact 46), Fun_ofD F⟩
  have G_DaysObserver_see_end : CFun K (He.ga K "DaysObserver") "see_end" "DaysObserver.see_end" s_DaysObserver_see_end := let ⟨fd, F⟩ := c.def_ 23 (d := md "DaysObserver" "see_end" "DaysObserver.see_end" s_DaysObserver_see_end); ⟨_, fd, He.meth_ok (c.fact 47), Fun_ofD F⟩
  have G_DaysObserver___init__ : IFun K mg "DaysObserver" (He.ga K "DaysObserver") "DaysObserver.__init__" s_DaysObserver___init__ := let ⟨fd, F⟩ := c.def_ 24 (d := md "DaysObserver" "__init__" "DaysObserver.__init__" s_DaysObserver___init__); ⟨_, fd, He.mkr_ok (c.fact 48), He.glo_ok X G (c.fact 49), Fun_ofD F⟩
  have G_DaysObserver_possible_days : PFun K (He.ga K "DaysObserver") "possible_days" "DaysObserver.possible_days" s_DaysObserver_possible_days := let ⟨fd, F⟩ := c.def_ 25 (d := prd "DaysObserver" "possible_days" "DaysObserver.possible_days" s_DaysObserver_possible_days); let ⟨pA, hp⟩ := Gp.pp_ok (c.fact 50); ⟨pA, _, fd, hp, Fun_ofD F⟩
  have G_DaysObserver_observations : PFun K (He.ga K "DaysObserver") "observations" "DaysObserver.observations" s_DaysObserver_observations := let ⟨fd, F⟩ := c.def_ 26 (d := prd "DaysObserver" "observations" "DaysObserver.observations" s_DaysObserver_observations); let ⟨pA, hp⟩ := Gp.pp_ok (c.fact 51); ⟨pA, _, fd, hp, Fun_ofD F⟩
  have G_DaysObserver_possible_ends : CFun K (He.ga K "DaysObserver") "possible_ends" "DaysObserver.possible_ends" s_DaysObserver_possible_ends := let ⟨fd, F⟩ := c.def_ 27 (d := md "DaysObserver" "possible_ends" "DaysObserver.possible_ends" s_DaysObserver_possible_ends); ⟨_, fd, He.meth_ok (c.fact 52), Fun_ofD F⟩
  have G_DaysObserver_telling_number : CFun K (He.ga K "DaysObserver") "telling_number" "DaysObserver.telling_number" s_DaysObserver_telling_number := let ⟨fd, F⟩ := c.def_ 28 (d := md "DaysObserver" "telling_number" "DaysObserver.telling_number" s_DaysObserver_telling_number); ⟨_, fd, He.meth_ok (c.fact 53), Fun_ofD F⟩
  have G_DaysObserver_from_log : SFun K (He.ga K "DaysObserver") "from_log" "DaysObserver.from_log" s_DaysObserver_from_log := let ⟨fd, F⟩ := c.def_ 29 (d := cmd "DaysObserver" "from_log" "DaysObserver.from_log" s_DaysObserver_from_log); ⟨cm_ok (c.fact 54), fd, Fun_ofD F⟩
  have R : RingC K (He.ga K "Ring") := ⟨He.cls_ok (c.fact 56), He.noat_ok (c.fact 57), He.noat_ok (c.fact 58), He.noat_ok (c.fact 59)⟩
  have RC : CourseC K (He.ga K "Course") := ⟨He.cls_ok (c.fact 60), He.noat_ok (c.fact 61), He.noat_ok (c.fact 62), He.noat_ok (c.fact 63), He.noat_ok (c.fact 64), He.noat_ok (c.fact 65), He.noat_ok (c.fact 66)⟩
  have RO : ObsC K (He.ga K "DaysObserver") := ⟨He.cls_ok (c.fact 67), He.noat_ok (c.fact 68), He.noat_ok (c.fact 69), He.noat_ok (c.fact 70)⟩
  have c_MAX_READERS : ∃ t, mg "MAX_READERS" = some (.int 8 t) := He.int_ok X G (c.fact 71)
  have c_MAX_DAYS : ∃ t, mg "MAX_DAYS" = some (.int 30 t) := He.int_ok X G (c.fact 72)
  have c_MAX_BOOKS : ∃ t, mg "MAX_BOOKS" = some (.int 12 t) := He.int_ok X G (c.fact 73)
  have c_MAX_NUMBER : ∃ t, mg "MAX_NUMBER" = some (.int 1000000000000000000 t) := He.int_ok X G (c.fact 74)
  have g_ReadingError : mg "ReadingError" = some (.ref (He.ga K "ReadingError")) := He.glo_ok X G (c.fact 75)
  have g_BeingRead : mg "BeingRead" = some (.ref (He.ga K "BeingRead")) := He.glo_ok X G (c.fact 76)
  have g_InvalidNumber : mg "InvalidNumber" = some (.ref (He.ga K "InvalidNumber")) := He.glo_ok X G (c.fact 77)
  have g_UnknownBook : mg "UnknownBook" = some (.ref (He.ga K "UnknownBook")) := He.glo_ok X G (c.fact 78)
  have g_Contradiction : mg "Contradiction" = some (.ref (He.ga K "Contradiction")) := He.glo_ok X G (c.fact 79)
  have g_InvalidOperation : mg "InvalidOperation" = some (.ref (He.ga K "InvalidOperation")) := He.glo_ok X G (c.fact 80)
  have g_DiaryError : mg "DiaryError" = some (.ref (He.ga K "DiaryError")) := He.glo_ok X G (c.fact 81)
  have Exr_Contradiction : ExcR K (He.ga K "Contradiction") 3 := excR_ok (c.fact 82)
  have c_MAX_ENTRIES : ∃ t, mg "MAX_ENTRIES" = some (.int 500 t) := He.int_ok X G (c.fact 83)
  have g_DaysObserver : mg "DaysObserver" = some (.ref (He.ga K "DaysObserver")) := He.glo_ok X G (c.fact 49)
  have D_is_integer := ok_is_integer (P := P) (w := w) (base := base) Z G_is_integer
  have D_check_number := ok_check_number (P := P) (w := w) (base := base) Z D_is_integer G_check_number
  have D_check_days := ok_check_days (P := P) (w := w) (base := base) Z c_MAX_READERS c_MAX_DAYS D_is_integer G_check_days
  have D_check_starts := ok_check_starts (P := P) (w := w) (base := base) Z c_MAX_BOOKS D_is_integer G_check_starts
  have I_Ring := ok_Ring_init (P := P) (w := w) (base := base) (C := He.ga K "Ring") Z R D_check_days D_check_starts G_Ring___init__
  have Q_Ring_books := ok_Ring_books (P := P) (w := w) (base := base) (C := He.ga K "Ring") Z R G_Ring_books
  have M_Ring___len__ := ok_Ring_len (P := P) (w := w) (base := base) (C := He.ga K "Ring") Z R G_Ring___len__
  have M_Ring_need_reader := ok_Ring_need (P := P) (w := w) (base := base) (C := He.ga K "Ring") Z R D_is_integer G_Ring_need_reader
  have M_Ring_with_days := ok_Ring_with (P := P) (w := w) (base := base) (C := He.ga K "Ring") Z R M_Ring_need_reader I_Ring G_Ring_with_days
  have D__law_taken := ok_taken (P := P) (w := w) (base := base) Z G__law_taken
  have D__law_parts := ok_parts (P := P) (w := w) (base := base) Z D__law_taken G__law_parts
  have M_Course_next_row := ok_next_row (P := P) (w := w) (base := base) (C := He.ga K "Ring") (CC := He.ga K "Course") Z R RC G_Course_next_row
  have M_Course_is_shifted := ok_is_shifted (P := P) (w := w) (base := base) (C := He.ga K "Ring") (CC := He.ga K "Course") Z RC G_Course_is_shifted
  have M_Course_is_settled := ok_is_settled (P := P) (w := w) (base := base) (C := He.ga K "Ring") (CC := He.ga K "Course") Z R RC M_Course_is_shifted G_Course_is_settled
  have I_Course := ok_Course_init (P := P) (w := w) (base := base) (C := He.ga K "Ring") (CC := He.ga K "Course") Z R RC M_Course_is_settled M_Course_is_shifted M_Course_next_row G_Course___init__
  have M_Course_end := ok_Course_end (P := P) (w := w) (base := base) (C := He.ga K "Ring") (CC := He.ga K "Course") Z RC G_Course_end
  have Q_Ring_days := ok_Ring_days (P := P) (w := w) (base := base) (C := He.ga K "Ring") Z R G_Ring_days
  have Q_Ring_starts := ok_Ring_starts (P := P) (w := w) (base := base) (C := He.ga K "Ring") Z R G_Ring_starts
  have F_Ring___getitem__ := ok_Ring_get (P := P) (w := w) (base := base) (C := He.ga K "Ring") Z R D_is_integer G_Ring___getitem__
  have F_Ring___call__ := ok_Ring_call (P := P) (w := w) (base := base) (C := He.ga K "Ring") (CC := He.ga K "Course") Z R RC c_MAX_NUMBER M_Ring_need_reader D_check_number I_Course M_Course_end G_Ring___call__
  have T__law_raised := ok_raised (P := P) (w := w) (base := base) Z g_ReadingError g_BeingRead g_InvalidNumber g_UnknownBook g_Contradiction g_InvalidOperation g_DiaryError
  have MX_DaysObserver_accept := okx_accept (P := P) (w := w) (base := base) (OC := He.ga K "DaysObserver") Z RO Exr_Contradiction g_Contradiction G_DaysObserver_accept
  have M_DaysObserver_accept := MX_DaysObserver_accept
  have MX_DaysObserver_see_open := okx_see_open (P := P) (w := w) (base := base) (C := He.ga K "Ring") (CC := He.ga K "Course") (OC := He.ga K "DaysObserver") Z R RC RO c_MAX_NUMBER M_Ring_need_reader D_check_number M_Course_end MX_DaysObserver_accept G_DaysObserver_see_open
  have M_DaysObserver_see_open := MX_DaysObserver_see_open
  have MX_DaysObserver_see_end := okx_see_end (P := P) (w := w) (base := base) (C := He.ga K "Ring") (CC := He.ga K "Course") (OC := He.ga K "DaysObserver") Z R RC RO c_MAX_NUMBER M_Ring_need_reader D_check_number D_is_integer M_Course_end MX_DaysObserver_accept G_DaysObserver_see_end
  have M_DaysObserver_see_end := MX_DaysObserver_see_end
  have I_DaysObserver := ok_Obs_init (P := P) (w := w) (base := base) (C := He.ga K "Ring") (CC := He.ga K "Course") (OC := He.ga K "DaysObserver") Z R RC RO c_MAX_DAYS M_Ring_need_reader M_Ring_with_days I_Course G_DaysObserver___init__
  have Q_DaysObserver_possible_days := ok_possible (P := P) (w := w) (base := base) (C := He.ga K "Ring") (CC := He.ga K "Course") (OC := He.ga K "DaysObserver") Z RO G_DaysObserver_possible_days
  have Q_DaysObserver_observations := ok_observations (P := P) (w := w) (base := base) (C := He.ga K "Ring") (CC := He.ga K "Course") (OC := He.ga K "DaysObserver") Z RO G_DaysObserver_observations
  have M_DaysObserver_possible_ends := ok_ends (P := P) (w := w) (base := base) (C := He.ga K "Ring") (CC := He.ga K "Course") (OC := He.ga K "DaysObserver") Z R RC RO c_MAX_NUMBER M_Ring_need_reader D_check_number M_Course_end G_DaysObserver_possible_ends
  have M_DaysObserver_telling_number := ok_tell (P := P) (w := w) (base := base) (C := He.ga K "Ring") (CC := He.ga K "Course") (OC := He.ga K "DaysObserver") Z R RC RO c_MAX_ENTRIES M_Ring_need_reader D_check_number M_DaysObserver_possible_ends G_DaysObserver_telling_number
  have S_DaysObserver_from_log := ok_from (P := P) (w := w) (base := base) (C := He.ga K "Ring") (CC := He.ga K "Course") (OC := He.ga K "DaysObserver") Z R RO I_DaysObserver M_DaysObserver_see_end M_DaysObserver_see_open G_DaysObserver_from_log
  exact fn_lam (st := s_law) (Fun_ofD FL) sc_law (fun vs H Q E h => sp_law_len h) (bd_law (P := P) (w := w) (base := base) Z R RO G__law_raised T__law_raised Exr_Contradiction D__law_taken D__law_parts I_Ring M_Ring_with_days F_Ring___call__ I_DaysObserver MX_DaysObserver_see_end MX_DaysObserver_see_open Q_DaysObserver_possible_days Q_DaysObserver_observations M_DaysObserver_possible_ends M_DaysObserver_telling_number S_DaysObserver_from_log g_DaysObserver) TB
end G48
open PySem PySem.W PySem.Calls PyProof.Rows
theorem PySem.Challenge.cw_readingring_k58_whole_observers_by_all_d_holds : PySem.Challenge.rw_readingring_k58_whole_observers_by_all_d.Holds := by
  w_on; o_law
  refine HandSHeadRun.head_any (r := OpenLaw.row PySem.Challenge.rw_readingring_k58_whole_observers_by_all_d) (q := view (OpenLaw.row PySem.Challenge.rw_readingring_k58_whole_observers_by_all_d).prog [29]) (H := G48.hk) (ob := G48.ob) (M := 40000) (loose := G48.loose) (d := HandSHeadRun.topDef (OpenLaw.row PySem.Challenge.rw_readingring_k58_whole_observers_by_all_d).prog 29) (kwd := []) G48.ob_eq
    (by kernel_rfl) (fun s => by kernel_rfl) G48.run (by kernel_rfl) (by kernel_rfl) (by kernel_rfl) (by rfl) (by first | assumption | decide +kernel) (by decide +kernel) ⟨rfl, rfl, rfl, rfl, rfl, by decide +kernel⟩ ?hw ?hc
  case hw => w_witness2
  case hc =>
    refine G48.walk_lam (l := PySem.Challenge.rw_readingring_k58_whole_observers_by_all_d) (n := 63) (k := 13) (x := "_law_script") rfl (by decide) (by kernel_rfl) ⟨rfl, by decide, by decide⟩ ?F
    intro w mg fa h Y G hmg0
    obtain ⟨K, KX, c⟩ := Y
    have hmg : mg ("law" : PySem.Str) = some (.ref fa) := by
      have e : (HandSHeadRun.topDef (OpenLaw.row PySem.Challenge.rw_readingring_k58_whole_observers_by_all_d).prog 29).name = ("law" : PySem.Str) := by kernel_rfl
      rw [← e]
      exact hmg0
    obtain ⟨fd, hb, hF⟩ := G48.facts (P := (PySem.Challenge.rw_readingring_k58_whole_observers_by_all_d).prog) (w := w) KX G hmg c
    exact ⟨K, KX, fd, G48.lamC K, G48.lamT K, G48.sp_law K, c.2.2.2, c.2.2.1, PySem.W.codeHd_of_K KX c.2.1, hb, fun H a ns hl hT hS => ⟨a, ns, rfl, hS, hl, hT, fun _ => rfl⟩, fun base _ _ TB => hF base TB⟩
