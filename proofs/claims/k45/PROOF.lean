import PyProof.Rows.All
import Wide.All
import OpenK.AllK
import Wide.FinOn
import HandS.ForMost
import HandS.ForExc
import HandS.Evl
import HandS.Property
import HandS.IsInst
import HandS.TupAny
import HandS.Flow
import HandS.Zip
import HandS.Conv
import HandS.Defaults
import HandS.Head0
import HandS.Head1
import HandS.Head2
import HandS.HeadEnd
import HandS.HeadHook1
import HandS.HeadHook2
import HandS.HeadNt
import HandS.TupMul
import HandS.TupLe
import HandS.Strs
import HandS.Walk
import KE.GoesEnum
import KE.GoesMore
import KE.DatumOrd
import HandS.Deep
import HandS.OwnEq
import KE.KTupSum
import PyProof.RulesMatchSeq
import PyProof.Rows.MatchSeqLen
import KE.KDflt
import HandS.Lambda
import HandS.ExcIs
import HandS.ExcOwn
import HandS.WordsExc
import HandS.EndTab
import HandS.HeadHook4
import HandS.ExcInit
import HandS.ExcField
import HandS.FStr
import KE.KExcIs
import KE.KOpsOwn
import HandS.ClsMeth
import KE.GoesNew
import HandS.Style
import HandS.More
import HandS.Text
import HandS.Codes
import KE.KItemsList
import KE.KxField
import HandS.Star
import HandS.NoneIn
import PyProof.InstNe
import PySem.Challenge.RW_readingring_k45_text_and_bytes
set_option Elab.async false
set_option linter.all false
set_option maxRecDepth 100000
set_option maxHeartbeats 2000000
/-! a Hook whose facts are any Bools of the part of the heap -/
namespace Gp
open PySem PySem.W PySem.Spec PyProof.Rows He5
abbrev FB : Type := Frag → Bool
def obsP (fas : List FB) (fn : List DefA) (K : Frag) : He.AlD := ((fas.all fun f => f K) && fn.all fun d => d.ok K, fn.map fun d => fnA K (d.at_ K))
def SaysP (fas : List FB) (fn : List DefA) (K : Frag) : Prop := obsP fas fn K = valA fn
def obsPG (n : Nat) (fas : List FB) (fn : List DefA) (g : Addr → Option Obj) : He.AlD := obsP fas fn (He.frG g (asA g n))
def hookP (n : Nat) (fas : List FB) (fn : List DefA) : Hook where
  α := He.AlD
  obs := fun s => obsPG n fas fn s.heap.get?
  val := fun _ => valA fn
  says := fun _ h => ∃ K : Frag, K.In h ∧ SaysP fas fn K
  of := fun _ _ e => ⟨_, He.frG_in, e⟩
  keeps := fun _ _ _ ⟨K, hK, c⟩ k => ⟨K, Frag.In.keeps hK k, c⟩
theorem obsPG_eq {n : Nat} {fas : List FB} {fn : List DefA} {g : Addr → Option Obj} {s : Shared} (h : ∀ a, g a = s.heap.get? a) : obsPG n fas fn g = (hookP n fas fn).obs s := by
  have e : g = s.heap.get? := funext h
  rw [e] <;> rfl
section
variable {fas : List FB} {fn : List DefA} {K : Frag}
theorem SaysP.fact (c : SaysP fas fn K) (i : Nat) {f : FB} (h : fas[i]? = some f := by rfl) : f K = true := by
  have c1 := (He.ba (show ((fas.all fun f => f K) && fn.all fun d => d.ok K) = true from congrArg (fun z : He.AlD => z.1) c)).1
  exact List.all_eq_true.mp c1 f (List.mem_of_getElem? h)
theorem SaysP.def_ (c : SaysP fas fn K) (i : Nat) {d : DefA} (h : fn[i]? = some d := by rfl) : ∃ fd, L2.FunD K d.name d.qual d.params d.body d.scope (d.dvs K) (d.kws K) (d.at_ K) fd := by
  have c2 := (He.ba (show ((fas.all fun f => f K) && fn.all fun d => d.ok K) = true from congrArg (fun z : He.AlD => z.1) c)).2
  have e : fn.map (fun d => fnA K (d.at_ K)) = fn.map DefA.val := congrArg (fun z : He.AlD => z.2) c
  have e2 : (fn.map fun d => fnA K (d.at_ K))[i]? = (fn.map DefA.val)[i]? := by rw [e]
  rw [List.getElem?_map, List.getElem?_map, h] at e2
  exact DefA.funD (Option.some.inj e2) (List.all_eq_true.mp c2 d (List.mem_of_getElem? h))
end
/-- a property's getter -/
def pga (K : Frag) (C : Addr) (m : PySem.Str) : Addr := match findIn K (.ref C) m with
  | some (some (.ref p)) => (match recIn K p "property" with
    | some (.ref g :: _) => g
    | _ => 0)
  | _ => 0
def ppB (K : Frag) (C : Addr) (m : PySem.Str) : Bool := match findIn K (.ref C) m with
  | some (some (.ref p)) => decide (specialIn K (.ref p) "__get__" = some (some (.builtin "property.__get__"))) && (decide (takesIn K (.ref p) = some true) && (match recIn K p "property" with
    | some (.ref _ :: _) => true
    | _ => false))
  | _ => false
theorem pp_ok {K : Frag} {C : Addr} {m : PySem.Str} (h : ppB K C m = true) : ∃ p, L2.PropOf K C m p (pga K C m) := by
  unfold ppB at h
  unfold pga
  split at h
  · rename_i p hp
    obtain ⟨h1, h2⟩ := He.ba h
    obtain ⟨h2, h3⟩ := He.ba h2
    split at h3
    · rename_i g rest hr
      refine ⟨p, hp, of_decide_eq_true h1, of_decide_eq_true h2, rest, ?_⟩
      exact hr
    · cases h3
  · cases h
end Gp
theorem Fun_ofD {K : PySem.W.Frag} {x q : PySem.Str} {st : PySem.Stmt} {f : PySem.Addr} {fd : PySem.FuncData} (F : L2.FunD K x q (L2.defArgs st) (L2.defBody st) (L2.defScope st) [] [] f fd) : L2.Fun K x q st f fd := by
  obtain ⟨oc, od, dV, kV, doc, pm, an, cdv, ct, osl, rfl, lk, hcd, hD, hK⟩ := F.ex
  rcases hD with ⟨_, rfl⟩ | ⟨e, _⟩
  · exact ⟨⟨oc, od, kV, doc, pm, an, cdv, ct, osl, rfl, lk, hcd⟩, F.kp⟩
  · exact absurd rfl e
namespace G48
open PySem PySem.Spec PyProof.Rows L2 Evl
/-! ### the built-ins that stand -/
structure Blt (mg : Str → Option Value) : Prop where
  zlen : mg "len" = none
  zisinstance : mg "isinstance" = none
  zint : mg "int" = none
  zbool : mg "bool" = none
  ztuple : mg "tuple" = none
  zlist : mg "list" = none
  zmax : mg "max" = none
  zmin : mg "min" = none
  zsum : mg "sum" = none
  zrange : mg "range" = none
  zenumerate : mg "enumerate" = none
  zzip : mg "zip" = none
  zall : mg "all" = none
  zany : mg "any" = none
  zsorted : mg "sorted" = none
  zstr : mg "str" = none
  zset : mg "set" = none
  zabs : mg "abs" = none
  zdivmod : mg "divmod" = none
  zbytes : mg "bytes" = none
  zdict : mg "dict" = none
  zValueError : mg "ValueError" = none

/-! ### defs that stand, and defs that keep a promise -/
structure GFun (K : PySem.W.Frag) (mg : Str → Option Value) (x : Str) (st : Stmt) : Prop where
  ex : ∃ f fd, mg x = some (.ref f) ∧ Fun K x x st f fd
structure CFun (K : PySem.W.Frag) (C : Addr) (m q : Str) (st : Stmt) : Prop where
  ex : ∃ f fd, Meth K C m f ∧ Fun K m q st f fd
structure PFun (K : PySem.W.Frag) (C : Addr) (m q : Str) (st : Stmt) : Prop where
  ex : ∃ p f fd, PropOf K C m p f ∧ Fun K m q st f fd
structure IFun (K : PySem.W.Frag) (mg : Str → Option Value) (x : Str) (C : Addr) (q : Str) (st : Stmt) : Prop where
  ex : ∃ f fd, Mk K C f ∧ mg x = some (.ref C) ∧ Fun K "__init__" q st f fd

section
variable (P : Program) (w : World) (K : PySem.W.Frag) (mg : Str → Option Value) (base : Heap)
structure Df (k : Nat) (x : Str) (ps : List Str) (sp : Sp) : Prop where
  ex : ∃ f fd, mg x = some (.ref f) ∧ PySem.W.keepIn K (.ref f) = true ∧ Binds K fd ps [] ∧ FnOk P w K mg base (L2.CX P w) k f fd ps sp
structure Mf (C : Addr) (k : Nat) (m : Str) (ps : List Str) (sp : Sp) : Prop where
  ex : ∃ f fd, Meth K C m f ∧ Binds K fd ps [] ∧ FnOk P w K mg base (L2.CX P w) k f fd ps sp
structure Pf (C : Addr) (k : Nat) (m : Str) (ps : List Str) (sp : Sp) : Prop where
  ex : ∃ p f fd, PropOf K C m p f ∧ Binds K fd ps [] ∧ FnOk P w K mg base (L2.CX P w) k f fd ps sp
structure If (x : Str) (C : Addr) (k : Nat) (ps : List Str) (sp : Sp) : Prop where
  ex : ∃ f fd, Mk K C f ∧ mg x = some (.ref C) ∧ Binds K fd ps [] ∧ FnOk P w K mg base (L2.CX P w) k f fd ps sp
end

section
variable {P : Program} {w : World} {K : PySem.W.Frag} {mg : Str → Option Value} {base : Heap}
/-- the body's question -/
abbrev Body (P : Program) (w : World) (K : PySem.W.Frag) (mg : Str → Option Value) (base : Heap) (qual : Str) (N : List Str) (st : Stmt) (f : Addr) (k : Nat) (sp : Sp) : Prop :=
  ∀ (cdv : Value) (A : Around) (outer : List Env) (s : Shared) (H : Hp) (vs : List V) (Q : VK) (E : XK), Room k (A.deeper (envOfC qual (defScope st) s.heap.objs.size f cdv)) → sp vs H Q E →
      ∃ t, PSs (cxOf (L2.CX P w) P w K mg base N qual (defScope st) f cdv A outer s H E) (defBody st) t ∧ t { nx := fun _ H' => Q .non H', rt := Q } (start N vs) H
abbrev BindL (q x : Str) (st : Stmt) (ps : List Str) : Prop := ∀ (kV doc pm : Value) (an : Option Addr) (cdv ct : Value) (us : List Value), us.length = ps.length → bindArgs (PySem.W.fnOf x q (defArgs st) (defBody st) (defScope st) .none kV doc pm an cdv ct) ⟨us, []⟩ = pure (ps.zip us)
theorem Df.of {x : Str} {st : Stmt} {N ps : List Str} {k : Nat} {sp : Sp} (G : GFun K mg x st) (S : FnScope N ps (defScope st)) (hb : BindL x x st ps)
    (len : ∀ vs H Q E, sp vs H Q E → vs.length = ps.length) (body : ∀ f, Body P w K mg base x N st f k sp) : Df P w K mg base (k + 1) x ps sp := by
  obtain ⟨f, fd, hg, F⟩ := G.ex
  exact ⟨f, fd, hg, F.kp, F.binds hb, F.okX S len (body f)⟩
theorem Mf.of {C : Addr} {m q : Str} {st : Stmt} {N ps : List Str} {k : Nat} {sp : Sp} (G : CFun K C m q st) (S : FnScope N ps (defScope st)) (hb : BindL q m st ps)
    (len : ∀ vs H Q E, sp vs H Q E → vs.length = ps.length) (body : ∀ f, Body P w K mg base q N st f k sp) : Mf P w K mg base C (k + 1) m ps sp := by
  obtain ⟨f, fd, hg, F⟩ := G.ex
  exact ⟨f, fd, hg, F.binds hb, F.okX S len (body f)⟩
theorem Pf.of {C : Addr} {m q : Str} {st : Stmt} {N ps : List Str} {k : Nat} {sp : Sp} (G : PFun K C m q st) (S : FnScope N ps (defScope st)) (hb : BindL q m st ps)
    (len : ∀ vs H Q E, sp vs H Q E → vs.length = ps.length) (body : ∀ f, Body P w K mg base q N st f k sp) : Pf P w K mg base C (k + 1) m ps sp := by
  obtain ⟨p, f, fd, hg, F⟩ := G.ex
  exact ⟨p, f, fd, hg, F.binds hb, F.okX S len (body f)⟩
theorem If.of {C : Addr} {x q : Str} {st : Stmt} {N ps : List Str} {k : Nat} {sp : Sp} (G : IFun K mg x C q st) (S : FnScope N ps (defScope st)) (hb : BindL q "__init__" st ps)
    (len : ∀ vs H Q E, sp vs H Q E → vs.length = ps.length) (body : ∀ f, Body P w K mg base q N st f k sp) : If P w K mg base x C (k + 1) ps sp := by
  obtain ⟨f, fd, hg, hm, F⟩ := G.ex
  exact ⟨f, fd, hg, hm, F.binds hb, F.okX S len (body f)⟩
end
section
variable {X : Cx} {k j : Nat} {x : Str} {ps : List Str} {sp : Sp} {E : XK} {p pos apos : Pos} {e o : Expr} {es : List Expr} {t : TA} {ta : TE} {C : Addr} {m : Str}
/-- f(e, ..), f a def of the text, raising as E says -/
theorem pg (D : Df X.prog X.w X.K X.mg X.base k x ps sp) (hr : Room j X.A) (ha : PA X (e :: es) t) (hx : Passes (L2.CX X.prog X.w) X E := by exact passL) (hk : k ≤ j := by decide) (hg : Gl X x := by rfl)
    (hd : (x == ("__debug__" : Str)) = false := by decide) (he : starEach (e :: es) X.env = (false, eval e X.env) :: starEach es X.env := by rfl) (hpl : (backTo pos (starEach es X.env)).any (·.1) = false := by rfl) :
    PE X (.Call (.Name x p) (e :: es) [] pos) (tCall sp [] E t) := by
  obtain ⟨f, fd, hm, kp, b, F⟩ := D.ex
  exact pe_call F (hr.mono hk) hg hm kp b .nil hx ha hd he hpl
theorem pg0 (D : Df X.prog X.w X.K X.mg X.base k x ps sp) (hr : Room j X.A) (hx : Passes (L2.CX X.prog X.w) X E := by exact passL) (hk : k ≤ j := by decide) (hg : Gl X x := by rfl)
    (hd : (x == ("__debug__" : Str)) = false := by decide) : PE X (.Call (.Name x p) [] [] pos) (tCall sp [] E tNil) := by
  obtain ⟨f, fd, hm, kp, b, F⟩ := D.ex
  exact pe_call0 F (hr.mono hk) hg hm kp b .nil hx hd
/-- o.m(e, ..), o.m() -/
theorem pm {pl : Sem Bool} (ho : PE X o ta) (c : Cls X.K C) (D : Mf X.prog X.w X.K X.mg X.base C k m ps sp) (hr : Room j X.A) (ha : PA X (e :: es) t) (hx : Passes (L2.CX X.prog X.w) X E := by exact passL) (hk : k ≤ j := by decide)
    (hst : starEach (e :: es) X.env = (false, eval e X.env) :: starEach es X.env := by rfl) (hpl : (backTo pos (starEach es X.env)).any (·.1) = false := by rfl)
    (ht : eval (.Call (.Attribute o m apos) (e :: es) [] pos) X.env = (do
      let ov ← eval o X.env
      standAt apos.atName
      let (f, first) ← holding [ov] (getMethod ov m pl)
      callWith pos f first (backTo pos (starEach (e :: es) X.env)) (backToKw pos (keywordEach [] X.env))) := by rfl) :
    PE X (.Call (.Attribute o m apos) (e :: es) [] pos) (tMeth C m sp [] E ta t) := by
  obtain ⟨f, fd, hm, b, F⟩ := D.ex
  exact pe_meth ho c hm F (hr.mono hk) b .nil hx ha hst hpl ht
theorem pm0 {pl : Sem Bool} (ho : PE X o ta) (c : Cls X.K C) (D : Mf X.prog X.w X.K X.mg X.base C k m ps sp) (hr : Room j X.A) (hx : Passes (L2.CX X.prog X.w) X E := by exact passL) (hk : k ≤ j := by decide)
    (ht : eval (.Call (.Attribute o m apos) [] [] pos) X.env = (do
      let ov ← eval o X.env
      standAt apos.atName
      let (f, first) ← holding [ov] (getMethod ov m pl)
      callWith pos f first (backTo pos (starEach [] X.env)) (backToKw pos (keywordEach [] X.env))) := by rfl) :
    PE X (.Call (.Attribute o m apos) [] [] pos) (tMeth C m sp [] E ta tNil) := by
  obtain ⟨f, fd, hm, b, F⟩ := D.ex
  exact pe_meth0 ho c hm F (hr.mono hk) b .nil hx ht
/-- o.m, a property -/
theorem pp (ho : PE X o ta) (c : Cls X.K C) (D : Pf X.prog X.w X.K X.mg X.base C k m ps sp) (hr : Room j X.A) (hk : k + 1 ≤ j := by decide) (hab : attributeBase o m X.env (eval o X.env) = eval o X.env := by rfl) :
    PE X (.Attribute o m pos) (tProp C sp [] E0 ta) := by
  obtain ⟨p, f, fd, hm, b, F⟩ := D.ex
  exact pe_prop ho c hm F (hr.mono hk) b .nil passL hab
/-- C(e, ..) -/
theorem pk (D : If X.prog X.w X.K X.mg X.base x C k ps sp) (hr : Room j X.A) (ha : PA X (e :: es) t) (hx : Passes (L2.CX X.prog X.w) X E := by exact passL) (hk : k + 1 ≤ j := by decide) (hg : Gl X x := by rfl)
    (hd : (x == ("__debug__" : Str)) = false := by decide) (he : starEach (e :: es) X.env = (false, eval e X.env) :: starEach es X.env := by rfl) (hpl : (backTo pos (starEach es X.env)).any (·.1) = false := by rfl) :
    PE X (.Call (.Name x p) (e :: es) [] pos) (tMake C sp [] E t) := by
  obtain ⟨f, fd, M, hm, b, F⟩ := D.ex
  exact pe_make M F (hr.mono hk) hg hm b .nil hx ha hd he hpl
/-- a call of a def one level in (by a built-in) -/
theorem run_in1 {f : Addr} {fd : FuncData} {ds : List Value} {dvs : List V} {pins : List (Addr × Obj)} {σ : L2.St} {H : Hp} {s : Shared} {Q : VK} {us : List Value} {vs : List V} (F : FnOk X.prog X.w X.K X.mg X.base (L2.CX X.prog X.w) k f fd ps sp) (hr : Room (k + 1) X.A) (hb : Binds X.K fd ps ds) (hd : Vals dvs ds) (hx : Passes (L2.CX X.prog X.w) X E)
    (I : Inv X pins σ H s) (r : Vals vs us) (h : sp (vs ++ dvs) H Q E) : wpAny (model X.prog X.w) X.A.in1 (call (.ref f) us) (EP X pins σ Q) X.xe s := by
  have r2 : Vals (vs ++ dvs) (us ++ ds) := r.append hd
  have hl : (us ++ ds).length = ps.length := by rw [← r2.length]; exact F.len _ _ _ _ h
  refine wpAny_call (codeAny_mono (F.run X.A.in1 X.stack s H ⟨us, []⟩ (us ++ ds) (vs ++ dvs) Q E hr.in1 I.env0.in1 (hb s us I.kIn hl) r2 h) fun r s' hq => ?_)
  cases r with
  | error e => exact hx pins σ H s e s' I hq
  | ok fl =>
    cases fl with
    | ret u => exact I.after hq
    | next => exact False.elim hq
    | brk => exact False.elim hq
    | cont => exact False.elim hq
/-- len(o), by the own __len__ -/
def rLenO (C : Addr) (sp : Sp) (E : XK) : List V → Hp → VK → Prop := fun xs H Q => ∃ a dx fs, xs = [.ref a] ∧ H a = some (.ins C dx fs) ∧ sp [.ref a] H (fun v H2 => ∃ n : Int, v = .int n ∧ (0 ≤ n ∧ n < 2 ^ 63) ∧ Q (.int n) H2) E
theorem call_lenO (D : Mf X.prog X.w X.K X.mg X.base C k "__len__" ps sp) (hr : Room j X.A) (hk : k + 1 ≤ j := by decide) (hx : Passes (L2.CX X.prog X.w) X E := by exact passL) : CallR X (.builtin "len") (rLenO C sp E) := by
  intro pins s σ H xs us Q I r h
  obtain ⟨a, dx, fs, rfl, ea, q⟩ := h
  obtain ⟨u, rfl, rx⟩ := vals1 r
  obtain rfl : u = Value.ref a := rx
  obtain ⟨f, fd, hm, b, F⟩ := D.ex
  obtain ⟨mA, O, _, _, _, _⟩ := ins_get I.hok ea
  obtain ⟨od, J, _⟩ := O.look
  obtain ⟨m0, fr⟩ := I.fr
  refine PySem.W.len_K fr I.ok.mod.kin J hm.at_ hm.fn ?_
  refine thn (run_in1 F (hr.mono hk) b .nil hx I (us := [.ref a]) (vs := [.ref a]) (.cons rfl .nil) q) fun u s1 ⟨v, H1, I1, rv, n, ev, hn, q1⟩ => ?_
  subst ev
  obtain ⟨tk, rfl⟩ := rv
  exact ⟨hn, .int n, H1, I1.tok _, ⟨_, rfl⟩, q1⟩
end
end G48
namespace G48
open PySem PySem.Spec PyProof.Rows L2 Evl
/-! ### heaps: what stands is carried over -/
/-- all but l stands -/
def Exb (l : Addr) (H H' : Hp) : Prop := ∀ b o, b ≠ l → H b = some o → H' b = some o
theorem Exb.upd {H : Hp} {l : Addr} {o : HO} : Exb l H (upd H l o) := fun b u nb e => by rw [upd_ne nb]; exact e
theorem Exb.of {l : Addr} {H H' : Hp} (e : Ex H H') : Exb l H H' := fun b u _ h => e b u h
theorem Exb.trans {l : Addr} {H H1 H2 : Hp} (a : Exb l H H1) (b : Exb l H1 H2) : Exb l H H2 := fun c o n h => b c o n (a c o n h)
theorem Exb.ex {l : Addr} {H0 H H' : Hp} (h : H0 l = none) (a : Ex H0 H) (b : Exb l H H') : Ex H0 H' := fun c o e => b c o (ne_of_none e h) (a c o e)
theorem ex_at {H H' : Hp} {a : Addr} {o : HO} (e : Ex H H') (h : H a = some o) : H' a = some o := e a o h
theorem exb_at {H H' : Hp} {l a : Addr} {o : HO} (e : Exb l H H') (n : a ≠ l) (h : H a = some o) : H' a = some o := e a o n h
theorem exb_t {K : PySem.W.Frag} {H H' : Hp} {l a : Addr} {xs ys : List V} (e : Exb l H H') (hl : H l = some (.lst ys)) (h : SqT K H a xs) : SqT K H' a xs := by
  rcases h with (h | ⟨o, h⟩) | h
  · exact .inl (.inl (e _ _ (ne_of h hl (by intro z; cases z)) h))
  · exact .inl (.inr ⟨o, e _ _ (ne_of h hl (by intro z; cases z)) h⟩)
  · exact .inr h
theorem exb_l {K : PySem.W.Frag} {H H' : Hp} {l a : Addr} {xs : List V} (e : Exb l H H') (n : a ≠ l) (h : SqL K H a xs) : SqL K H' a xs := by
  rcases h with (h | ⟨o, h⟩) | h
  · exact .inl (.inl (e _ _ n h))
  · exact .inl (.inr ⟨o, e _ _ n h⟩)
  · exact .inr h
theorem exb_ins {H H' : Hp} {l a C dx : Addr} {fs : List (Str × V)} {ys : List V} (e : Exb l H H') (hl : H l = some (.lst ys)) (h : H a = some (.ins C dx fs)) : H' a = some (.ins C dx fs) :=
  e _ _ (ne_of h hl (by intro z; cases z)) h


theorem sz1000 {n : Nat} (h : n ≤ 1000) : n ≤ sizeLine := Nat.le_trans h (by rw [sizeLine_eq]; decide)
theorem lt1000 {n : Nat} (h : n < 1000) : n < sizeLine := Nat.lt_trans h (by rw [sizeLine_eq]; decide)
/-! ### a reading's first step, by what stands at its head -/
section
variable {K : PySem.W.Frag} {σ : L2.St} {H H' : Hp} {ta tb tc te : TE} {t u : TT} {x y z v : V} {Q : VK} {QB : Bool → Hp → Prop} {i : Nat} {D : Ends} {t1 t2 t3 : TS} {tr : TA} {QA : List V → Hp → Prop} {r r' : R2} {a C dx : Addr} {fs : List (Str × V)} {f m : Str} {b c : Bool} {xs ys : List V} {sp : Sp} {E : XK} {ra : List V → Hp → VK → Prop}
theorem g_var (h : σ[i]? = some (some v)) (q : Q v H) : tVar i σ H Q := ⟨v, h, q⟩
theorem g_c (q : Q v H) : tC v σ H Q := q
theorem g_op (q : ta σ H fun x H1 => tb σ H1 fun y H2 => r x y H2 Q) : tOp r ta tb σ H Q := q
theorem g_un {r : V → Hp → VK → Prop} (q : ta σ H fun x H1 => r x H1 Q) : tUn r ta σ H Q := q
theorem g_nil (q : QA [] H) : tNil σ H QA := q
theorem g_cons (q : ta σ H fun x H1 => tr σ H1 fun xs H2 => QA (x :: xs) H2) : tCons ta tr σ H QA := q
theorem g_cb (q : tr σ H fun vs H1 => ra vs H1 Q) : tCB ra tr σ H Q := q
theorem app_nil_sp (sp : Sp) (Q : VK) (E : XK) : (fun (vs : List V) (H1 : Hp) => sp (vs ++ []) H1 Q E) = fun vs H1 => sp vs H1 Q E := by
  funext vs H1
  rw [List.append_nil]
theorem g_call (q : tr σ H fun vs H1 => sp vs H1 Q E) : tCall sp [] E tr σ H Q := by
  show tr σ H (fun vs H1 => sp (vs ++ []) H1 Q E)
  rw [app_nil_sp]
  exact q
def kT (Q : VK) (xs : List V) (H1 : Hp) : Prop := xs.length ≤ sizeLine ∧ ∀ p, H1 p = none → Q (.ref p) (upd H1 p (.tup xs))
def kL (Q : VK) (xs : List V) (H1 : Hp) : Prop := xs.length ≤ sizeLine ∧ ∀ p, H1 p = none → Q (.ref p) (upd H1 p (.lst xs))
theorem g_tup (q : tr σ H (kT Q)) : tTup tr σ H Q := q
theorem g_lst (q : tr σ H (kL Q)) : tLst tr σ H Q := q
theorem g_kT (h : xs.length ≤ sizeLine) (q : ∀ p H2, H p = none → Ex H H2 → H2 p = some (.tup xs) → Q (.ref p) H2) : kT Q xs H := ⟨h, fun p hp => q p _ hp (Ex.new hp) upd_same⟩
theorem g_kL (h : xs.length ≤ sizeLine) (q : ∀ p H2, H p = none → Ex H H2 → H2 p = some (.lst xs) → Q (.ref p) H2) : kL Q xs H := ⟨h, fun p hp => q p _ hp (Ex.new hp) upd_same⟩
def kTest (Q : Bool → Hp → Prop) : VK := fun x H' => ∃ k, x = .bl k ∧ Q k H'
theorem g_test (q : ta σ H (kTest QB)) : tTest ta σ H QB := q
theorem g_B (q : ta σ H (kTest QB)) : tB ta σ H QB := q
theorem g_kTest (q : QB b H) : kTest QB (.bl b) H := ⟨b, rfl, q⟩
def kNot (Q : Bool → Hp → Prop) (c : Bool) (H1 : Hp) : Prop := Q (!c) H1
theorem g_not (q : t σ H (kNot QB)) : tNot t σ H QB := q
theorem g_kNotT (q : QB false H) : kNot QB true H := q
theorem g_kNotF (q : QB true H) : kNot QB false H := q
theorem g_kNotS (q : QB (!c) H) : kNot QB c H := q
def kAnd (u : TT) (σ : L2.St) (Q : Bool → Hp → Prop) (c : Bool) (H1 : Hp) : Prop := if c = true then u σ H1 Q else Q false H1
def kOr (u : TT) (σ : L2.St) (Q : Bool → Hp → Prop) (c : Bool) (H1 : Hp) : Prop := if c = true then Q true H1 else u σ H1 Q
theorem g_and (q : t σ H (kAnd u σ QB)) : tAnd t u σ H QB := q
theorem g_or (q : t σ H (kOr u σ QB)) : tOr t u σ H QB := q
theorem g_kAndT (q : u σ H QB) : kAnd u σ QB true H := q
theorem g_kAndF (q : QB false H) : kAnd u σ QB false H := q
theorem g_kOrT (q : QB true H) : kOr u σ QB true H := q
theorem g_kOrF (q : u σ H QB) : kOr u σ QB false H := q
theorem g_kAnd (h1 : c = true → u σ H QB) (h2 : c = false → QB false H) : kAnd u σ QB c H := by
  cases c with
  | true => exact h1 rfl
  | false => exact h2 rfl
theorem g_kOr (h1 : c = true → QB true H) (h2 : c = false → u σ H QB) : kOr u σ QB c H := by
  cases c with
  | true => exact h1 rfl
  | false => exact h2 rfl
def kAndV (tb : TE) (σ : L2.St) (Q : VK) : VK := fun x H1 => ∃ c, x = .bl c ∧ if c = true then tb σ H1 Q else Q (.bl false) H1
def kOrV (tb : TE) (σ : L2.St) (Q : VK) : VK := fun x H1 => ∃ c, x = .bl c ∧ if c = true then Q (.bl true) H1 else tb σ H1 Q
theorem g_andV (q : ta σ H (kAndV tb σ Q)) : tAndV ta tb σ H Q := q
theorem g_orV (q : ta σ H (kOrV tb σ Q)) : tOrV ta tb σ H Q := q
theorem g_kAndVT (q : tb σ H Q) : kAndV tb σ Q (.bl true) H := ⟨true, rfl, q⟩
theorem g_kAndVF (q : Q (.bl false) H) : kAndV tb σ Q (.bl false) H := ⟨false, rfl, q⟩
theorem g_kOrVT (q : Q (.bl true) H) : kOrV tb σ Q (.bl true) H := ⟨true, rfl, q⟩
theorem g_kOrVF (q : tb σ H Q) : kOrV tb σ Q (.bl false) H := ⟨false, rfl, q⟩
theorem g_kAndV (h1 : c = true → tb σ H Q) (h2 : c = false → Q (.bl false) H) : kAndV tb σ Q (.bl c) H := by
  cases c with
  | true => exact g_kAndVT (h1 rfl)
  | false => exact g_kAndVF (h2 rfl)
theorem g_kOrV (h1 : c = true → Q (.bl true) H) (h2 : c = false → tb σ H Q) : kOrV tb σ Q (.bl c) H := by
  cases c with
  | true => exact g_kOrVT (h1 rfl)
  | false => exact g_kOrVF (h2 rfl)
def kNotV (Q : VK) : VK := fun x H1 => ∃ c, x = .bl c ∧ Q (.bl (!c)) H1
theorem g_notV (q : ta σ H (kNotV Q)) : tNotV ta σ H Q := q
theorem g_kNotV (q : Q (.bl (!c)) H) : kNotV Q (.bl c) H := ⟨c, rfl, q⟩
def kIf (ta tb : TE) (σ : L2.St) (Q : VK) (c : Bool) (H1 : Hp) : Prop := if c = true then ta σ H1 Q else tb σ H1 Q
theorem g_if (q : t σ H (kIf ta tb σ Q)) : tIf t ta tb σ H Q := q
theorem g_kIfT (q : ta σ H Q) : kIf ta tb σ Q true H := q
theorem g_kIfF (q : tb σ H Q) : kIf ta tb σ Q false H := q
theorem g_kIf (h1 : c = true → ta σ H Q) (h2 : c = false → tb σ H Q) : kIf ta tb σ Q c H := by
  cases c with
  | true => exact h1 rfl
  | false => exact h2 rfl
def kIfS (t u : TS) (D : Ends) (σ : L2.St) (c : Bool) (H1 : Hp) : Prop := if c = true then t D σ H1 else u D σ H1
theorem g_ifS (q : t σ H (kIfS t1 t2 D σ)) : tIfS t t1 t2 D σ H := q
theorem g_kIfST (q : t1 D σ H) : kIfS t1 t2 D σ true H := q
theorem g_kIfSF (q : t2 D σ H) : kIfS t1 t2 D σ false H := q
theorem g_kIfS (h1 : c = true → t1 D σ H) (h2 : c = false → t2 D σ H) : kIfS t1 t2 D σ c H := by
  cases c with
  | true => exact h1 rfl
  | false => exact h2 rfl
def kChain (r' : R2) (tc : TE) (σ : L2.St) (y : V) (Q : VK) : VK := fun z H3 => ∃ k, z = .bl k ∧ (if k = true then tc σ H3 fun w' H4 => r' y w' H4 Q else Q (.bl false) H3)
theorem g_chain (q : ta σ H fun x H1 => tb σ H1 fun y H2 => r x y H2 (kChain r' tc σ y Q)) : tChain r r' ta tb tc σ H Q := q
theorem g_kChainT (q : tc σ H fun w' H4 => r' y w' H4 Q) : kChain r' tc σ y Q (.bl true) H := ⟨true, rfl, q⟩
theorem g_kChainF (q : Q (.bl false) H) : kChain r' tc σ y Q (.bl false) H := ⟨false, rfl, q⟩
theorem g_kChain (h1 : c = true → tc σ H fun w' H4 => r' y w' H4 Q) (h2 : c = false → Q (.bl false) H) : kChain r' tc σ y Q (.bl c) H := by
  cases c with
  | true => exact g_kChainT (h1 rfl)
  | false => exact g_kChainF (h2 rfl)
theorem y_kAnd (hc : c = true) (q : u σ H QB) : kAnd u σ QB c H := by rw [hc]; exact q
theorem n_kAnd (hc : c = false) (q : QB false H) : kAnd u σ QB c H := by rw [hc]; exact q
theorem y_kOr (hc : c = true) (q : QB true H) : kOr u σ QB c H := by rw [hc]; exact q
theorem n_kOr (hc : c = false) (q : u σ H QB) : kOr u σ QB c H := by rw [hc]; exact q
theorem y_kNot (hc : c = true) (q : QB false H) : kNot QB c H := by rw [hc]; exact q
theorem n_kNot (hc : c = false) (q : QB true H) : kNot QB c H := by rw [hc]; exact q
theorem y_kAndV (hc : c = true) (q : tb σ H Q) : kAndV tb σ Q (.bl c) H := by rw [hc]; exact g_kAndVT q
theorem n_kAndV (hc : c = false) (q : Q (.bl false) H) : kAndV tb σ Q (.bl c) H := by rw [hc]; exact g_kAndVF q
theorem y_kOrV (hc : c = true) (q : Q (.bl true) H) : kOrV tb σ Q (.bl c) H := by rw [hc]; exact g_kOrVT q
theorem n_kOrV (hc : c = false) (q : tb σ H Q) : kOrV tb σ Q (.bl c) H := by rw [hc]; exact g_kOrVF q
theorem y_kIf (hc : c = true) (q : ta σ H Q) : kIf ta tb σ Q c H := by rw [hc]; exact q
theorem n_kIf (hc : c = false) (q : tb σ H Q) : kIf ta tb σ Q c H := by rw [hc]; exact q
theorem y_kIfS (hc : c = true) (q : t1 D σ H) : kIfS t1 t2 D σ c H := by rw [hc]; exact q
theorem n_kIfS (hc : c = false) (q : t2 D σ H) : kIfS t1 t2 D σ c H := by rw [hc]; exact q
theorem y_kChain (hc : c = true) (q : tc σ H fun w' H4 => r' y w' H4 Q) : kChain r' tc σ y Q (.bl c) H := by rw [hc]; exact g_kChainT q
theorem n_kChain (hc : c = false) (q : Q (.bl false) H) : kChain r' tc σ y Q (.bl c) H := by rw [hc]; exact g_kChainF q
/-! objects -/
def kFld (K : PySem.W.Frag) (f : Str) (Q : VK) : VK := fun x H1 => ∃ a C dx fs v, x = .ref a ∧ H1 a = some (.ins C dx fs) ∧ Cls K C ∧ NoAttr K C f ∧ fs.lookup f = some v ∧ Q v H1
theorem g_fld (q : ta σ H (kFld K f Q)) : tFld K ta f σ H Q := q
theorem g_kFld (h : H a = some (.ins C dx fs)) (c : Cls K C) (n : NoAttr K C f) (l : fs.lookup f = some v) (q : Q v H) : kFld K f Q (.ref a) H := ⟨a, C, dx, fs, v, rfl, h, c, n, l, q⟩
def kMeth (C : Addr) (m : Str) (sp : Sp) (E : XK) (tr : TA) (σ : L2.St) (Q : VK) : VK := fun x H1 => ∃ a dx fs, x = .ref a ∧ H1 a = some (.ins C dx fs) ∧ fs.lookup m = none ∧ tr σ H1 fun vs H2 => sp (x :: vs) H2 Q E
theorem g_meth (q : ta σ H (kMeth C m sp E tr σ Q)) : tMeth C m sp [] E ta tr σ H Q := by
  have e : (fun (x : V) (H1 : Hp) => ∃ a dx fs, x = .ref a ∧ H1 a = some (.ins C dx fs) ∧ fs.lookup m = none ∧ tr σ H1 fun vs H2 => sp (x :: (vs ++ [])) H2 Q E) = kMeth C m sp E tr σ Q := by
    funext x H1
    have e2 : (fun (vs : List V) (H2 : Hp) => sp (x :: (vs ++ [])) H2 Q E) = fun vs H2 => sp (x :: vs) H2 Q E := by
      funext vs H2
      rw [List.append_nil]
    unfold kMeth
    rw [e2]
  show ta σ H (fun (x : V) (H1 : Hp) => ∃ a dx fs, x = .ref a ∧ H1 a = some (.ins C dx fs) ∧ fs.lookup m = none ∧ tr σ H1 fun vs H2 => sp (x :: (vs ++ [])) H2 Q E)
  rw [e]
  exact q
theorem g_kMeth (h : H a = some (.ins C dx fs)) (l : fs.lookup m = none) (q : tr σ H fun vs H2 => sp (.ref a :: vs) H2 Q E) : kMeth C m sp E tr σ Q (.ref a) H := ⟨a, dx, fs, rfl, h, l, q⟩
def kProp (C : Addr) (sp : Sp) (E : XK) (Q : VK) : VK := fun x H1 => ∃ a dx fs, x = .ref a ∧ H1 a = some (.ins C dx fs) ∧ sp [.ref a] H1 Q E
theorem g_prop (q : ta σ H (kProp C sp E Q)) : tProp C sp [] E ta σ H Q := q
theorem g_kProp (h : H a = some (.ins C dx fs)) (q : sp [.ref a] H Q E) : kProp C sp E Q (.ref a) H := ⟨a, dx, fs, rfl, h, q⟩
/-- a new instance: its own dict at dx -/
def kMake (C : Addr) (sp : Sp) (E : XK) (Q : VK) (vs : List V) (H1 : Hp) : Prop := ∀ x dx, H1 x = none → H1 dx = none → dx ≠ x → sp (.ref x :: vs) (upd (upd H1 dx (.own x)) x (.ins C dx [])) (fun v H2 => v = .non ∧ Q (.ref x) H2) E
theorem g_make (q : tr σ H (kMake C sp E Q)) : tMake C sp [] E tr σ H Q := by
  have e : (fun (vs : List V) (H1 : Hp) => ∀ x dx, H1 x = none → H1 dx = none → dx ≠ x → sp (.ref x :: (vs ++ [])) (upd (upd H1 dx (.own x)) x (.ins C dx [])) (fun v H2 => v = .non ∧ Q (.ref x) H2) E) = kMake C sp E Q := by
    funext vs H1
    rw [List.append_nil] <;> rfl
  show tr σ H (fun (vs : List V) (H1 : Hp) => ∀ x dx, H1 x = none → H1 dx = none → dx ≠ x → sp (.ref x :: (vs ++ [])) (upd (upd H1 dx (.own x)) x (.ins C dx [])) (fun v H2 => v = .non ∧ Q (.ref x) H2) E)
  rw [e]
  exact q
def kSFld (K : PySem.W.Frag) (f : Str) (D : Ends) (σ : L2.St) (y : V) : VK := fun x H2 => ∃ a C dx fs, x = .ref a ∧ H2 a = some (.ins C dx fs) ∧ Cls K C ∧ NoAttr K C f ∧ fs.length < 1000 ∧ D.nx σ (upd H2 a (.ins C dx (putF f y fs)))
theorem g_sfld (q : tb σ H fun y H1 => ta σ H1 (kSFld K f D σ y)) : sFld K ta tb f D σ H := q
theorem g_kSFld (h : H a = some (.ins C dx fs)) (c : Cls K C) (n : NoAttr K C f) (l : fs.length < 1000) (q : ∀ H2, Exb a H H2 → H2 a = some (.ins C dx (putF f y fs)) → D.nx σ H2) : kSFld K f D σ y (.ref a) H := ⟨a, C, dx, fs, rfl, h, c, n, l, q _ Exb.upd upd_same⟩
/-! slices, ranges as lists, methods of the built-in types -/
theorem g_sl {rs : V → Option Int → Option Int → Hp → VK → Prop} {tl th : TO} (q : te σ H fun x H1 => tl σ H1 fun l H2 => th σ H2 fun h H3 => rs x l h H3 Q) : tSl rs te tl th σ H Q := q
theorem g_nopart {QO : Option Int → Hp → Prop} (q : QO none H) : tNoPart σ H QO := q
def kPart (QO : Option Int → Hp → Prop) : VK := fun x H1 => ∃ i, x = .int i ∧ QO (some i) H1
theorem g_part {QO : Option Int → Hp → Prop} (q : te σ H (kPart QO)) : tPart te σ H QO := q
theorem g_kPart {QO : Option Int → Hp → Prop} {i : Int} (q : QO (some i) H) : kPart QO (.int i) H := ⟨i, rfl, q⟩
def kLRg (Q : VK) (a b : Int) (H1 : Hp) : Prop := RgOk a b ∧ ∀ q, H1 q = none → Q (.ref q) (upd H1 q (.lst (rgV a b)))
theorem g_lstRg {tg : L2.St → Hp → (Int → Int → Hp → Prop) → Prop} (q : tg σ H (kLRg Q)) : tLstRg tg σ H Q := q
theorem g_kLRg {i j : Int} (h : RgOk i j) (q : ∀ p H2, H p = none → Ex H H2 → H2 p = some (.lst (rgV i j)) → Q (.ref p) H2) : kLRg Q i j H := ⟨h, fun p hp => q p _ hp (Ex.new hp) upd_same⟩
def kRg1 (R : Int → Int → Hp → Prop) : VK := fun x H1 => ∃ n, x = .int n ∧ R 0 n H1
theorem g_rg1 {R : Int → Int → Hp → Prop} (q : ta σ H (kRg1 R)) : tRg1 ta σ H R := q
theorem g_kRg1 {R : Int → Int → Hp → Prop} {n : Int} (q : R 0 n H) : kRg1 R (.int n) H := ⟨n, rfl, q⟩
theorem g_rg2 {R : Int → Int → Hp → Prop} (q : ta σ H fun x H1 => tb σ H1 fun y H2 => ∃ i j, x = .int i ∧ y = .int j ∧ R i j H2) : tRg2 ta tb σ H R := q
def kBM (K : PySem.W.Frag) (T : String) (r : V → List V → Hp → VK → Prop) (tr : TA) (σ : L2.St) (Q : VK) : VK := fun x H1 => tyV K T x H1 ∧ tr σ H1 fun xs H2 => r x xs H2 Q
theorem g_bm {r : V → List V → Hp → VK → Prop} {T : String} (q : ta σ H (kBM K T r tr σ Q)) : tBM K T r ta tr σ H Q := q
theorem g_kBM_list {r : V → List V → Hp → VK → Prop} (h : SqL K H a xs) (q : tr σ H fun vs H2 => r (.ref a) vs H2 Q) : kBM K "list" r tr σ Q (.ref a) H := ⟨.inl ⟨rfl, xs, h⟩, q⟩
/-! statements -/
theorem g_seq (q : t1 { D with nx := t2 D } σ H) : tSeq t1 t2 D σ H := q
theorem g_next (q : D.nx σ H) : tNext D σ H := q
theorem g_break (q : D.bk σ H) : tBreak D σ H := q
theorem g_cont (q : D.ct σ H) : tCont D σ H := q
theorem g_asg {g : TG} (q : te σ H fun x H1 => g x σ H1 D.nx) : tAsg te g D σ H := q
theorem g_ret (q : te σ H D.rt) : tRet te D σ H := q
theorem g_retN (q : D.rt .non H) : tRetN D σ H := q
theorem g_drop (q : te σ H fun _ H1 => D.nx σ H1) : tDrop te D σ H := q
theorem gg_name {QS : L2.St → Hp → Prop} (q : QS (σ.set i (some v)) H) : gName i v σ H QS := q
theorem gg_tup {QS : L2.St → Hp → Prop} {n : Nat} {gs : TGs} (h : SqT K H a xs) (l : xs.length = n) (q : gs xs σ H QS) : gTup K n gs (.ref a) σ H QS := ⟨a, xs, rfl, h, l, q⟩
theorem gg_cons {QS : L2.St → Hp → Prop} {g : TG} {gs : TGs} (q : g v σ H fun σ' H' => gs xs σ' H' QS) : gCons g gs (v :: xs) σ H QS := ⟨v, xs, rfl, q⟩
theorem gg_nil {QS : L2.St → Hp → Prop} (q : QS σ H) : gNil [] σ H QS := ⟨rfl, q⟩
theorem gg_sub {QS : L2.St → Hp → Prop} {st : TSet} (q : ta σ H fun o H1 => tb σ H1 fun k H2 => st o k v H2 fun H3 => QS σ H3) : gSub ta tb st v σ H QS := q
theorem g_setL {QH : Hp → Prop} {l : Addr} {k : Int} {j : Nat} (h : H l = some (.lst xs)) (e : ixN xs.length k = some j) (q : ∀ H2, Exb l H H2 → H2 l = some (.lst (xs.set j v)) → QH H2) : rSetL (.ref l) (.int k) v H QH := ⟨l, xs, k, j, rfl, rfl, h, e, q _ Exb.upd upd_same⟩
def kPar (i j : Nat) (D : Ends) (σ : L2.St) (vs : List V) (H1 : Hp) : Prop := ∃ v w, vs = [v, w] ∧ D.nx ((σ.set i (some v)).set j (some w)) H1
theorem g_par {j : Nat} (q : tr σ H (kPar i j D σ)) : tPar i j tr D σ H := q
theorem g_kPar {j : Nat} (q : D.nx ((σ.set i (some x)).set j (some y)) H) : kPar i j D σ [x, y] H := ⟨x, y, rfl, q⟩
theorem g_aug {ti : TIp} (h : σ[i]? = some (some x)) (q : te σ H fun y H1 => ti x y H1 fun z H2 => D.nx (σ.set i (some z)) H2) : tAug i te ti D σ H := ⟨x, h, q⟩
theorem g_ipI {g : Int → Int → Int} {p k : Int} (q : Q (.int (g p k)) H) : ipI g (.int p) (.int k) H Q := ⟨p, k, rfl, rfl, q⟩
/-- while: W with its measure -/
def kWh (W : Nat → L2.St → Hp → Prop) (tb : TS) (D : Ends) (m : Nat) (σ : L2.St) (b : Bool) (H1 : Hp) : Prop :=
  if b = true then ∃ N : L2.St → Hp → Prop, (∀ σ' H', N σ' H' → ∃ m', m' < m ∧ W m' σ' H') ∧ tb { D with nx := N, ct := N, bk := D.nx } σ H1 else D.nx σ H1
theorem g_while (W : Nat → L2.St → Hp → Prop) (m0 : Nat) (h0 : W m0 σ H) (hs : ∀ m σ' H', W m σ' H' → t σ' H' (kWh W t1 D m σ')) : tWhile t t1 D σ H := ⟨W, ⟨m0, h0⟩, hs⟩
theorem g_kWhT {W : Nat → L2.St → Hp → Prop} {m : Nat} (q : t1 { D with nx := fun σ' H' => ∃ m', m' < m ∧ W m' σ' H', ct := fun σ' H' => ∃ m', m' < m ∧ W m' σ' H', bk := D.nx } σ H) : kWh W t1 D m σ true H := ⟨_, fun _ _ h => h, q⟩
theorem g_kWhF {W : Nat → L2.St → Hp → Prop} {m : Nat} (q : D.nx σ H) : kWh W t1 D m σ false H := q
theorem g_kWh {W : Nat → L2.St → Hp → Prop} {m : Nat} (h1 : b = true → t1 { D with nx := fun σ' H' => ∃ m', m' < m ∧ W m' σ' H', ct := fun σ' H' => ∃ m', m' < m ∧ W m' σ' H', bk := D.nx } σ H) (h2 : b = false → D.nx σ H) : kWh W t1 D m σ b H := by
  cases b with
  | true => exact g_kWhT (h1 rfl)
  | false => exact g_kWhF (h2 rfl)
theorem y_kWh {W : Nat → L2.St → Hp → Prop} {m : Nat} (hc : b = true) (q : t1 { D with nx := fun σ' H' => ∃ m', m' < m ∧ W m' σ' H', ct := fun σ' H' => ∃ m', m' < m ∧ W m' σ' H', bk := D.nx } σ H) : kWh W t1 D m σ b H := by rw [hc]; exact g_kWhT q
theorem n_kWh {W : Nat → L2.St → Hp → Prop} {m : Nat} (hc : b = false) (q : D.nx σ H) : kWh W t1 D m σ b H := by rw [hc]; exact g_kWhF q
/-- for over a list, a tuple, a range -/
def kForL (K : PySem.W.Frag) (g : TG) (tb : TS) (D : Ends) (σ : L2.St) : VK := fun x H1 => tFor (iList K (tC x)) g tb D σ H1
theorem g_forL {g : TG} (q : te σ H (kForL K g t1 D σ)) : tFor (iList K te) g t1 D σ H := q
theorem g_kForL {g : TG} (h : SqL K H a xs) (Pv : Nat → L2.St → Hp → Prop) (h0 : Pv 0 σ H) (hl : ∀ i σ H, i ≤ xs.length → Pv i σ H → SqL K H a xs)
    (hs : ∀ i x σ H, xs[i]? = some x → Pv i σ H → g x σ H fun σ2 H2 => t1 { D with nx := Pv (i + 1), ct := Pv (i + 1), bk := D.nx } σ2 H2) (hd : ∀ σ H, Pv xs.length σ H → D.nx σ H) : kForL K g t1 D σ (.ref a) H :=
  ⟨a, rfl, ⟨xs, h⟩, for_list Pv h0 hl hs hd⟩
def kForT (K : PySem.W.Frag) (g : TG) (tb : TS) (D : Ends) (σ : L2.St) : VK := fun x H1 => tFor (iTup K (tC x)) g tb D σ H1
theorem g_forT {g : TG} (q : te σ H (kForT K g t1 D σ)) : tFor (iTup K te) g t1 D σ H := q
theorem g_kForT {g : TG} (h : SqT K H a xs) (Pv : Nat → L2.St → Hp → Prop) (h0 : Pv 0 σ H) (hl : ∀ i σ H, i ≤ xs.length → Pv i σ H → SqT K H a xs)
    (hs : ∀ i x σ H, xs[i]? = some x → Pv i σ H → g x σ H fun σ2 H2 => t1 { D with nx := Pv (i + 1), ct := Pv (i + 1), bk := D.nx } σ2 H2) (hd : ∀ σ H, Pv xs.length σ H → D.nx σ H) : kForT K g t1 D σ (.ref a) H :=
  ⟨a, rfl, ⟨xs, h⟩, for_tup Pv h0 hl hs hd⟩
def kForR1 (g : TG) (tb : TS) (D : Ends) (σ : L2.St) (vs : List V) (H1 : Hp) : Prop := tFor (iRng1 (fun _ H Q => Q vs H)) g tb D σ H1
theorem g_forR1 {g : TG} (q : tr σ H (kForR1 g t1 D σ)) : tFor (iRng1 tr) g t1 D σ H := q
theorem g_kForR1 {g : TG} {n : Int} (hn : 0 ≤ n ∧ n < 2 ^ 62) (Pv : Nat → L2.St → Hp → Prop) (h0 : Pv 0 σ H)
    (hs : ∀ (i : Nat) σ H, (i : Int) < n → Pv i σ H → g (.int i) σ H fun σ2 H2 => t1 { D with nx := Pv (i + 1), ct := Pv (i + 1), bk := D.nx } σ2 H2) (hd : ∀ σ H, Pv n.toNat σ H → D.nx σ H) : kForR1 g t1 D σ [.int n] H :=
  ⟨n, rfl, by omega, by omega, for_range (lo := 0) (n := n.toNat) Pv h0 (fun i σ H hi p => by
    have e0 : (0 : Int) + (i : Int) = (i : Int) := Int.zero_add _
    rw [e0]
    exact hs i σ H (by omega) p) hd⟩
def kForR2 (g : TG) (tb : TS) (D : Ends) (σ : L2.St) (vs : List V) (H1 : Hp) : Prop := tFor (iRng2 (fun _ H Q => Q vs H)) g tb D σ H1
theorem g_forR2 {g : TG} (q : tr σ H (kForR2 g t1 D σ)) : tFor (iRng2 tr) g t1 D σ H := q
theorem g_kForR2 {g : TG} {lo n : Int} (hn : -(2 ^ 62) ≤ lo ∧ lo < 2 ^ 62 ∧ -(2 ^ 62) ≤ n ∧ n < 2 ^ 62) (Pv : Nat → L2.St → Hp → Prop) (h0 : Pv 0 σ H)
    (hs : ∀ (i : Nat) σ H, lo + (i : Int) < n → Pv i σ H → g (.int (lo + i)) σ H fun σ2 H2 => t1 { D with nx := Pv (i + 1), ct := Pv (i + 1), bk := D.nx } σ2 H2) (hd : ∀ σ H, Pv (n - lo).toNat σ H → D.nx σ H) : kForR2 g t1 D σ [.int lo, .int n] H :=
  ⟨lo, n, rfl, hn, for_range (lo := lo) (n := (n - lo).toNat) Pv h0 (fun i σ H hi p => hs i σ H (by omega) p) hd⟩
/-! relations on values -/
theorem g_add {p k : Int} (q : Q (.int (p + k)) H) : rI0 (fun i j => .int (i + j)) (.int p) (.int k) H Q := ⟨p, k, rfl, rfl, q⟩
theorem g_sub {p k : Int} (q : Q (.int (p - k)) H) : rI0 (fun i j => .int (i - j)) (.int p) (.int k) H Q := ⟨p, k, rfl, rfl, q⟩
theorem g_mul {p k : Int} (h : CMul p k) (q : Q (.int (p * k)) H) : rI CMul (fun i j => .int (i * j)) (.int p) (.int k) H Q := ⟨p, k, rfl, rfl, h, q⟩
theorem g_fdiv {p k : Int} (h : CDiv p k) (q : Q (.int (p / k)) H) : rI CDiv (fun i j => .int (i / j)) (.int p) (.int k) H Q := ⟨p, k, rfl, rfl, h, q⟩
theorem g_mod {p k : Int} (h : 0 < k) (q : Q (.int (p % k)) H) : rI (fun _ j => 0 < j) (fun i j => .int (i % j)) (.int p) (.int k) H Q := ⟨p, k, rfl, rfl, h, q⟩
theorem g_pow {p k : Int} (h : CPow p k) (q : Q (.int (p ^ k.toNat)) H) : rI CPow (fun i j => .int (i ^ j.toNat)) (.int p) (.int k) H Q := ⟨p, k, rfl, rfl, h, q⟩
theorem g_lt {p k : Int} (q : Q (.bl (decide (p < k))) H) : rI0 (fun i j => .bl (decide (i < j))) (.int p) (.int k) H Q := ⟨p, k, rfl, rfl, q⟩
theorem g_le {p k : Int} (q : Q (.bl (decide (p ≤ k))) H) : rI0 (fun i j => .bl (decide (i ≤ j))) (.int p) (.int k) H Q := ⟨p, k, rfl, rfl, q⟩
theorem g_gt {p k : Int} (q : Q (.bl (decide (k < p))) H) : rI0 (fun i j => .bl (decide (j < i))) (.int p) (.int k) H Q := ⟨p, k, rfl, rfl, q⟩
theorem g_ge {p k : Int} (q : Q (.bl (decide (k ≤ p))) H) : rI0 (fun i j => .bl (decide (j ≤ i))) (.int p) (.int k) H Q := ⟨p, k, rfl, rfl, q⟩
theorem g_neg {p : Int} (q : Q (.int (-p)) H) : rU (fun i => .int (-i)) (.int p) H Q := ⟨p, rfl, q⟩
theorem dec_ii {p k : Int} : decide (V.int p = V.int k) = decide (p = k) := by rw [dec_int, Bool.beq_eq_decide_eq]
theorem g_eqI {p k : Int} (q : Q (.bl (decide (p = k))) H) : rEq (.int p) (.int k) H Q := ⟨rfl, by rw [dec_ii]; exact q⟩
theorem g_neI {p k : Int} (q : Q (.bl (!decide (p = k))) H) : rNe (.int p) (.int k) H Q := ⟨rfl, by rw [dec_ii]; exact q⟩
theorem g_eqS (h : scal x y = true) (q : Q (.bl (decide (x = y))) H) : rEq x y H Q := ⟨h, q⟩
theorem g_neS (h : scal x y = true) (q : Q (.bl (!decide (x = y))) H) : rNe x y H Q := ⟨h, q⟩
theorem g_ixL {k : Int} (h : SqL K H a xs) (e : atI xs k = some v) (q : Q v H) : rIxL K (.ref a) (.int k) H Q := ⟨a, xs, k, v, rfl, rfl, h, e, q⟩
theorem g_ixT {k : Int} (h : SqT K H a xs) (e : atI xs k = some v) (q : Q v H) : rIxT K (.ref a) (.int k) H Q := ⟨a, xs, k, v, rfl, rfl, h, e, q⟩
theorem g_eqD {d e : PyData} (h1 : Dp K H x d) (h2 : Dp K H y e) (s1 : SeqAt.shaped d = true) (s2 : SeqAt.shaped e = true) (q : Q (.bl (PyData.eqv d e)) H) : rEqD K x y H Q := ⟨d, e, h1, h2, s1, s2, q⟩
theorem g_neD {d e : PyData} (h1 : Dp K H x d) (h2 : Dp K H y e) (s1 : SeqAt.shaped d = true) (s2 : SeqAt.shaped e = true) (q : Q (.bl (!PyData.eqv d e)) H) : rNeD K x y H Q := ⟨d, e, h1, h2, s1, s2, q⟩
/-- t + u, t[lo:hi] of tuples: some tuple of these items -/
theorem g_catA {a b : Addr} {xs ys : List V} (h1 : SqT K H a xs) (h2 : SqT K H b ys) (l : xs.length + ys.length ≤ sizeLine) (q : ∀ p H2, Ex H H2 → SqT K H2 p (xs ++ ys) → Q (.ref p) H2) : rCatA K (.ref a) (.ref b) H Q :=
  ⟨a, b, xs, ys, rfl, rfl, h1, h2, l, fun e => q b H (Ex.refl H) (by rw [e]; exact h2), fun _ e => q a H (Ex.refl H) (by rw [e, List.append_nil]; exact h1), fun _ _ p hp => q p _ (Ex.new hp) (SqT.of upd_same)⟩
theorem cutV_whole {xs : List V} {lo hi : Option Int} (h : HT.sIx xs.length 0 lo = 0 ∧ HT.sIx xs.length xs.length hi = xs.length) : cutV xs lo hi = xs := by
  unfold cutV
  rw [h.1, h.2]
  simp
theorem g_slA {lo hi : Option Int} (h : SqT K H a xs) (q : ∀ p H2, Ex H H2 → SqT K H2 p (cutV xs lo hi) → Q (.ref p) H2) : rSlA K (.ref a) lo hi H Q :=
  ⟨a, xs, rfl, h, fun w => q a H (Ex.refl H) (by rw [cutV_whole w]; exact h), fun _ p hp => q p _ (Ex.new hp) (SqT.of upd_same)⟩
theorem g_slL {lo hi : Option Int} (h : SqL K H a xs) (q : ∀ p H2, H p = none → Ex H H2 → H2 p = some (.lst (cutV xs lo hi)) → Q (.ref p) H2) : rSlL K (.ref a) lo hi H Q :=
  ⟨a, xs, rfl, h, fun p hp => q p _ hp (Ex.new hp) upd_same⟩
theorem g_cat {a b : Addr} (h1 : H a = some (.lst xs)) (h2 : H b = some (.lst ys)) (l : xs.length + ys.length ≤ sizeLine) (q : ∀ p H2, H p = none → Ex H H2 → H2 p = some (.lst (xs ++ ys)) → Q (.ref p) H2) : rCat (.ref a) (.ref b) H Q :=
  ⟨a, b, xs, ys, rfl, rfl, h1, h2, l, fun p hp => q p _ hp (Ex.new hp) upd_same⟩
theorem g_append {l : Addr} (h : H l = some (.lst xs)) (z : xs.length < sizeLine) (q : ∀ H2, Exb l H H2 → H2 l = some (.lst (xs ++ [y])) → Q .non H2) : rAppend (.ref l) [y] H Q := ⟨l, xs, y, rfl, rfl, h, z, q _ Exb.upd upd_same⟩
theorem g_sum {ns : List Int} (h : SqL K H a (ns.map V.int)) (q : Q (.int ns.sum) H) : rSum K [.ref a] H Q := ⟨a, ns, rfl, h, q⟩
theorem g_isi {u w : Value} (k : ClsV v u) (ty : TyX K H x w) (e : PySem.W.kitOne K w u = some b) (q : Q (.bl b) H) : rIsi K [x, v] H Q := ⟨x, v, w, u, b, rfl, k, ty, e, q⟩
end
/-! named relations of built-in calls -/
def rLen (K : PySem.W.Frag) : List V → Hp → VK → Prop := fun xs H Q => ∃ x n, xs = [x] ∧ LenV K x H n ∧ Q (.int n) H
def rListOf (K : PySem.W.Frag) : List V → Hp → VK → Prop := fun xs H Q => ∃ p ys, xs = [.ref p] ∧ (SqL K H p ys ∨ SqT K H p ys) ∧ ∀ l, H l = none → Q (.ref l) (upd H l (.lst ys))
def rTupOf (K : PySem.W.Frag) : List V → Hp → VK → Prop := fun xs H Q => ∃ p ys, xs = [.ref p] ∧ ((SqL K H p ys ∧ ∀ l, H l = none → Q (.ref l) (upd H l (.tup ys))) ∨ (SqT K H p ys ∧ Q (.ref p) H))
def rInt1 : List V → Hp → VK → Prop := fun xs H Q => (∃ i, xs = [.int i] ∧ Q (.int i) H) ∨ ∃ k, xs = [.bl k] ∧ Q (.int (if k then 1 else 0)) H
def rMax2 : List V → Hp → VK → Prop := fun xs H Q => ∃ i j, xs = [.int i, .int j] ∧ Q (.int (if j > i then j else i)) H
def rMin2 : List V → Hp → VK → Prop := fun xs H Q => ∃ i j, xs = [.int i, .int j] ∧ Q (.int (if j < i then j else i)) H
def rDivmod : List V → Hp → VK → Prop := fun xs H Q => ∃ i j, xs = [.int i, .int j] ∧ CDiv i j ∧ ∀ p, H p = none → Q (.ref p) (upd H p (.tup [.int (i / j), .int (i % j)]))
section
variable {X : Cx}
theorem c_len : CallR X (.builtin "len") (rLen X.K) := call_len
theorem c_list_of : CallR X (.type "list") (rListOf X.K) := call_list_of
theorem c_int1 : CallR X (.type "int") rInt1 := call_int1
theorem c_max2 (hc : X.calm = true) : CallR X (.builtin "max") rMax2 := call_max2 hc
theorem c_min2 (hc : X.calm = true) : CallR X (.builtin "min") rMin2 := call_min2 hc
theorem c_divmod : CallR X (.builtin "divmod") rDivmod := call_divmod
/-- a module's constant -/
theorem pint {x : Str} {i : Int} {pos : Pos} (h : ∃ t, X.mg x = some (.int i t)) (hg : Gl X x := by rfl) (hd : (x == ("__debug__" : Str)) = false := by decide) : PE X (.Name x pos) (tC (.int i)) := by
  obtain ⟨t, h⟩ := h
  exact pe_glob hg h ⟨_, rfl⟩ hd
theorem pstr {x z : Str} {pos : Pos} (h : ∃ t, X.mg x = some (.str z t)) (hg : Gl X x := by rfl) (hd : (x == ("__debug__" : Str)) = false := by decide) : PE X (.Name x pos) (tC (.str z)) := by
  obtain ⟨t, h⟩ := h
  exact pe_glob hg h ⟨_, rfl⟩ hd
end
section
variable {K : PySem.W.Frag} {H : Hp} {Q : VK} {a : Addr} {xs ys : List V} {z : Str}
theorem g_lenL (h : SqL K H a xs) (q : Q (.int (xs.length : Int)) H) : rLen K [.ref a] H Q := ⟨.ref a, xs.length, rfl, .inl ⟨xs, h, rfl⟩, q⟩
theorem g_lenT (h : SqT K H a xs) (q : Q (.int (xs.length : Int)) H) : rLen K [.ref a] H Q := ⟨.ref a, xs.length, rfl, .inr ⟨xs, h, rfl⟩, q⟩
theorem g_lenLM {α : Type} {g : α → V} {ns : List α} (h : SqL K H a (ns.map g)) (q : Q (.int (ns.length : Int)) H) : rLen K [.ref a] H Q := ⟨.ref a, ns.length, rfl, .inl ⟨_, h, (List.length_map g).symm⟩, q⟩
theorem g_lenTM {α : Type} {g : α → V} {ns : List α} (h : SqT K H a (ns.map g)) (q : Q (.int (ns.length : Int)) H) : rLen K [.ref a] H Q := ⟨.ref a, ns.length, rfl, .inr ⟨_, h, (List.length_map g).symm⟩, q⟩
theorem g_lenS (h : z.length ≤ sizeLine) (q : Q (.int (z.length : Int)) H) : rLen K [.str z] H Q := ⟨.str z, z.length, rfl, ⟨h, rfl⟩, q⟩
theorem g_listL (h : SqL K H a xs) (q : ∀ p H2, H p = none → Ex H H2 → H2 p = some (.lst xs) → Q (.ref p) H2) : rListOf K [.ref a] H Q := ⟨a, xs, rfl, .inl h, fun p hp => q p _ hp (Ex.new hp) upd_same⟩
theorem g_listT (h : SqT K H a xs) (q : ∀ p H2, H p = none → Ex H H2 → H2 p = some (.lst xs) → Q (.ref p) H2) : rListOf K [.ref a] H Q := ⟨a, xs, rfl, .inr h, fun p hp => q p _ hp (Ex.new hp) upd_same⟩
theorem g_tupL (h : SqL K H a xs) (q : ∀ p H2, H p = none → Ex H H2 → H2 p = some (.tup xs) → Q (.ref p) H2) : rTupOf K [.ref a] H Q := ⟨a, xs, rfl, .inl ⟨h, fun p hp => q p _ hp (Ex.new hp) upd_same⟩⟩
theorem g_int1 {i : Int} (q : Q (.int i) H) : rInt1 [.int i] H Q := .inl ⟨i, rfl, q⟩
theorem g_int1b {b : Bool} (q : Q (.int (if b then 1 else 0)) H) : rInt1 [.bl b] H Q := .inr ⟨b, rfl, q⟩
theorem max2_eq (i j : Int) : (if j > i then j else i) = max i j := by
  by_cases h : j > i
  · rw [if_pos h]
    omega
  · rw [if_neg h]
    omega
theorem min2_eq (i j : Int) : (if j < i then j else i) = min i j := by
  by_cases h : j < i
  · rw [if_pos h]
    omega
  · rw [if_neg h]
    omega
theorem g_max2 {i j : Int} (q : Q (.int (max i j)) H) : rMax2 [.int i, .int j] H Q := ⟨i, j, rfl, by rw [max2_eq]; exact q⟩
theorem g_min2 {i j : Int} (q : Q (.int (min i j)) H) : rMin2 [.int i, .int j] H Q := ⟨i, j, rfl, by rw [min2_eq]; exact q⟩
theorem g_divmod {i j : Int} (h : CDiv i j) (q : ∀ p H2, H p = none → Ex H H2 → H2 p = some (.tup [.int (i / j), .int (i % j)]) → Q (.ref p) H2) : rDivmod [.int i, .int j] H Q := ⟨i, j, rfl, h, fun p hp => q p _ hp (Ex.new hp) upd_same⟩
end
end G48
namespace PySem
open AutoSeq1 (wpAny_loadPart')
set_option maxHeartbeats 4000000 in
theorem g48_enum_newB {v : Value} {o : Obj} {H : Heap → Prop} (B : Begins v o H) :
    Meets (Builtin.«enumerate.__new__» ⟨[.type "enumerate", v], []⟩) (fun _ R s => H s.heap ∧
      R (.ok (.ret (.ref (s.heap.push o).objs.size))) { s with heap := (s.heap.push o).push { cls := .type "enumerate", data := .fields #[.none, .bool false, .ref s.heap.objs.size, rawInt 0, .none, .none] } }) :=
  .of_wp fun prog w A R s h => by
    obtain ⟨hp, g, d, tk, os⟩ := s; obtain ⟨h1, h⟩ := h
    have hsub := sub_enumerate
    have q1 : ∀ {A' : Around} {E : Value → Shared → Prop} {Q : Value → Shared → Prop}, Q (.ref hp.objs.size) ⟨hp.push o, g, d, tk, os⟩ → wpAny (model prog w) A' (pyIter v) Q E ⟨hp, g, d, tk, os⟩ :=
      fun q => B.iter prog w _ _ ⟨hp, g, d, tk, os⟩ _ h1 q
    wp_walk using q1
    refine wpAny_stack_any fun st => wpAny_pure ?_
    split
    · rename_i c _ _ _ _ _
      cases (c == Value.type "enumerate")
      · wp_walk using q1
        exact ⟨_, rfl, h⟩
      · wp_walk using q1
        exact ⟨_, rfl, h⟩
    · wp_walk using q1
      exact ⟨_, rfl, h⟩
section
variable {prog : Program} {w : World} {A : Around} {E : Value → Shared → Prop} {s : Shared}
theorem g48_call_enum {v : Value} {o : Obj} {H : Heap → Prop} {Q : Value → Shared → Prop} (B : Begins v o H) (h1 : H s.heap)
    (h : ∀ h', IsEnum h' (s.heap.objs.size + 1) s.heap.objs.size 0 .none → h'.get? s.heap.objs.size = some o → h'.objs.size = s.heap.objs.size + 2 →
      (∀ b o, s.heap.get? b = some o → h'.get? b = some o) → Q (.ref (s.heap.objs.size + 1)) { s with heap := h' }) :
    wpAny (model prog w) A (call (.type "enumerate") [v]) Q E s := by
  refine callType_new F.called_enumerate (by decide) (F.typeCall_enumerate_1 _) (F.newCall_enumerate_1 _) (fun obj => F.args_object_init_2 obj _) F.entry_enumerate_new
    (g48_enum_newB B) ⟨h1, ?_⟩
  have hz : (s.heap.push o).objs.size = s.heap.objs.size + 1 := Heap.size_push ..
  show _ ∧ _
  rw [hz]
  have he : IsEnum ((s.heap.push o).push
      { cls := .type "enumerate", data := .fields #[.none, .bool false, .ref s.heap.objs.size, rawInt 0, .none, .none] }) (s.heap.objs.size + 1) s.heap.objs.size 0 .none := by
    have := Heap.get?_push_size (s.heap.push o)
      (o := { cls := .type "enumerate", data := .fields #[.none, .bool false, .ref s.heap.objs.size, rawInt 0, .none, .none] }) rfl
    rw [hz] at this; exact this
  refine ⟨⟨_, he, rfl⟩, h _ he (Heap.get?_push_of_some _ (Heap.get?_push_size _ B.free)) (by rw [Heap.size_push, hz]) fun b o x => Heap.get?_push_of_some _ (Heap.get?_push_of_some _ x)⟩
end
end PySem
namespace G48
open PySem PySem.Spec PyProof.Rows L2 Evl
/-! ### enumerate(tuple) -/
def ItetG (K : PySem.W.Frag) (a : Addr) : It :=
  ⟨fun i H => ∃ (xs : List V) (x : V), SqT K H a xs ∧ xs[i]? = some x, fun i H v H' => ∃ T x, v = .ref T ∧ H T = none ∧ H' = upd H T (.tup [.int (i : Nat), x]) ∧ ∀ xs, SqT K H a xs → xs[i]? = some x, fun i H => ∃ xs : List V, SqT K H a xs ∧ xs.length ≤ i⟩
theorem turn_enumT {P : Program} {w : World} {K : PySem.W.Frag} {elts : List Expr} {kk : Nat} {tpos : Pos} (a e it : Addr) (ne1 : e ≠ it) (ne2 : e ≠ a) (ne3 : a ≠ it) :
    Turn P w K (.Tuple elts kk tpos) (ItetG K a) [e, it] e (fun i h => (∃ old, IsEnum h e it ((i : Nat) : Int) old) ∧ h.IsTupleIter it a i) where
  mem := by simp
  obj := fun i h st b hb => by
    obtain ⟨⟨old, he⟩, ⟨o, ho, hc, hd⟩⟩ := st
    have e' : b = e ∨ b = it := by simpa using hb
    rcases e' with z | z
    · rw [z]; exact ⟨_, he, fun v q => nomatch q⟩
    · rw [z]; exact ⟨o, ho, fun v q => by rw [hd] at q; cases q⟩
  keep := fun i h h' st k => let ⟨⟨old, he⟩, hi⟩ := st; ⟨⟨old, k e (by simp) _ he⟩, hi.at fun o q => k it (by simp) o q⟩
  item := by
    intro X hP hw hK hc i pins s σ H E I hf st hg
    subst hP hw hK
    obtain ⟨⟨old, he⟩, hit⟩ := st
    obtain ⟨xs, x, hq, hx⟩ := hg
    obtain ⟨its, rv, p, hz⟩ := I.tuple hq
    obtain ⟨u, hu, ru⟩ := rv.get hx
    have hel : e < s.heap.objs.size := Heap.lt_size he
    have hil : it < s.heap.objs.size := by obtain ⟨_, q, _⟩ := hit; exact Heap.lt_size q
    have hlt : i < its.toArray.size := by
      have := (List.getElem?_eq_some_iff.mp hu).1
      simpa using this
    have D : Draws X.prog X.w X.A.in1 it [it, a] its.toArray.size (fun i v => its.toArray[i]? = some v) (fun i h => h.IsTupleIter it a i ∧ h.IsTuple a its.toArray) := Draws.tuple (show X.A.in1.handled = none from I.ok.hd hc) it a ne3 its.toArray
    refine wpAny_pyNext_enum_itemC D he ⟨hit, show s.heap.IsTuple a its.toArray from p⟩ hlt ne1 (by simp [ne1, ne2]) fun y h' tk hy ho hst hT hsz hk => ?_
    have ey : y = u := by
      have h1 : its.toArray[i]? = some y := hy
      have h2 : its.toArray[i]? = some u := by simpa using hu
      rw [h1] at h2
      exact Option.some.inj h2
    subst ey
    refine ⟨_, rfl, wpAny_letOwnedTupleGo_enum (s := { s with heap := h', toks := tk + 1 }) ho fun h'' he' sb => ?_⟩
    have hT2 : h''.get? s.heap.objs.size = some { cls := .type "tuple", data := .seq #[.int i tk, y] } := (sb.2 _ (Nat.ne_of_gt hel)).trans hT
    have new : ObjOk X.prog X.w (upd H s.heap.objs.size (.tup [.int (i : Nat), x])) h'' s.heap.objs.size (.tup [.int (i : Nat), x]) :=
      ⟨by show 2 ≤ sizeLine; decide, [.int i tk, y], .cons ⟨_, rfl⟩ (.cons ru .nil), ⟨_, hT2, rfl, _, rfl⟩⟩
    have I1 : Inv X pins σ (upd H s.heap.objs.size (.tup [.int (i : Nat), x])) { s with heap := h'', toks := tk + 1 } :=
      I.turnedNew (ch := [e, it]) (fun b ob hb q => (sb.2 b (fun z => hb (by simp [z]))).trans (hk b ob (fun z => hb (by simp [z])) (fun z => hb (by simp [z])) q)) hf (Nat.le_refl _) new
    refine ⟨.ref s.heap.objs.size, _, I1, rfl, ⟨_, x, rfl, I.hok.fresh (Nat.le_refl _), rfl, fun ys hy => by rw [I.tuple_inj hy hq]; exact hx⟩, ⟨⟨y, ?_⟩, hst.1.at fun o q => (sb.2 it (Ne.symm ne1)).trans q⟩, fun b hb => ?_⟩
    · have e1 : ((i + 1 : Nat) : Int) = (i : Int) + 1 := by omega
      rw [e1]; exact he'
    · have hb' : b < s.heap.objs.size := by
        have e' : b = e ∨ b = it := by simpa using hb
        rcases e' with z | z
        · rw [z]; exact hel
        · rw [z]; exact hil
      rw [upd_ne (Nat.ne_of_lt hb')]
      exact (hf b hb).1
  done := by
    intro X hP hw hK hc i pins s σ H E I hf st hg
    subst hP hw hK
    obtain ⟨⟨old, he⟩, hit⟩ := st
    obtain ⟨xs, hq, hx⟩ := hg
    obtain ⟨its, rv, p, hz⟩ := I.tuple hq
    obtain ⟨f0, f1, f2, f3, f4, f5⟩ := hf it (by simp)
    have hl := rv.length
    have D : Draws X.prog X.w X.A.in1 it [it, a] i (fun _ _ => True) (fun j h => j = i ∧ h.IsTupleIter it a i ∧ h.IsTuple a its.toArray) :=
      { live := fun _ _ st => let ⟨_, ⟨o, ho, _⟩, _⟩ := st; ⟨o, ho⟩
        frame := fun _ _ _ st hk => ⟨st.1, st.2.1.at fun o e => hk it (by simp) o e, st.2.2.at fun o e => hk a (by simp) o e⟩
        item := fun j s Q E hi st hQ => absurd st.1 (Nat.ne_of_lt hi)
        done := fun s Q E st hE => wpAny_nextOf_tuple_end (show X.A.in1.handled = none from I.ok.hd hc) st.2.1 st.2.2 (by simp; omega) hE }
    exact wpAny_pyNext_enum_endD D he ⟨rfl, hit, show s.heap.IsTuple a its.toArray from p⟩ fun h' eb => ⟨rfl, I.turned (t' := s.toks) (fun b o hb q => eb b o hb q) f0 f1 f3 f4 f5⟩
  self := fun A i s Q E st h => let ⟨⟨_, he⟩, _⟩ := st; wpAny_pyIter_enum he h
def iEnumT (K : PySem.W.Frag) (ta : TA) : TI := fun σ H R => ta σ H fun vs H1 => ∃ a xs, vs = [.ref a] ∧ SqT K H1 a xs ∧ R (ItetG K a) H1
theorem pi_enumT {X : Cx} {e : Expr} {ta : TA} {p pos tpos : Pos} {elts : List Expr} {kk : Nat} (hg : Gl X "enumerate") (hm : X.mg "enumerate" = none) (ha : PA X [e] ta) (hs : starEach [e] X.env = [(false, eval e X.env)] := by rfl) :
    PI X (.Tuple elts kk tpos) (.Call (.Name "enumerate" p) [e] [] pos) (iEnumT X.K ta) := by
  refine ⟨fun pins s σ H R I h => ?_⟩
  refine Call_ (ld_blt I hg hm PyProof.Rows.boot_enumerate (PyProof.Rows.callWith_type1 (thn (ha.run pos pins s σ H _ I h) fun us s1 ⟨vs, H1, I1, r1, q1⟩ => ?_) hs rfl))
  obtain ⟨a, xs, ex, hq, q⟩ := q1
  subst ex
  cases r1 with
  | cons r rr =>
    cases rr
    cases r
    obtain ⟨its, rv, p', hz⟩ := I1.tuple hq
    have hal : a < s1.heap.objs.size := by
      obtain ⟨o, ho, _⟩ := id p'
      exact Heap.lt_size ho
    refine g48_call_enum (begins_tuple a its.toArray) (show s1.heap.IsTuple a its.toArray from p') fun h' he hit hsz hk => wpAny_pyIter_enum he ?_
    have I2 : Inv X pins σ H1 { s1 with heap := h' } := I1.kept (t' := s1.toks) hk
    refine ⟨s1.heap.objs.size + 1, [s1.heap.objs.size + 1, s1.heap.objs.size], _, _, H1, rfl, I2, turn_enumT a (s1.heap.objs.size + 1) s1.heap.objs.size (Nat.succ_ne_self _) (Nat.ne_of_gt (Nat.lt_succ_of_lt hal)) (Nat.ne_of_lt hal), ⟨⟨.none, he⟩, ⟨_, hit, rfl, rfl⟩⟩, fun b hb => ?_, q⟩
    have e' : b = s1.heap.objs.size + 1 ∨ b = s1.heap.objs.size := by simpa using hb
    have hle : s1.heap.objs.size ≤ b := by
      rcases e' with z | z
      · rw [z]; exact Nat.le_add_right _ _
      · rw [z]; exact Nat.le_refl _
    exact I1.fpOk hle (I1.hok.fresh hle)
section
variable {K : PySem.W.Frag} {a : Addr} {xs : List V}
theorem walk_enumT : Walk (ItetG K a) xs.length (fun H => SqT K H a xs) (YPair (fun i => some (.int (i : Nat))) (fun i => xs[i]?)) := by
  refine ⟨fun i _ hi q => ⟨xs, xs[i], q, by simp [hi]⟩, fun _ q => ⟨xs, q, Nat.le_refl _⟩, fun i H v H' _ q y => ?_⟩
  obtain ⟨T, x, h1, h2, h3, h4⟩ := y
  exact ⟨T, .int (i : Nat), x, h1, h2, h3, rfl, h4 xs q⟩
end
/-- the loop: each turn a pair (i, x) at a new place -/
def kForE (K : PySem.W.Frag) (g : TG) (tb : TS) (D : Ends) (σ : L2.St) (vs : List V) (H1 : Hp) : Prop := tFor (iEnumT K (fun _ H Q => Q vs H)) g tb D σ H1
section
variable {K : PySem.W.Frag} {σ : L2.St} {H : Hp} {tr : TA} {D : Ends} {t1 : TS} {g : TG} {a : Addr} {xs : List V}
theorem g_forE (q : tr σ H (kForE K g t1 D σ)) : tFor (iEnumT K tr) g t1 D σ H := q
theorem g_kForE (h : SqT K H a xs) (Pv : Nat → L2.St → Hp → Prop) (h0 : Pv 0 σ H) (hl : ∀ i σ H, i ≤ xs.length → Pv i σ H → SqT K H a xs)
    (hs : ∀ i x σ H T H', xs[i]? = some x → Pv i σ H → Ex H H' → H T = none → H' T = some (.tup [.int (i : Nat), x]) → g (.ref T) σ H' fun σ2 H2 => t1 { D with nx := Pv (i + 1), ct := Pv (i + 1), bk := D.nx } σ2 H2) (hd : ∀ σ H, Pv xs.length σ H → D.nx σ H) : kForE K g t1 D σ [.ref a] H :=
  ⟨a, xs, rfl, h, for_it walk_enumT Pv h0 hl (fun i x σ H H' hi p y => by
    obtain ⟨T, u, v, rfl, hT, rfl, e1, e2⟩ := y
    cases e1
    exact hs i v σ H T _ e2 p (Ex.new hT) hT upd_same) hd⟩
def kForEL (K : PySem.W.Frag) (g : TG) (tb : TS) (D : Ends) (σ : L2.St) (vs : List V) (H1 : Hp) : Prop := tFor (iEnum K (fun _ H Q => Q vs H)) g tb D σ H1
theorem g_forEL (q : tr σ H (kForEL K g t1 D σ)) : tFor (iEnum K tr) g t1 D σ H := q
theorem g_kForEL (h : SqL K H a xs) (Pv : Nat → L2.St → Hp → Prop) (h0 : Pv 0 σ H) (hl : ∀ i σ H, i ≤ xs.length → Pv i σ H → SqL K H a xs)
    (hs : ∀ i x σ H T H', xs[i]? = some x → Pv i σ H → Ex H H' → H T = none → H' T = some (.tup [.int (i : Nat), x]) → g (.ref T) σ H' fun σ2 H2 => t1 { D with nx := Pv (i + 1), ct := Pv (i + 1), bk := D.nx } σ2 H2) (hd : ∀ σ H, Pv xs.length σ H → D.nx σ H) : kForEL K g t1 D σ [.ref a] H :=
  ⟨a, xs, rfl, h, for_it walk_enum Pv h0 hl (fun i x σ H H' hi p y => by
    obtain ⟨T, u, v, rfl, hT, rfl, e1, e2⟩ := y
    cases e1
    exact hs i v σ H T _ e2 p (Ex.new hT) hT upd_same) hd⟩
end
/-! ### max and min of a tuple of ints -/
theorem maxOf_fold : ∀ (ns : List Int) (x : Int), (PySem.W.maxOf x ns = x ∨ PySem.W.maxOf x ns ∈ ns) ∧ x ≤ PySem.W.maxOf x ns ∧ ∀ y ∈ ns, y ≤ PySem.W.maxOf x ns
  | [], x => ⟨.inl rfl, Int.le_refl _, fun y h => by cases h⟩
  | y :: r, x => by
    have e : PySem.W.maxOf x (y :: r) = PySem.W.maxOf (if decide (x < y) = true then y else x) r := rfl
    rw [e]
    by_cases h : x < y
    · rw [if_pos (decide_eq_true h)]
      obtain ⟨h1, h2, h3⟩ := maxOf_fold r y
      refine ⟨?_, by omega, fun z hz => ?_⟩
      · rcases h1 with h1 | h1
        · exact .inr (by rw [h1]; exact List.mem_cons_self)
        · exact .inr (List.mem_cons_of_mem _ h1)
      · rcases List.mem_cons.mp hz with rfl | hz
        · exact h2
        · exact h3 z hz
    · rw [if_neg (by simpa using h)]
      obtain ⟨h1, h2, h3⟩ := maxOf_fold r x
      refine ⟨?_, h2, fun z hz => ?_⟩
      · rcases h1 with h1 | h1
        · exact .inl h1
        · exact .inr (List.mem_cons_of_mem _ h1)
      · rcases List.mem_cons.mp hz with rfl | hz
        · omega
        · exact h3 z hz
/-- the greatest of ints -/
def mx : List Int → Int
  | [] => 0
  | [x] => x
  | x :: y :: r => max x (mx (y :: r))
theorem mx_mem : ∀ {ns : List Int}, ns ≠ [] → mx ns ∈ ns
  | [], h => absurd rfl h
  | [x], _ => List.mem_cons_self
  | x :: y :: r, _ => by
    have ih := mx_mem (ns := y :: r) (List.cons_ne_nil _ _)
    show max x (mx (y :: r)) ∈ x :: y :: r
    by_cases h : mx (y :: r) ≤ x
    · rw [Int.max_eq_left h]
      exact List.mem_cons_self
    · rw [Int.max_eq_right (by omega)]
      exact List.mem_cons_of_mem _ ih
theorem le_mx : ∀ {ns : List Int} {y : Int}, y ∈ ns → y ≤ mx ns
  | [], _, h => by cases h
  | [x], y, h => by
    rcases List.mem_cons.mp h with rfl | h
    · exact Int.le_refl _
    · cases h
  | x :: z :: r, y, h => by
    show y ≤ max x (mx (z :: r))
    rcases List.mem_cons.mp h with rfl | h
    · omega
    · have := le_mx h
      omega
theorem mx_eq {ns : List Int} {m : Int} (h : m ∈ ns) (hl : ∀ y ∈ ns, y ≤ m) : m = mx ns := by
  have h1 := le_mx h
  have h2 := hl _ (mx_mem (List.ne_nil_of_mem h))
  omega
def rMaxT (K : PySem.W.Frag) : List V → Hp → VK → Prop := fun vs H Q => ∃ (a : Addr) (ns : List Int), vs = [V.ref a] ∧ SqT K H a (ns.map V.int) ∧ ns ≠ [] ∧ Q (.int (mx ns)) H
theorem cr_maxT {X : Cx} (hc : X.calm = true) (hu : X.A.units + 64 < cLine) : CallR X (.builtin "max") (rMaxT X.K) := by
  intro pins s σ H vs us Q I r h
  obtain ⟨a, ns, rfl, hs, hne, q⟩ := h
  obtain ⟨its, rv, hl, _⟩ := I.tuple hs
  rw [Vals.ref1 r]
  cases ns with
  | nil => exact absurd rfl hne
  | cons x ns =>
    refine PySem.W.max_tuple_datum (I.ok.hd hc) (show s.heap.IsTuple a its.toArray from hl) (x := x) (xs := ns) (PySem.W.HoldAll.of_ints (by simpa using rv.ints)) (by show X.A.units + 1 + 0 < cLine; omega) fun i v h' tk hi hv hk => ?_
    obtain ⟨as, hr⟩ := hv
    obtain ⟨h1, h2, h3⟩ := maxOf_fold ns x
    have e : PySem.W.maxOf x ns = mx (x :: ns) := by
      refine mx_eq ?_ ?_
      · rcases h1 with h1 | h1
        · rw [h1]; exact List.mem_cons_self
        · exact List.mem_cons_of_mem _ h1
      · intro y hy
        rcases List.mem_cons.mp hy with rfl | hy
        · exact h2
        · exact h3 y hy
    rw [e] at hr
    have hv : ∃ t, v = .int (mx (x :: ns)) t := by
      have hr2 : Reads h' v (.int (mx (x :: ns))) as := hr
      cases hr2
      exact ⟨_, rfl⟩
    obtain ⟨t, rfl⟩ := hv
    exact ⟨.int (mx (x :: ns)), H, I.kept hk, ⟨_, rfl⟩, q⟩
theorem g_maxT {K : PySem.W.Frag} {H : Hp} {a : Addr} {ns : List Int} {Q : VK} (h : SqT K H a (ns.map V.int)) (hn : ns ≠ []) (q : Q (.int (mx ns)) H) : rMaxT K [.ref a] H Q := ⟨a, ns, rfl, h, hn, q⟩
theorem g_maxL {K : PySem.W.Frag} {H : Hp} {a : Addr} {ns : List Int} {Q : VK} (h : SqL K H a (ns.map V.int)) (hn : ns ≠ []) (q : Q (.int (mx ns)) H) : rMax K [.ref a] H Q :=
  ⟨a, ns, rfl, h, List.length_pos_iff.mpr hn, fun m h1 h2 => by rw [mx_eq h1 h2]; exact q⟩
/-! ### tuple(list): the tuple's own object is told (a tuple's methods ask that it has no dict) -/
def TupK (H : Hp) (a : Addr) (xs : List V) : Prop := ∃ o, H a = some (.frz o (.tup xs)) ∧ o.cls = .type "tuple" ∧ o.dict = none
theorem TupK.sq {K : PySem.W.Frag} {H : Hp} {a : Addr} {xs : List V} (h : TupK H a xs) : SqT K H a xs := by
  obtain ⟨o, e, _⟩ := h
  exact .inl (.inr ⟨o, e⟩)
theorem TupK.ex {H H' : Hp} {a : Addr} {xs : List V} (e : Ex H H') (h : TupK H a xs) : TupK H' a xs := by
  obtain ⟨o, h, c⟩ := h
  exact ⟨o, e _ _ h, c⟩
theorem TupK.exb {H H' : Hp} {l a : Addr} {xs ys : List V} (e : Exb l H H') (hl : H l = some (.lst ys)) (h : TupK H a xs) : TupK H' a xs := by
  obtain ⟨o, h, c⟩ := h
  exact ⟨o, e _ _ (ne_of h hl (by intro z; cases z)) h, c⟩
def rTupD (K : PySem.W.Frag) : List V → Hp → VK → Prop := fun xs H Q => ∃ p ys, xs = [.ref p] ∧ ((SqL K H p ys ∧ ∀ l o, H l = none → o.cls = .type "tuple" → o.dict = none → Q (.ref l) (upd H l (.frz o (.tup ys)))) ∨ (SqT K H p ys ∧ Q (.ref p) H))
theorem c_tuple_of {X : Cx} : CallR X (.type "tuple") (rTupD X.K) := by
  intro pins s σ H xs us Q I r h
  obtain ⟨p, ys, rfl, h⟩ := h
  obtain ⟨u, rfl, rx⟩ := vals1 r
  cases rx
  rcases h with ⟨hq, q⟩ | ⟨hq, q⟩
  · obtain ⟨its, r', pl, hz⟩ := I.list hq
    have hlen := r'.length
    refine call_tuple_list pl.isList (fun h' kp => ?_) (by simp only [List.size_toArray] <;> omega)
    have I1 : Inv X pins σ H { s with heap := h' } := I.kept (t' := s.toks) kp
    have I2 : Inv X pins σ (upd H h'.objs.size (.frz { cls := .type "tuple", data := .seq its.toArray } (.tup ys))) { s with heap := h'.push { cls := .type "tuple", data := .seq its.toArray } } :=
      I1.laid (t' := s.toks) (fun b o e => Heap.get?_push_of_some _ e) (Nat.le_refl _) (show ObjOk X.prog X.w _ _ _ (.frz { cls := .type "tuple", data := .seq its.toArray } (.tup ys)) from ⟨Heap.get?_push_size _ rfl, hz, its, r', IsTup.new _ _⟩)
    exact ⟨.ref h'.objs.size, _, I2, rfl, q _ _ (I1.hok.fresh (Nat.le_refl _)) rfl rfl⟩
  · obtain ⟨its, r', pl, hz⟩ := I.tuple hq
    exact call_tuple_same pl ⟨.ref p, H, I, rfl, q⟩
theorem g_tupD {K : PySem.W.Frag} {H : Hp} {a : Addr} {xs : List V} {Q : VK} (h : SqL K H a xs) (q : ∀ p H2, H p = none → Ex H H2 → TupK H2 p xs → Q (.ref p) H2) : rTupD K [.ref a] H Q :=
  ⟨a, xs, rfl, .inl ⟨h, fun p o hp h1 h2 => q p _ hp (Ex.new hp) ⟨o, upd_same, h1, h2⟩⟩⟩
/-- t.index(n) -/
def tBMT (r : V → List V → Hp → VK → Prop) (to : TE) (t : TA) : TE := fun σ H Q => to σ H fun x H1 => (∃ p xs, x = .ref p ∧ TupK H1 p xs) ∧ t σ H1 fun ys H2 => r x ys H2 Q
section
variable {X : Cx} {o e : Expr} {es : List Expr} {to : TE} {t : TA} {name : Str} {apos cpos : Pos} {id : String} {r : V → List V → Hp → VK → Prop}
theorem pe_bmT (slot : Slot "tuple" name id) (hty : typeOf (.builtin id) = pure (.type "method_descriptor")) (hm : MtR X id r) (ho : PE X o to) (ha : PA X (e :: es) t)
    (hbase : attributeBase o name X.env (eval o X.env) = eval o X.env := by rfl)
    (hfew : ((backTo cpos (starEach (e :: es) X.env)).all (fun x => !x.1) && (backToKw cpos (keywordEach [] X.env)).all (fun x => x.1.isSome)
      && decide ((e :: es).length + ([] : List Keyword).length + (if ([] : List Keyword).isEmpty then 0 else 1) < 30)) = true := by rfl)
    (hline : (apos.endLine == cpos.line) = true := by rfl) (hs : starEach (e :: es) X.env = (false, eval e X.env) :: starEach es X.env := by rfl) (hplain : (backTo cpos (starEach es X.env)).any (·.1) = false := by rfl) :
    PE X (.Call (.Attribute o name apos) (e :: es) [] cpos) (tBMT r to t) := by
  refine ⟨fun pins s σ H Q I h => ?_⟩
  refine wpAny_Call_method_late hbase hfew hline rfl (thn (ho.run pins s σ H _ I h) fun v s1 ⟨x, H1, I1, r1, ⟨p, xs, ex, ob, eo, oc, od⟩, q1⟩ => ?_)
  subst ex
  obtain rfl : v = Value.ref p := r1
  obtain ⟨hob, _⟩ := I1.hok p _ eo
  refine ⟨"tuple", id, PySem.F.plainAttrs_tuple, slot, hty, ⟨ob, hob, oc⟩, fun a e => ?_, ?_⟩
  · cases e
    exact ⟨ob, hob, od⟩
  have hA := ha.run cpos pins s1 σ H1 _ I1 q1
  rw [hs] at hA ⊢
  refine Calls.callWith_builtin (by show (false || (backTo cpos (starEach es X.env)).any (·.1)) = false; rw [hplain] <;> rfl) (Calls.evalArgs_plain ?_)
  exact thn hA fun us s2 ⟨vs, H2, I2, r2, q2⟩ => hm pins s2 σ H2 (.ref p) vs (.ref p) us Q I2 rfl r2 q2
def rIndexTI (K : PySem.W.Frag) : V → List V → Hp → VK → Prop := fun x xs H Q => ∃ (p : Addr) (ys : List Int) (z : Int) (j : Nat), x = .ref p ∧ xs = [.int z] ∧ SqT K H p (ys.map V.int) ∧ ys[j]? = some z ∧ (∀ m, m < j → ys[m]? ≠ some z) ∧ Q (.int (j : Nat)) H
theorem flat_ints (ys : List Int) : (ys.map V.int).all flatV = true := by
  rw [List.all_map]
  exact List.all_eq_true.mpr fun _ _ => rfl
theorem mt_indexTI : MtR X "tuple.index" (rIndexTI X.K) := by
  intro pins s σ H x xs v us Q I rx rs h
  obtain ⟨p, ys, z, j, rfl, rfl, hq, hy, hno, q⟩ := h
  cases rx
  obtain ⟨u, rfl, t, rfl⟩ := vals1 rs
  obtain ⟨its, r, pl, hz⟩ := I.tuple hq
  obtain ⟨⟨cls, dd, dt, sl⟩, ho, hc, n, hd⟩ := pl
  simp only at hc hd
  subst hc
  subst hd
  have hl : its.toArray.size = ys.length := by rw [List.size_toArray, ← r.length, List.length_map]
  have hj : j < its.toArray.size := by rw [hl]; exact (List.getElem?_eq_some_iff.mp hy).1
  have at' : ∀ (m : Nat) (hm : m < its.toArray.size), ∃ y t', ys[m]? = some y ∧ its.toArray[m] = Value.int y t' := fun m hm => by
    have hm' : m < ys.length := by rw [← hl]; exact hm
    obtain ⟨w, hw, t', hw'⟩ := r.get (i := m) (x := .int ys[m]) (by simp [hm'])
    refine ⟨ys[m], t', List.getElem?_eq_getElem hm', ?_⟩
    have e := (List.getElem?_eq_some_iff.mp hw).2
    rw [← hw', ← e]
    simp
  refine call_meets PySem.F.slot_tuple_index ⟨_, ho, rfl⟩ PySem.F.entry_tuple_index (PySem.F.args_tuple_index_2 _ _) (TI.tuple_indexAt p its.toArray n dd sl (.int z t) (eqU (.int z)) j hj ?_ ?_)
    ⟨ho, fun w hw => mem_eqAt (x := .int z) ⟨t, rfl⟩ rfl r (flat_ints ys) w (by simpa using hw), ⟨.int (j : Nat), H, I.tok _, ⟨_, rfl⟩, q⟩⟩
  · obtain ⟨y, t', h1, h2⟩ := at' j hj
    rw [hy] at h1
    cases h1
    rw [h2]
    show (z == z) = true
    exact beq_self_eq_true z
  · intro m hm hmj
    obtain ⟨y, t', h1, h2⟩ := at' m hm
    rw [h2]
    show (y == z) = false
    refine beq_eq_false_iff_ne.mpr fun e => ?_
    subst e
    exact hno m hmj h1
theorem g_bmT {σ : L2.St} {H : Hp} {Q : VK} (q : to σ H fun x H1 => (∃ p xs, x = .ref p ∧ TupK H1 p xs) ∧ t σ H1 fun ys H2 => r x ys H2 Q) : tBMT r to t σ H Q := q
end
end G48
namespace G48
open PySem PySem.Spec PyProof.Rows L2 Evl
/-! ### comprehensions -/
def kLcE (D : Addr) (N : Hp → Prop) : VK := fun y H4 => ∃ acc, H4 D = some (.lst acc) ∧ acc.length < sizeLine ∧ N (upd H4 D (.lst (acc ++ [y])))
def kLcT (te : TE) (σ2 : L2.St) (D : Addr) (N : Hp → Prop) (b : Bool) (H3 : Hp) : Prop := if b = true then te σ2 H3 (kLcE D N) else N H3
def kLcG (tt : TT) (te : TE) (vs : List Nat) (σ : L2.St) (D : Addr) (N : Hp → Prop) (σ2 : L2.St) (H2 : Hp) : Prop := wipe σ2 vs = wipe σ vs ∧ tt σ2 H2 (kLcT te σ2 D N)
/-! within a comprehension the part of the heap is named -/
section
variable {X : Cx} {e : Expr} {ta : TE} {f : Str} {pos : Pos} {es : List Expr} {k n : Nat} {t : TGs}
theorem ix_tupK (K : PySem.W.Frag) (h : X.K = K := by rfl) : IxR X (rIxT K) := by subst h; exact ix_tup
theorem ix_listK (K : PySem.W.Frag) (h : X.K = K := by rfl) : IxR X (rIxL K) := by subst h; exact ix_list
theorem c_lenK (K : PySem.W.Frag) (h : X.K = K := by rfl) : CallR X (.builtin "len") (rLen K) := by subst h; exact c_len
theorem pe_fldK (K : PySem.W.Frag) (he : PE X e ta) (hb : attributeBase e f X.env (eval e X.env) = eval e X.env) (h : X.K = K := by rfl) : PE X (.Attribute e f pos) (tFld K ta f) := by subst h; exact pe_fld he hb
theorem pg_tupK (K : PySem.W.Frag) (hc : X.calm = true) (h : PGs X es t)
    (hn : (assignEach es X.env).length = n := by rfl) (hst : (assignEach es X.env).findIdx? (·.1) = none := by rfl) (hK : X.K = K := by rfl) : PG X (.Tuple es k pos) (gTup K n t) := by subst hK; exact pg_tup hc h hn hst
end
section
variable {K : PySem.W.Frag} {σ σ2 : L2.St} {H : Hp} {D : Addr} {N : Hp → Prop} {acc : List V} {y : V} {te : TE} {tt : TT} {vs : List Nat} {b : Bool} {Q : VK} {g : TG} {tr : TA} {tl : TE} {a : Addr} {xs : List V}
theorem g_kLcE (h : H D = some (.lst acc)) (z : acc.length < sizeLine) (q : ∀ H', Exb D H H' → H' D = some (.lst (acc ++ [y])) → N H') : kLcE D N y H := ⟨acc, h, z, q _ Exb.upd upd_same⟩
theorem g_kLcTT (q : te σ2 H (kLcE D N)) : kLcT te σ2 D N true H := q
theorem g_kLcTF (q : N H) : kLcT te σ2 D N false H := q
theorem g_kLcT (h1 : b = true → te σ2 H (kLcE D N)) (h2 : b = false → N H) : kLcT te σ2 D N b H := by
  cases b with
  | true => exact h1 rfl
  | false => exact h2 rfl
theorem y_kLcT (hc : b = true) (q : te σ2 H (kLcE D N)) : kLcT te σ2 D N b H := by rw [hc]; exact q
theorem n_kLcT (hc : b = false) (q : N H) : kLcT te σ2 D N b H := by rw [hc]; exact q
theorem g_kLcG (h : wipe σ2 vs = wipe σ vs) (q : tt σ2 H (kLcT te σ2 D N)) : kLcG tt te vs σ D N σ2 H := ⟨h, q⟩
theorem g_yes {QB : Bool → Hp → Prop} (q : QB true H) : tYes σ H QB := q
/-- over range(n) -/
def kLcR1 (g : TG) (tt : TT) (te : TE) (vs : List Nat) (σ : L2.St) (Q : VK) (ws : List V) (H1 : Hp) : Prop := tLc (iRng1 (fun _ H Q => Q ws H)) g tt te vs σ H1 Q
theorem g_lcR1 (q : tr σ H (kLcR1 g tt te vs σ Q)) : tLc (iRng1 tr) g tt te vs σ H Q := q
theorem g_kLcR1 {n : Int} (hn : 0 ≤ n ∧ n < 2 ^ 62) (Pv : Addr → Nat → Hp → Prop) (h0 : ∀ D H1, H D = none → Ex H H1 → H1 D = some (.lst []) → Pv D 0 H1)
    (hs : ∀ D (i : Nat) H2, H D = none → (i : Int) < n → Pv D i H2 → g (.int (i : Int)) (wipe σ vs) H2 (kLcG tt te vs σ D (Pv D (i + 1))))
    (hd : ∀ D H2, H D = none → Pv D n.toNat H2 → Q (.ref D) H2) : kLcR1 g tt te vs σ Q [.int n] H :=
  ⟨n, rfl, by omega, by omega, fun D hD => lc_range (lo := 0) (n := n.toNat) (Pv D) (h0 D _ hD (Ex.new hD) upd_same) (fun i H2 hi p => by
    have e0 : (0 : Int) + (i : Int) = (i : Int) := Int.zero_add _
    rw [e0]
    exact hs D i H2 hD (by omega) p) (fun H2 p => hd D H2 hD p)⟩
/-- over range(a, b) -/
def kLcR2 (g : TG) (tt : TT) (te : TE) (vs : List Nat) (σ : L2.St) (Q : VK) (ws : List V) (H1 : Hp) : Prop := tLc (iRng2 (fun _ H Q => Q ws H)) g tt te vs σ H1 Q
theorem g_lcR2 (q : tr σ H (kLcR2 g tt te vs σ Q)) : tLc (iRng2 tr) g tt te vs σ H Q := q
theorem g_kLcR2 {lo n : Int} (hn : -(2 ^ 62) ≤ lo ∧ lo < 2 ^ 62 ∧ -(2 ^ 62) ≤ n ∧ n < 2 ^ 62) (Pv : Addr → Nat → Hp → Prop) (h0 : ∀ D H1, H D = none → Ex H H1 → H1 D = some (.lst []) → Pv D 0 H1)
    (hs : ∀ D (i : Nat) H2, H D = none → lo + (i : Int) < n → Pv D i H2 → g (.int (lo + (i : Int))) (wipe σ vs) H2 (kLcG tt te vs σ D (Pv D (i + 1))))
    (hd : ∀ D H2, H D = none → Pv D (n - lo).toNat H2 → Q (.ref D) H2) : kLcR2 g tt te vs σ Q [.int lo, .int n] H :=
  ⟨lo, n, rfl, hn, fun D hD => lc_range (lo := lo) (n := (n - lo).toNat) (Pv D) (h0 D _ hD (Ex.new hD) upd_same) (fun i H2 hi p => hs D i H2 hD (by omega) p) (fun H2 p => hd D H2 hD p)⟩
/-- over a list -/
def kLcL (K : PySem.W.Frag) (g : TG) (tt : TT) (te : TE) (vs : List Nat) (σ : L2.St) (Q : VK) : VK := fun x H1 => tLc (iList K (tC x)) g tt te vs σ H1 Q
theorem g_lcL (q : tl σ H (kLcL K g tt te vs σ Q)) : tLc (iList K tl) g tt te vs σ H Q := q
theorem g_kLcL (h : SqL K H a xs) (Pv : Addr → Nat → Hp → Prop) (h0 : ∀ D H1, H D = none → Ex H H1 → H1 D = some (.lst []) → Pv D 0 H1) (hl : ∀ D i H2, H D = none → i ≤ xs.length → Pv D i H2 → SqL K H2 a xs)
    (hs : ∀ D (i : Nat) x H2, H D = none → xs[i]? = some x → Pv D i H2 → g x (wipe σ vs) H2 (kLcG tt te vs σ D (Pv D (i + 1))))
    (hd : ∀ D H2, H D = none → Pv D xs.length H2 → Q (.ref D) H2) : kLcL K g tt te vs σ Q (.ref a) H :=
  ⟨a, rfl, ⟨xs, h⟩, fun D hD => lc_list (xs := xs) (Pv D) (h0 D _ hD (Ex.new hD) upd_same) (fun i H2 hi p => hl D i H2 hD hi p) (fun i x H2 hi p => hs D i x H2 hD hi p) (fun H2 p => hd D H2 hD p)⟩
/-- over a tuple -/
def kLcU (K : PySem.W.Frag) (g : TG) (tt : TT) (te : TE) (vs : List Nat) (σ : L2.St) (Q : VK) : VK := fun x H1 => tLc (iTup K (tC x)) g tt te vs σ H1 Q
theorem g_lcU (q : tl σ H (kLcU K g tt te vs σ Q)) : tLc (iTup K tl) g tt te vs σ H Q := q
theorem g_kLcU (h : SqT K H a xs) (Pv : Addr → Nat → Hp → Prop) (h0 : ∀ D H1, H D = none → Ex H H1 → H1 D = some (.lst []) → Pv D 0 H1) (hl : ∀ D i H2, H D = none → i ≤ xs.length → Pv D i H2 → SqT K H2 a xs)
    (hs : ∀ D (i : Nat) x H2, H D = none → xs[i]? = some x → Pv D i H2 → g x (wipe σ vs) H2 (kLcG tt te vs σ D (Pv D (i + 1))))
    (hd : ∀ D H2, H D = none → Pv D xs.length H2 → Q (.ref D) H2) : kLcU K g tt te vs σ Q (.ref a) H :=
  ⟨a, rfl, ⟨xs, h⟩, fun D hD => lc_tup (xs := xs) (Pv D) (h0 D _ hD (Ex.new hD) upd_same) (fun i H2 hi p => hl D i H2 hD hi p) (fun i x H2 hi p => hs D i x H2 hD hi p) (fun H2 p => hd D H2 hD p)⟩
/-- over enumerate(tuple) -/
def kLcN (K : PySem.W.Frag) (g : TG) (tt : TT) (te : TE) (vs : List Nat) (σ : L2.St) (Q : VK) (ws : List V) (H1 : Hp) : Prop := tLc (iEnumT K (fun _ H Q => Q ws H)) g tt te vs σ H1 Q
theorem g_lcN (q : tr σ H (kLcN K g tt te vs σ Q)) : tLc (iEnumT K tr) g tt te vs σ H Q := q
theorem g_kLcN (h : SqT K H a xs) (Pv : Addr → Nat → Hp → Prop) (h0 : ∀ D H1, H D = none → Ex H H1 → H1 D = some (.lst []) → Pv D 0 H1) (hl : ∀ D i H2, H D = none → i ≤ xs.length → Pv D i H2 → SqT K H2 a xs)
    (hs : ∀ D (i : Nat) x H2 T H3, H D = none → xs[i]? = some x → Pv D i H2 → Ex H2 H3 → H2 T = none → H3 T = some (.tup [.int (i : Int), x]) → g (.ref T) (wipe σ vs) H3 (kLcG tt te vs σ D (Pv D (i + 1))))
    (hd : ∀ D H2, H D = none → Pv D xs.length H2 → Q (.ref D) H2) : kLcN K g tt te vs σ Q [.ref a] H :=
  ⟨a, xs, rfl, h, fun D hD => lc_it walk_enumT (Pv D) (h0 D _ hD (Ex.new hD) upd_same) (fun i H2 hi p => hl D i H2 hD hi p) (fun i x H2 H3 hi p y => by
    obtain ⟨T, u, v, rfl, hT, rfl, e1, e2⟩ := y
    cases e1
    exact hs D i v H2 T _ hD e2 p (Ex.new hT) hT upd_same) (fun H2 p => hd D H2 hD p)⟩
end
end G48
namespace G48
open PySem PySem.Spec PyProof.Rows L2 Evl
/-! ### x in a tuple of data -/
def rInU (K : PySem.W.Frag) : R2 := fun x y H Q => ∃ d ds, Dp K H x d ∧ Dp K H y (.tuple ds) ∧ SeqAt.shaped d = true ∧ SeqAt.shaped (.tuple ds) = true ∧ Q (.bl (ds.any fun z => PyData.eqv z d)) H
def rNotInU (K : PySem.W.Frag) : R2 := fun x y H Q => ∃ d ds, Dp K H x d ∧ Dp K H y (.tuple ds) ∧ SeqAt.shaped d = true ∧ SeqAt.shaped (.tuple ds) = true ∧ Q (.bl (!ds.any fun z => PyData.eqv z d)) H
section
variable {X : Cx}
theorem op_inU {k : Nat} (hr : Room k X.A) : OpR X (compareOp .In) (rInU X.K) := by
  intro pins s σ H x y v u Q I rx ry h
  obtain ⟨d, ds, hd, he, sd, se, q⟩ := h
  obtain ⟨as, r1⟩ := Dp.reads I d x v hd rx
  obtain ⟨bs, r2⟩ := Dp.reads I (.tuple ds) y u he ry
  exact SeqAt.in_tuple_reads r2 r1 (SeqAt.canLay_of_shaped se) (SeqAt.canLay_of_shaped sd) (room_in_shaped sd (by have := hr.un; omega)) ⟨.bl _, H, I, rfl, q⟩
theorem op_notInU {k : Nat} (hr : Room k X.A) : OpR X (compareOp .NotIn) (rNotInU X.K) := by
  intro pins s σ H x y v u Q I rx ry h
  obtain ⟨d, ds, hd, he, sd, se, q⟩ := h
  obtain ⟨as, r1⟩ := Dp.reads I d x v hd rx
  obtain ⟨bs, r2⟩ := Dp.reads I (.tuple ds) y u he ry
  exact SeqAt.notIn_tuple_reads r2 r1 (SeqAt.canLay_of_shaped se) (SeqAt.canLay_of_shaped sd) (room_in_shaped sd (by have := hr.un; omega)) ⟨.bl _, H, I, rfl, q⟩
end
/-! ### pairs of ints -/
def pairD (p : Int × Int) : PyData := .tuple [.int p.1, .int p.2]
theorem pairD_eqv (p q : Int × Int) : PyData.eqv (pairD p) (pairD q) = decide (p = q) := by
  rw [Bool.eq_iff_iff]
  obtain ⟨a, b⟩ := p
  obtain ⟨c, d⟩ := q
  simp [pairD, PyData.eqv, PyData.eqvAll]
theorem pairD_inj {p q : Int × Int} (h : pairD p = pairD q) : p = q := by
  obtain ⟨a, b⟩ := p
  obtain ⟨c, d⟩ := q
  unfold pairD at h
  simp at h
  rw [h.1, h.2]
theorem pairD_lay (p : Int × Int) : (pairD p).canLay0 = true := by simp [pairD, PyData.canLay0, PyData.canLayAll0]
theorem pairD_depth (p : Int × Int) : (pairD p).depth = 1 := by simp [pairD, PyData.depth, PyData.depthAll]
theorem pairsD_lay : ∀ ps : List (Int × Int), PyData.canLayAll0 (ps.map pairD) = true
  | [] => by simp [PyData.canLayAll0]
  | z :: zs => by simp [PyData.canLayAll0, pairD_lay z, pairsD_lay zs]
theorem pairsD_depth : ∀ ps : List (Int × Int), PyData.depthAll (ps.map pairD) ≤ 1
  | [] => by simp [PyData.depthAll]
  | z :: zs => by
    have h1 := pairsD_depth zs
    have h2 := pairD_depth z
    simp only [List.map_cons, PyData.depthAll]
    omega
theorem pairD_sh (p : Int × Int) : SeqAt.shaped (pairD p) = true := by
  have h := pairD_depth p
  show ((pairD p).canLay0 && decide ((pairD p).depth ≤ 64)) = true
  rw [Bool.and_eq_true]
  exact ⟨pairD_lay p, decide_eq_true (by omega)⟩
theorem pairsT_sh (ps : List (Int × Int)) : SeqAt.shaped (.tuple (ps.map pairD)) = true := by
  have h1 := pairsD_depth ps
  have h2 : PyData.depth (.tuple (ps.map pairD)) ≤ 64 := by
    simp only [PyData.depth]
    omega
  show (PyData.canLay0 (.tuple (ps.map pairD)) && decide (PyData.depth (.tuple (ps.map pairD)) ≤ 64)) = true
  rw [Bool.and_eq_true]
  exact ⟨by simp only [PyData.canLay0]; exact pairsD_lay ps, decide_eq_true h2⟩
theorem pairsL_sh (ps : List (Int × Int)) : SeqAt.shaped (.list (ps.map pairD)) = true := by
  have h1 := pairsD_depth ps
  have h2 : PyData.depth (.list (ps.map pairD)) ≤ 64 := by
    simp only [PyData.depth]
    omega
  show (PyData.canLay0 (.list (ps.map pairD)) && decide (PyData.depth (.list (ps.map pairD)) ≤ 64)) = true
  rw [Bool.and_eq_true]
  exact ⟨by simp only [PyData.canLay0]; exact pairsD_lay ps, decide_eq_true h2⟩
theorem non_sh : SeqAt.shaped .none = true := by
  show (PyData.canLay0 .none && decide (PyData.depth .none ≤ 64)) = true
  rw [Bool.and_eq_true]
  exact ⟨by simp [PyData.canLay0], decide_eq_true (by simp [PyData.depth])⟩
def pairV (K : PySem.W.Frag) (H : Hp) (x : V) (p : Int × Int) : Prop := ∃ a, x = .ref a ∧ SqT K H a [.int p.1, .int p.2]
theorem pairV.dp {K : PySem.W.Frag} {H : Hp} {x : V} {p : Int × Int} (h : pairV K H x p) : Dp K H x (pairD p) := by
  obtain ⟨a, rfl, h⟩ := h
  exact .tup h (.cons (.int _) (.cons (.int _) .nil))
def pairsV (K : PySem.W.Frag) (H : Hp) : List V → List (Int × Int) → Prop
  | [], [] => True
  | x :: xs, p :: ps => pairV K H x p ∧ pairsV K H xs ps
  | _, _ => False
theorem pairsV.dp {K : PySem.W.Frag} {H : Hp} : ∀ {xs : List V} {ps : List (Int × Int)}, pairsV K H xs ps → DpAll K H xs (ps.map pairD)
  | [], [], _ => .nil
  | _ :: _, _ :: _, h => .cons h.1.dp (pairsV.dp h.2)
  | [], _ :: _, h => h.elim
  | _ :: _, [], h => h.elim
theorem pairsV.len {K : PySem.W.Frag} {H : Hp} : ∀ {xs : List V} {ps : List (Int × Int)}, pairsV K H xs ps → xs.length = ps.length
  | [], [], _ => rfl
  | _ :: xs, _ :: ps, h => by rw [List.length_cons, List.length_cons, pairsV.len h.2]
  | [], _ :: _, h => h.elim
  | _ :: _, [], h => h.elim
theorem pairV.imp {K : PySem.W.Frag} {H H' : Hp} {x : V} {p : Int × Int} (e : ∀ a xs, SqT K H a xs → SqT K H' a xs) (h : pairV K H x p) : pairV K H' x p := let ⟨a, ex, h⟩ := h; ⟨a, ex, e _ _ h⟩
theorem pairsV.imp {K : PySem.W.Frag} {H H' : Hp} (e : ∀ a xs, SqT K H a xs → SqT K H' a xs) : ∀ {xs : List V} {ps : List (Int × Int)}, pairsV K H xs ps → pairsV K H' xs ps
  | [], [], _ => trivial
  | _ :: _, _ :: _, h => ⟨h.1.imp e, pairsV.imp e h.2⟩
  | [], _ :: _, h => h.elim
  | _ :: _, [], h => h.elim
theorem pairsV.ex {K : PySem.W.Frag} {H H' : Hp} {xs : List V} {ps : List (Int × Int)} (e : Ex H H') (h : pairsV K H xs ps) : pairsV K H' xs ps := h.imp fun _ _ => ex_t e
theorem pairsV.exb {K : PySem.W.Frag} {H H' : Hp} {l : Addr} {ys xs : List V} {ps : List (Int × Int)} (e : Exb l H H') (hl : H l = some (.lst ys)) (h : pairsV K H xs ps) : pairsV K H' xs ps := h.imp fun _ _ => exb_t e hl
theorem pairsV.app {K : PySem.W.Frag} {H : Hp} : ∀ {xs : List V} {ps : List (Int × Int)} {ys : List V} {qs : List (Int × Int)}, pairsV K H xs ps → pairsV K H ys qs → pairsV K H (xs ++ ys) (ps ++ qs)
  | [], [], _, _, _, k => k
  | _ :: _, _ :: _, _, _, h, k => ⟨h.1, pairsV.app h.2 k⟩
  | [], _ :: _, _, _, h, _ => h.elim
  | _ :: _, [], _, _, h, _ => h.elim
theorem pairsV.one {K : PySem.W.Frag} {H : Hp} {x : V} {p : Int × Int} (h : pairV K H x p) : pairsV K H [x] [p] := ⟨h, trivial⟩
theorem pairsV.at {K : PySem.W.Frag} {H : Hp} : ∀ {xs : List V} {ps : List (Int × Int)} {i : Nat} {p : Int × Int}, pairsV K H xs ps → ps[i]? = some p → ∃ x, xs[i]? = some x ∧ pairV K H x p
  | [], [], i, p, _, e => by simp at e
  | x :: xs, q :: ps, 0, p, h, e => ⟨x, rfl, by
    have e' : q = p := by simpa using e
    rw [← e']
    exact h.1⟩
  | x :: xs, q :: ps, i + 1, p, h, e => by
    obtain ⟨y, hy, k⟩ := pairsV.at (i := i) h.2 (by simpa using e)
    exact ⟨y, by simpa using hy, k⟩
  | [], _ :: _, _, _, h, _ => h.elim
  | _ :: _, [], _, _, h, _ => h.elim
theorem pairsV.rev {K : PySem.W.Frag} {H : Hp} : ∀ {xs : List V} {ps : List (Int × Int)}, pairsV K H xs ps → pairsV K H xs.reverse ps.reverse
  | [], [], _ => trivial
  | x :: xs, p :: ps, h => by
    rw [List.reverse_cons, List.reverse_cons]
    exact pairsV.app (pairsV.rev h.2) (pairsV.one h.1)
  | [], _ :: _, h => h.elim
  | _ :: _, [], h => h.elim
theorem pairsV.at' {K : PySem.W.Frag} {H : Hp} : ∀ {xs : List V} {ps : List (Int × Int)} {i : Nat} {x : V}, pairsV K H xs ps → xs[i]? = some x → ∃ p, ps[i]? = some p ∧ pairV K H x p
  | [], [], i, x, _, e => by simp at e
  | x :: xs, q :: ps, 0, y, h, e => ⟨q, rfl, by
    have e' : x = y := by simpa using e
    rw [← e']
    exact h.1⟩
  | x :: xs, q :: ps, i + 1, y, h, e => by
    obtain ⟨p, hp, k⟩ := pairsV.at' (i := i) h.2 (by simpa using e)
    exact ⟨p, by simpa using hp, k⟩
  | [], _ :: _, _, _, h, _ => h.elim
  | _ :: _, [], _, _, h, _ => h.elim
theorem pairsV.drop {K : PySem.W.Frag} {H : Hp} : ∀ {xs : List V} {ps : List (Int × Int)} (n : Nat), pairsV K H xs ps → pairsV K H (xs.drop n) (ps.drop n)
  | _, _, 0, h => h
  | [], [], _ + 1, _ => trivial
  | _ :: _, _ :: _, n + 1, h => pairsV.drop n h.2
  | [], _ :: _, _ + 1, h => h.elim
  | _ :: _, [], _ + 1, h => h.elim
section
variable {K : PySem.W.Frag} {H : Hp} {Q : VK} {x y : V} {p q : Int × Int} {a b : Addr} {xs ys : List V} {ps qs : List (Int × Int)}
theorem g_eqP2 (h1 : pairV K H x p) (h2 : pairV K H y q) (k : Q (.bl (decide (p = q))) H) : rEqD K x y H Q := g_eqD h1.dp h2.dp (pairD_sh _) (pairD_sh _) (by rw [pairD_eqv]; exact k)
theorem g_neP2 (h1 : pairV K H x p) (h2 : pairV K H y q) (k : Q (.bl (!decide (p = q))) H) : rNeD K x y H Q := g_neD h1.dp h2.dp (pairD_sh _) (pairD_sh _) (by rw [pairD_eqv]; exact k)
theorem pairs_any (ps : List (Int × Int)) (p : Int × Int) : ((ps.map pairD).any fun z => PyData.eqv z (pairD p)) = decide (p ∈ ps) := by
  rw [Bool.eq_iff_iff]
  simp [pairD_eqv]
theorem g_inU (h1 : pairV K H x p) (h2 : SqT K H b ys) (h3 : pairsV K H ys qs) (k : Q (.bl (decide (p ∈ qs))) H) : rInU K x (.ref b) H Q := ⟨_, _, h1.dp, .tup h2 h3.dp, pairD_sh _, pairsT_sh _, by rw [pairs_any]; exact k⟩
theorem g_notInU (h1 : pairV K H x p) (h2 : SqT K H b ys) (h3 : pairsV K H ys qs) (k : Q (.bl (!decide (p ∈ qs))) H) : rNotInU K x (.ref b) H Q := ⟨_, _, h1.dp, .tup h2 h3.dp, pairD_sh _, pairsT_sh _, by rw [pairs_any]; exact k⟩
end
/-! ### the least of a list of pairs -/
def leP (p q : Int × Int) : Prop := p.1 < q.1 ∨ (p.1 = q.1 ∧ p.2 ≤ q.2)
theorem ltP (p q : Int × Int) : PySem.W.DatumOrd.lt p q = true → leP p q := by
  intro h
  have h' : (if p.1 = q.1 then decide (p.2 < q.2) else decide (p.1 < q.1)) = true := h
  unfold leP
  split at h'
  · have := of_decide_eq_true h'
    omega
  · have := of_decide_eq_true h'
    omega
theorem nltP (p q : Int × Int) : ¬ PySem.W.DatumOrd.lt p q = true → leP q p := by
  intro h
  have h' : ¬ (if p.1 = q.1 then decide (p.2 < q.2) else decide (p.1 < q.1)) = true := h
  unfold leP
  split at h'
  · have k : ¬ (p.2 < q.2) := fun z => h' (decide_eq_true z)
    omega
  · have k : ¬ (p.1 < q.1) := fun z => h' (decide_eq_true z)
    omega
theorem leP.trans {p q r : Int × Int} (h : leP p q) (k : leP q r) : leP p r := by
  unfold leP at *
  omega
theorem leP.refl (p : Int × Int) : leP p p := .inr ⟨rfl, Int.le_refl _⟩
theorem minOf_leP : ∀ (xs : List (Int × Int)) (x : Int × Int), leP (PySem.W.minOf x xs) x ∧ ∀ q ∈ xs, leP (PySem.W.minOf x xs) q
  | [], x => ⟨.refl x, fun q h => by cases h⟩
  | y :: r, x => by
    have e : PySem.W.minOf x (y :: r) = PySem.W.minOf (if PySem.W.DatumOrd.lt y x = true then y else x) r := rfl
    rw [e]
    by_cases h : PySem.W.DatumOrd.lt y x = true
    · rw [if_pos h]
      obtain ⟨h1, h2⟩ := minOf_leP r y
      refine ⟨h1.trans (ltP _ _ h), fun q hq => ?_⟩
      rcases List.mem_cons.mp hq with rfl | hq
      · exact h1
      · exact h2 q hq
    · rw [if_neg h]
      obtain ⟨h1, h2⟩ := minOf_leP r x
      refine ⟨h1, fun q hq => ?_⟩
      rcases List.mem_cons.mp hq with rfl | hq
      · exact h1.trans (nltP _ _ h)
      · exact h2 q hq
def rMinP (K : PySem.W.Frag) : List V → Hp → VK → Prop := fun xs H Q => ∃ (a : Addr) (vs : List V) (ps : List (Int × Int)), xs = [.ref a] ∧ SqL K H a vs ∧ pairsV K H vs ps ∧ ps ≠ [] ∧ ∀ x p, pairV K H x p → p ∈ ps → (∀ q ∈ ps, leP p q) → Q x H
theorem cr_minP {X : Cx} {k : Nat} (hc : X.calm = true) (hr : Room k X.A) : CallR X (.builtin "min") (rMinP X.K) := by
  intro pins s σ H vs us Q I r h
  obtain ⟨a, xs, ps, rfl, hs, hp, hne, q⟩ := h
  obtain ⟨its, rv, hl, _⟩ := I.list hs
  rw [Vals.ref1 r]
  obtain ⟨as, hr'⟩ := Dp.readsAll I _ _ its hp.dp rv
  cases ps with
  | nil => exact absurd rfl hne
  | cons x ps =>
    have HA : PySem.W.HoldAll s.heap its.toArray.toList (x :: ps) := ⟨as, show ReadsAll s.heap its ((x :: ps).map pairD) as from hr'⟩
    refine PySem.W.min_list_datum (I.ok.hd hc) hl.isList HA (by show X.A.units + 1 + 1 < cLine; have := hr.un; omega) fun i v h' tk hi hv hk => ?_
    obtain ⟨p, hpi, hh⟩ := PySem.W.HoldAll.at HA (i := i) (by simpa using hi)
    have e : p = PySem.W.minOf x ps := by
      obtain ⟨bs, r1⟩ := PySem.W.Holds.keeps hk hh
      obtain ⟨cs, r2⟩ := hv
      exact pairD_inj (SeqAt.Reads.unique (pairD p) _ _ _ _ (pairD_lay p) r1 r2)
    obtain ⟨z, hz, pz⟩ := hp.at hpi
    obtain ⟨u, hu', ru⟩ := rv.get hz
    have : u = v := by
      have h1 : its[i]? = some v := by simpa using hi
      rw [hu'] at h1
      exact Option.some.inj h1
    subst this
    obtain ⟨m1, m2⟩ := minOf_leP ps x
    refine ⟨z, H, I.kept hk, ru, q z p pz (List.mem_of_getElem? hpi) fun y hy => ?_⟩
    rw [e]
    rcases List.mem_cons.mp hy with rfl | hy
    · exact m1
    · exact m2 y hy
/-! ### == by an own def -/
def rEqO (C : Addr) (sp : Sp) (E : XK) : R2 := fun x y H Q => ∃ a b, x = .ref a ∧ y = .ref b ∧ (∃ dx fs, H a = some (.ins C dx fs)) ∧ (∃ dx fs, H b = some (.ins C dx fs)) ∧ sp [.ref a, .ref b] H (fun v H2 => ∃ c, v = .bl c ∧ Q v H2) E
theorem op_eqMf {X : Cx} {k j : Nat} {ps : List Str} {sp : Sp} {E : XK} {C : Addr} (D : Mf X.prog X.w X.K X.mg X.base C k "__eq__" ps sp) (hr : Room j X.A) (hx : Passes (L2.CX X.prog X.w) X E := by exact passL) (hk : k ≤ j := by decide) : OpR X (compareOp .Eq) (rEqO C sp E) := by
  intro pins s σ H x y v u Q I rx ry h
  obtain ⟨a, b, rfl, rfl, ⟨dx, fs, ha⟩, ⟨dy, gs, hb'⟩, q⟩ := h
  obtain rfl : v = Value.ref a := rx
  obtain rfl : u = Value.ref b := ry
  obtain ⟨f, fd, hm, hb, F⟩ := D.ex
  obtain ⟨mA, J, _⟩ := ins_get I.hok ha
  obtain ⟨mB, J', _⟩ := ins_get I.hok hb'
  obtain ⟨od, J, _⟩ := J.look
  obtain ⟨od', J', _⟩ := J'.look
  obtain ⟨m, hF⟩ := I.fr
  show wpAny (model X.prog X.w) X.A (richCompare .Eq (.ref a) (.ref b)) (EP X pins σ Q) X.xe s
  refine PySem.W.cmp_K (op := .Eq) (tb := .ref C) hr.units0 hF I.ok.mod.kin J J'.type (by simp [PySem.W.notFirst]) hm.at_ hm.fn ?_
  refine thn (run_fn F (hr.mono hk) hb .nil hx I (us := [.ref a, .ref b]) (vs := [.ref a, .ref b]) (.cons rfl (.cons rfl .nil)) q) fun v s1 hv => ?_
  obtain ⟨z, H1, I1, rz, c, ez, q1⟩ := hv
  subst ez
  cases rz
  exact ⟨.bl c, H1, I1, rfl, q1⟩
section
variable {C a b : Addr} {sp : Sp} {E : XK} {H : Hp} {Q : VK}
def kBl (Q : VK) : VK := fun v H2 => ∃ c, v = .bl c ∧ Q v H2
theorem g_kBl {c : Bool} (q : Q (.bl c) H) : kBl Q (.bl c) H := ⟨c, rfl, q⟩
theorem g_eqO {dx dy : Addr} {fs gs : List (Str × V)} (h1 : H a = some (.ins C dx fs)) (h2 : H b = some (.ins C dy gs)) (q : sp [.ref a, .ref b] H (kBl Q) E) : rEqO C sp E (.ref a) (.ref b) H Q := ⟨a, b, rfl, rfl, ⟨dx, fs, h1⟩, ⟨dy, gs, h2⟩, q⟩
end
/-! ### match v: case [x, y] if test: .. case _: .. -/
def sM2 (K : PySem.W.Frag) (te : TE) (i j : Nat) (tt : TT) (t1 t2 : TS) : TS := fun D σ H => te σ H fun x H1 => ∃ a v w, x = .ref a ∧ SqT K H1 a [v, w] ∧ tt ((σ.set i (some v)).set j (some w)) H1 (kIfS t1 t2 D ((σ.set i (some v)).set j (some w)))
theorem unpack2 {prog : Program} {w : World} {A : Around} {E : Value → Shared → Prop} {s : Shared} {a : Addr} {u1 u2 : Value} {Q : List Value → Shared → Prop} (hh : A.handled = none) (ht : IsTup s.heap a [u1, u2].toArray)
    (h : ∀ h', Heap.ExtBut s.heap.objs.size s.heap h' → Q [u1, u2] { s with heap := h' }) : wpAny (model prog w) A (unpackItems (.ref a) 2 none) Q E s := unpackItems_tuple (items := [u1, u2].toArray) hh ht h
theorem ps_match2 {X : Cx} {i j : Nat} {x1 x2 : Str} {e g : Expr} {b1 b2 : List Stmt} {te : TE} {tt : TT} {t1 t2 : TS} {p1 p2 p3 p4 pos : Pos} (hc : X.calm = true) (hN : X.N.Nodup) (hi : X.N[i]? = some x1) (hj : X.N[j]? = some x2) (hx : Loc X.env.scope x1) (hy : Loc X.env.scope x2)
    (he : PE X e te) (hg : PT X g tt) (h1 : PSs X b1 t1) (h2 : PSs X b2 t2) (hf1 : X.fn x1 = true ∨ X.env.scope.names.lookup x1 = some .local := by first | exact .inl rfl | exact .inr rfl) (hf2 : X.fn x2 = true ∨ X.env.scope.names.lookup x2 = some .local := by first | exact .inl rfl | exact .inr rfl) :
    PS X (.Match e [⟨.MatchSequence [.MatchAs none (some x1) p1, .MatchAs none (some x2) p2] p3, some g, b1⟩, ⟨.MatchAs none none p4, none, b2⟩] pos) (sM2 X.K te i j tt t1 t2) := by
  refine ⟨fun pins s σ H D I h => ?_⟩
  refine wpAny_Match (thn (he.run pins s σ H _ I h) fun u s1 ⟨x, H1, I1, r1, a, v, w, ex, hq, q⟩ => ?_)
  subst ex
  cases r1
  obtain ⟨its, rv, ht, hz⟩ := I1.tuple hq
  cases rv with
  | cons rv1 rr =>
  cases rr with
  | cons rv2 rn =>
  cases rn
  refine wpAny_matchCases_cons (matchSeq_tuple_hit (show s1.heap.IsTuple a _ from ht) (by simp) rfl ?_)
  refine unpack2 (I1.ok.hd hc) (a := a) (s := { s1 with toks := s1.toks + 1 + 1 }) ht fun h' hx' => ?_
  have I2 : Inv X pins σ H1 { s1 with heap := h', toks := s1.toks + 1 + 1 } := I1.kept (t' := s1.toks + 1 + 1) fun b o e => hx' b o (Nat.ne_of_lt (Heap.lt_size e)) e
  refine wpAny_matchEach_cons (wpAny_matchPattern_Capture (wpAny_matchEach_cons (wpAny_matchPattern_Capture (wpAny_matchEach_nil ?_))))
  refine wpAny_assignInOrder_more (wpAny_bindName (store_ok I2 hN hi hx rv1 (fun s3 I3 => ?_) hf1))
  refine wpAny_assignInOrder_more (wpAny_bindName (store_ok I3 hN hj hy rv2 (fun s4 I4 => ?_) hf2))
  refine wpAny_assignInOrder_none ?_
  refine thn (hg.run pins s4 _ H1 _ I4 q) fun c s5 ⟨H5, I5, q5⟩ => ?_
  cases c with
  | true => exact h1.run pins s5 _ H5 D I5 q5
  | false =>
    refine wpAny_matchCases_cons (wpAny_matchPattern_Capture (wpAny_assignInOrder_none ?_))
    exact h2.run pins s5 _ H5 D I5 q5
theorem g_m2 {K : PySem.W.Frag} {te : TE} {i j : Nat} {tt : TT} {t1 t2 : TS} {D : Ends} {σ : L2.St} {H : Hp} (q : te σ H fun x H1 => ∃ a v w, x = .ref a ∧ SqT K H1 a [v, w] ∧ tt ((σ.set i (some v)).set j (some w)) H1 (kIfS t1 t2 D ((σ.set i (some v)).set j (some w)))) : sM2 K te i j tt t1 t2 D σ H := q
theorem dec_in {i : Int} : decide (V.int i = V.non) = false := decide_eq_false fun z => by cases z
theorem dec_rn {a : Addr} : decide (V.ref a = V.non) = false := decide_eq_false fun z => by cases z
theorem dec_nn : decide (V.non = V.non) = true := decide_eq_true rfl
theorem ltLine {n : Nat} (h : n < 16000000) : n < sizeLine := Nat.lt_of_lt_of_le h (by rw [sizeLine_eq]; decide)
theorem leLine {n : Nat} (h : n ≤ 16000000) : n ≤ sizeLine := Nat.le_trans h (by rw [sizeLine_eq]; decide)
theorem pi_listK {X : Cx} {tg l : Expr} {tl : TE} (K : PySem.W.Frag) (hl : PE X l tl) (h : X.K = K := by rfl) : PI X tg l (iList K tl) := by subst h; exact pi_list hl
theorem u1 {k : Nat} {A : Around} (hr : Room k A) : A.units + 1 < cLine := by have := hr.un; omega
/-! ### sum of a tuple -/
def rSumT (K : PySem.W.Frag) : List V → Hp → VK → Prop := fun vs H Q => ∃ (a : Addr) (ns : List Int), vs = [V.ref a] ∧ SqT K H a (ns.map V.int) ∧ Q (.int ns.sum) H
theorem cr_sumT {X : Cx} (hc : X.calm = true) : CallR X (.builtin "sum") (rSumT X.K) := by
  intro pins s σ H vs us Q I r h
  obtain ⟨a, ns, rfl, hs, q⟩ := h
  obtain ⟨its, rv, hl, _⟩ := I.tuple hs
  rw [Vals.ref1 r]
  obtain ⟨xs, e⟩ := rv.ints.allInts.items
  have hn : numsOf (intItems xs).toList = ns := by rw [← e]; exact rv.ints.numsOf
  rw [nums_intItems] at hn
  have hl : s.heap.IsTuple a its.toArray := hl
  rw [e] at hl
  refine PySem.W.ktm_sumG (I.ok.hd hc) hl fun h' tk t' hk => ?_
  rw [preSum_eq, List.take_of_length_le (by simp), hn]
  exact ⟨.int _, H, I.kept hk, ⟨_, rfl⟩, q⟩
theorem g_sumT {K : PySem.W.Frag} {H : Hp} {Q : VK} {a : Addr} {ns : List Int} (h : SqT K H a (ns.map V.int)) (q : Q (.int ns.sum) H) : rSumT K [.ref a] H Q := ⟨a, ns, rfl, h, q⟩
/-! ### isinstance of an own class -/
structure IsiC (K : PySem.W.Frag) (C : Addr) : Prop where
  ha : PySem.W.findIn K (.ref C) "__class__" = some (some (.builtin "object.__class__"))
  hn : PySem.W.specialIn K (.builtin "object.__class__") "__get__" = some (some (.builtin "getset_descriptor.__get__"))
  htk : PySem.W.takesIn K (.builtin "object.__class__") = some true
  hm : PySem.W.mroIn K C (.type "object") = some true
def isiB (K : PySem.W.Frag) (C : Addr) : Bool := decide (PySem.W.findIn K (.ref C) "__class__" = some (some (.builtin "object.__class__"))) && (decide (PySem.W.specialIn K (.builtin "object.__class__") "__get__" = some (some (.builtin "getset_descriptor.__get__"))) &&
  (decide (PySem.W.takesIn K (.builtin "object.__class__") = some true) && decide (PySem.W.mroIn K C (.type "object") = some true)))
theorem isi_ok {K : PySem.W.Frag} {C : Addr} (h : isiB K C = true) : IsiC K C := by
  obtain ⟨h1, h⟩ := He.ba h
  obtain ⟨h2, h⟩ := He.ba h
  obtain ⟨h3, h4⟩ := He.ba h
  exact ⟨of_decide_eq_true h1, of_decide_eq_true h2, of_decide_eq_true h3, of_decide_eq_true h4⟩
theorem g_isiO {K : PySem.W.Frag} {C : Addr} {H : Hp} {Q : VK} {a dx : Addr} {fs : List (Str × V)} (cl : Cls K C) (S : IsiC K C) (h : H a = some (.ins C dx fs)) (q : Q (.bl true) H) : rIsi K [.ref a, .ref C] H Q :=
  g_isi (.own C) (.base (.ins h cl S.ha S.hn S.htk S.hm)) (by unfold PySem.W.kitOne; rw [if_pos (beq_self_eq_true _)]) q
theorem pcls {X : Cx} {x : Str} {C : Addr} {pos : Pos} (h : X.mg x = some (.ref C)) (hg : Gl X x := by rfl) (hd : (x == ("__debug__" : Str)) = false := by decide) : PE X (.Name x pos) (tC (.ref C)) := pe_glob hg h rfl hd
end G48
namespace G48
open PySem PySem.Spec PyProof.Rows L2 Evl
open LamX (CodeO Tabs TabS ExtN TabB inv_table)
/-! ### a lambda as an object that is told -/
/-- the function object of a lambda: its text, its cells, its default, its code object -/
def LamO (f : Addr) (q : Str) (params : Arguments) (body : Expr) (scope : Scope) (cl : List (Str × Addr)) (dV : Value) (c' : Addr) : HO :=
  .ext fun h => ∃ doc pm ctv : Value, h.get? f = some (PySem.W.kdv_obj "<lambda>" q params (.expr body) scope cl dV doc pm c' ctv)
/-- the default: none at all, or one int -/
def DvAt (H : Hp) (ds : List Int) (dV : Value) : Prop := (ds = [] ∧ dV = .none) ∨ ∃ d t, ds = [d] ∧ dV = .ref t ∧ H t = some (.tup [.int d])
def LamAt (H : Hp) (f : Addr) (q : Str) (params : Arguments) (body : Expr) (scope : Scope) (ds : List Int) (cl : List (Str × Addr)) : Prop :=
  ∃ dV c', H f = some (LamO f q params body scope cl dV c') ∧ H c' = some (CodeO c' q) ∧ DvAt H ds dV
theorem lamO_ne {f : Addr} {q : Str} {params : Arguments} {body : Expr} {scope : Scope} {cl : List (Str × Addr)} {dV : Value} {c' : Addr} (ps : Array Value) : LamO f q params body scope cl dV c' ≠ .tbl ps := fun z => by
  unfold LamO at z
  cases z
theorem LamAt.imp {H H' : Hp} {f : Addr} {q : Str} {params : Arguments} {body : Expr} {scope : Scope} {ds : List Int} {cl : List (Str × Addr)} (e : ∀ a o, H a = some o → (∀ ps, o ≠ .tbl ps) → (∀ xs, o ≠ .lst xs) → H' a = some o) (h : LamAt H f q params body scope ds cl) : LamAt H' f q params body scope ds cl := by
  obtain ⟨dV, c', h1, h2, h3⟩ := h
  refine ⟨dV, c', e _ _ h1 lamO_ne (fun _ z => by unfold LamO at z; cases z), e _ _ h2 LamX.codeO_ne (fun _ z => by unfold CodeO at z; cases z), ?_⟩
  rcases h3 with h3 | ⟨d, t, e1, e2, e3⟩
  · exact .inl h3
  · exact .inr ⟨d, t, e1, e2, e _ _ e3 (fun _ z => by cases z) (fun _ z => by cases z)⟩
theorem LamAt.ex {H H' : Hp} {f : Addr} {q : Str} {params : Arguments} {body : Expr} {scope : Scope} {ds : List Int} {cl : List (Str × Addr)} (e : Ex H H') (h : LamAt H f q params body scope ds cl) : LamAt H' f q params body scope ds cl := h.imp fun a o z _ _ => e a o z
theorem LamAt.exn {H H' : Hp} {f : Addr} {q : Str} {params : Arguments} {body : Expr} {scope : Scope} {ds : List Int} {cl : List (Str × Addr)} (e : ExtN H H') (h : LamAt H f q params body scope ds cl) : LamAt H' f q params body scope ds cl := h.imp fun a o z n _ => e a o z n
theorem LamAt.exb {H H' : Hp} {f l : Addr} {q : Str} {params : Arguments} {body : Expr} {scope : Scope} {ds : List Int} {cl : List (Str × Addr)} {ys : List V} (e : Exb l H H') (hl : H l = some (.lst ys)) (h : LamAt H f q params body scope ds cl) : LamAt H' f q params body scope ds cl :=
  h.imp fun a o z _ n => e a o (fun x => by rw [x, hl] at z; exact n ys (Option.some.inj z).symm) z
theorem ExtN.ofEx {H H' : Hp} (e : Ex H H') : ExtN H H' := fun b o h _ => e b o h
/-! ### making one -/
section
variable {X : Cx} {pins : List (Addr × Obj)} {σ : L2.St} {H : Hp} {s : Shared}
/-- the maker's tail, the default dV at hand -/
theorem lam_tail {T : List (Addr × Str)} {c P : Addr} {params : Arguments} {body : Expr} {scope : Scope} {pos : Pos} {dV : Value} {ds : List Int} {Q : Value → Shared → Prop} {E : Value → Shared → Prop} (I : Inv X pins σ H s) (TB : TabB X.base X.mg c P) (hcode : X.env.code = .ref c)
    (hm : (P, X.env.qual ++ "<lambda>") ∈ T) (hu : ∀ p ∈ T, p.1 = P → p.2 = X.env.qual ++ "<lambda>") (hT : Tabs T H) (hfree : ∀ y ∈ scope.names, y.2 = .free → ∃ c, X.env.cells.lookup y.1 = some c) (hd : DvAt H ds dV)
    (h : ∀ (f : Addr) (H1 : Hp) (s' : Shared), Inv X pins σ H1 s' → ExtN H H1 → Tabs T H1 → H f = none → LamAt H1 f (X.env.qual ++ "<lambda>") params body scope ds (cloFrom X.env.cells scope.names []) → Q (.ref f) s') :
    wpAny (model X.prog X.w) X.A (makeTail "<lambda>" (X.env.qual ++ "<lambda>") params (.expr body) scope X.env dV .none none pos pos.line) Q E s := by
  obtain ⟨ps, hP, ht, ha⟩ := hT _ hm
  have bP := TB.bm.keeps I.bk
  have hP' : s.heap.get? P = some { cls := .none, data := .fields ps } := I.hok P _ hP
  have lay : ∀ {H1 : Hp} {h1 : Heap} {c' : Addr} {doc pm ctv : Value} {tk : Nat}, Inv X pins σ H1 { s with heap := h1, toks := tk } → ExtN H H1 → Tabs T H1 → s.heap.objs.size ≤ h1.objs.size → H1 c' = some (CodeO c' (X.env.qual ++ "<lambda>")) →
      Q (.ref h1.objs.size) { s with heap := h1.push (PySem.W.kdv_obj "<lambda>" (X.env.qual ++ "<lambda>") params (.expr body) scope (cloFrom X.env.cells scope.names []) dV doc pm c' ctv), toks := tk } := fun {H1 h1 c' doc pm ctv tk} I1 e1 T1 hsz hc => by
    have nf : H1 h1.objs.size = none := I1.hok.fresh (Nat.le_refl _)
    have I2 := I1.laid (a := h1.objs.size) (o := LamO h1.objs.size (X.env.qual ++ "<lambda>") params body scope (cloFrom X.env.cells scope.names []) dV c') (t' := tk)
      (h' := h1.push (PySem.W.kdv_obj "<lambda>" (X.env.qual ++ "<lambda>") params (.expr body) scope (cloFrom X.env.cells scope.names []) dV doc pm c' ctv)) (fun b o e => Heap.get?_push_of_some _ e) (Nat.le_refl _)
      ⟨⟨doc, pm, ctv, Heap.get?_push_size _ rfl⟩, ⟨_, Heap.get?_push_size _ rfl⟩, fun _ _ ⟨d, p, c, z⟩ st => ⟨d, p, c, st _ z⟩⟩
    have e2 : Ex H1 (upd H1 h1.objs.size (LamO h1.objs.size (X.env.qual ++ "<lambda>") params body scope (cloFrom X.env.cells scope.names []) dV c')) := Ex.new nf
    refine h _ _ _ I2 (e1.trans (ExtN.ofEx e2)) (T1.ext e2) (I.hok.fresh hsz) ⟨dV, c', upd_same, e2 _ _ hc, ?_⟩
    rcases hd with hd | ⟨d, t, a1, a2, a3⟩
    · exact .inl hd
    · exact .inr ⟨d, t, a1, a2, e2 _ _ (e1 _ _ a3 fun _ z => by cases z)⟩
  cases hc : codeAmong pos ps.toList with
  | none =>
    refine PySem.W.kdv_makeTail (mg := X.mg) (c := c) (P := P) (ps := ps) (closure_ok hfree) I.ok.glob (I.mod.glob.keeps I.bk) hcode (TB.code.keeps I.bk) hP' ht hc TB.gP bP fun c' ctv doc h' tk hx hge hlt hrec htb => ?_
    obtain ⟨c2, oc, vs, t, e2, hoc, hd2, hv⟩ := hrec
    cases e2
    have nC : H c' = none := I.hok.fresh hge
    have I1 := inv_table (t' := tk) (more := #[rawInt pos.line, rawInt pos.col, .ref c']) (h' := h') (q := X.env.qual ++ "<lambda>") I hP (fun b o hb e => hx b o hb e) htb hge ⟨oc, vs, t, hoc, hd2, hv⟩
    have hE : ExtN H (upd (upd H P (.tbl (ps ++ #[rawInt pos.line, rawInt pos.col, .ref c']))) c' (CodeO c' (X.env.qual ++ "<lambda>"))) := fun b o e n => by
      have n1 : b ≠ c' := ne_of_none e nC
      have n2 : b ≠ P := fun z => by
        rw [z, hP] at e
        exact n ps (Option.some.inj e).symm
      rw [upd_ne n1, upd_ne n2]
      exact e
    have eL : (ps ++ #[rawInt pos.line, rawInt pos.col, .ref c']).toList = ps.toList ++ [rawInt pos.line, rawInt pos.col, .ref c'] := by simp
    refine lay I1 hE (fun p hp => ?_) (Nat.le_trans hge (Nat.le_of_lt hlt)) upd_same
    by_cases hb : p.1 = P
    · rw [hu p hp hb, hb]
      refine ⟨_, (upd_ne (ne_of_none hP nC)).trans upd_same, by rw [eL]; exact PySem.TriplesOk_snoc _ _ _ _ ht, fun p' cv hcv => ?_⟩
      rw [eL] at hcv
      rcases LamX.among_app _ ht hcv with z | z
      · obtain ⟨c0, y1, y2⟩ := ha p' cv z
        exact ⟨c0, y1, hE _ _ y2 LamX.codeO_ne⟩
      · exact ⟨c', z, upd_same⟩
    · obtain ⟨ps', a1, a2, a3⟩ := hT p hp
      refine ⟨ps', (upd_ne (ne_of_none a1 nC)).trans ((upd_ne hb).trans a1), a2, fun p' cv hcv => ?_⟩
      obtain ⟨c0, y1, y2⟩ := a3 p' cv hcv
      exact ⟨c0, y1, hE _ _ y2 LamX.codeO_ne⟩
  | some cv =>
    obtain ⟨c', e, hco⟩ := ha pos cv hc
    subst e
    refine PySem.W.kdv_makeTailHit (mg := X.mg) (c := c) (P := P) (ps := ps) (closure_ok hfree) I.ok.glob (I.mod.glob.keeps I.bk) hcode (TB.code.keeps I.bk) hP' ht hc bP fun ctv doc h' tk hx hsz => ?_
    have I1 : Inv X pins σ H { s with heap := h', toks := tk } := I.kept hx
    exact lay I1 (ExtN.refl H) hT hsz hco
/-- what a lambda of the def leaves: a new function object, its code object, perhaps a longer table -/
def tLamE (T : List (Addr × Str)) (q : Str) (params : Arguments) (body : Expr) (scope : Scope) (ds : List Int) (cl : List (Str × Addr)) : TE := fun _ H Q =>
  Tabs T H ∧ ∀ f H1, H f = none → ExtN H H1 → Tabs T H1 → LamAt H1 f q params body scope ds cl → Q (.ref f) H1
end
section
variable {X : Cx}
theorem pe_lam0 {T : List (Addr × Str)} {c P : Addr} {params : Arguments} {body : Expr} {scope : Scope} {pos : Pos} (TB : TabB X.base X.mg c P) (hcode : X.env.code = .ref c) (hm : (P, X.env.qual ++ "<lambda>") ∈ T) (hu : ∀ p ∈ T, p.1 = P → p.2 = X.env.qual ++ "<lambda>")
    (hf : ∀ y ∈ scope.names, y.2 = .free → X.env.scope.names.lookup y.1 = some .cell ∨ X.env.scope.names.lookup y.1 = some .free) (hd : defaultsOf params X.env = ([], []) := by rfl) :
    PE X (.Lambda params body scope pos) (tLamE T (X.env.qual ++ "<lambda>") params body scope [] (cloFrom X.env.cells scope.names [])) := by
  refine ⟨fun pins s σ H Q I h => ?_⟩
  obtain ⟨hT, h⟩ := h
  refine PySem.W.kla_eval hd ?_
  rw [makeFunction_eq]
  simp only [List.zip_nil_right, List.filterMap_nil, List.isEmpty_nil, if_true, pure_bind]
  exact lam_tail I TB hcode hm hu hT (fun y hy e => by
    rcases hf y hy e with k | k
    · exact I.ok.has _ (.inl k)
    · exact I.ok.has _ (.inr k)) (.inl ⟨rfl, rfl⟩) fun f H1 s' I1 e1 T1 n1 l1 => ⟨.ref f, H1, I1, rfl, h f H1 n1 e1 T1 l1⟩
theorem pe_lam1 {T : List (Addr × Str)} {c P : Addr} {params : Arguments} {body : Expr} {scope : Scope} {pos dp : Pos} {d : Int} {dk : Nat} (TB : TabB X.base X.mg c P) (hcode : X.env.code = .ref c) (hm : (P, X.env.qual ++ "<lambda>") ∈ T) (hu : ∀ p ∈ T, p.1 = P → p.2 = X.env.qual ++ "<lambda>")
    (hf : ∀ y ∈ scope.names, y.2 = .free → X.env.scope.names.lookup y.1 = some .cell ∨ X.env.scope.names.lookup y.1 = some .free) (hd : params.defaults = [.Constant (.int d) dk dp] := by rfl) (hk : params.kw_defaults = [] := by rfl) :
    PE X (.Lambda params body scope pos) (tLamE T (X.env.qual ++ "<lambda>") params body scope [d] (cloFrom X.env.cells scope.names [])) := by
  refine ⟨fun pins s σ H Q I h => ?_⟩
  obtain ⟨hT, h⟩ := h
  refine PySem.W.kdv_lam (by rw [hd]; rfl) hk ?_
  rw [hd]
  refine PySem.W.kdv_all1 (thn ((pe_int (X := X)).run pins s σ H (fun v H1 => v = .int d ∧ H1 = H) I ⟨rfl, rfl⟩) fun u s1 ⟨v, H1, I1, r1, q1⟩ => PySem.W.kdv_all0 ?_)
  obtain ⟨rfl, rfl⟩ := q1
  rw [makeFunction_eq]
  simp only [List.zip_nil_right, List.filterMap_nil, List.isEmpty_nil, if_true, pure_bind, List.isEmpty_cons, Bool.false_eq_true, if_false]
  refine wpAny_bind (wpAny_newTextTuple ?_)
  have np : H1 s1.heap.objs.size = none := I1.hok.fresh (Nat.le_refl _)
  have I2 := I1.laid (a := s1.heap.objs.size) (o := .tup [.int d]) (t' := s1.toks) (h' := s1.heap.push { cls := .type "tuple", data := .seq [u].toArray }) (fun b o e => Heap.get?_push_of_some _ e) (Nat.le_refl _)
    ⟨sz1000 (show 1 ≤ 1000 by decide), [u], .cons r1 .nil, IsTup.new _ _⟩
  have e2 : Ex H1 (upd H1 s1.heap.objs.size (.tup [.int d])) := Ex.new np
  exact lam_tail I2 TB hcode hm hu (hT.ext e2) (fun y hy e => by
    rcases hf y hy e with k | k
    · exact I.ok.has _ (.inl k)
    · exact I.ok.has _ (.inr k)) (.inr ⟨d, _, rfl, rfl, upd_same⟩) fun f H2 s' I3 e3 T3 n3 l3 => ⟨.ref f, H2, I3, rfl, h f H2 (by
      cases z : H1 f with
      | none => rfl
      | some o => rw [e2 _ _ z] at n3; cases n3) ((ExtN.ofEx e2).trans e3) T3 l3⟩
end
/-! ### the cells of the maker -/
structure CellsOk (h : Heap) (H : Hp) (N : List Str) (σ : L2.St) (cells : List (Str × Addr)) (sc : Scope) : Prop where
  inj : ∀ y z c, cells.lookup y = some c → cells.lookup z = some c → y = z
  has : ∀ y, sc.names.lookup y = some .cell ∨ sc.names.lookup y = some .free → ∃ c, cells.lookup y = some c
  cell : ∀ y c, cells.lookup y = some c → (∃ v, h.IsCell c v) ∧ H c = none
  val : ∀ (i : Nat) y v, N[i]? = some y → σ[i]? = some (some v) → (sc.names.lookup y = some .cell ∨ sc.names.lookup y = some .free) → ∃ c u, cells.lookup y = some c ∧ RelV v u ∧ h.IsCell c (some u)
section
variable {X : Cx} {pins : List (Addr × Obj)} {σ : L2.St} {H H' : Hp} {s : Shared} {h h' : Heap} {N : List Str} {cells : List (Str × Addr)} {sc : Scope}
theorem CellsOk.of (I : Inv X pins σ H s) : CellsOk s.heap H X.N σ X.env.cells X.env.scope where
  inj := I.ok.inj
  has := I.ok.has
  cell := fun y c e => ⟨I.cell y c e, I.freeC y c e⟩
  val := fun i y v e1 e2 e3 => by
    obtain ⟨m, _, hl⟩ := I.loc
    obtain ⟨u, r, q⟩ := hl i y v e1 e2 (.inr e3)
    rcases q with ⟨k, _⟩ | ⟨_, c, e, z⟩
    · have k : X.env.scope.names.lookup y = some .local := k
      rcases e3 with k' | k' <;> rw [k] at k' <;> cases k'
    · exact ⟨c, u, e, r, z⟩
theorem CellsOk.un {fs ex : List Addr} (C : CellsOk h H N σ cells sc) (U : Un fs ex H H' h h') (hx : ∀ y c, cells.lookup y = some c → c ∉ ex) : CellsOk h' H' N σ cells sc := by
  have key : ∀ {c : Addr} {v : Option Value}, H c = none → c ∉ ex → h.IsCell c v → h'.IsCell c v := fun {c v} n nx ⟨o, ho, hd⟩ => by
    obtain ⟨sl, q⟩ := U.any ho n nx
    exact ⟨_, q, hd⟩
  refine ⟨C.inj, C.has, fun y c e => ?_, fun i y v e1 e2 e3 => ?_⟩
  · obtain ⟨⟨v, z⟩, n⟩ := C.cell y c e
    refine ⟨⟨v, key n (hx y c e) z⟩, ?_⟩
    obtain ⟨o, ho, _⟩ := id z
    exact U.free c o ho n (hx y c e)
  · obtain ⟨c, u, e, r, z⟩ := C.val i y v e1 e2 e3
    exact ⟨c, u, e, r, key (C.cell y c e).2 (hx y c e) z⟩
end
/-! ### calling one -/
/-- a lambda's names: captured ones, globals, a parameter that the maker's names do not hold -/
structure LamS (N : List Str) (sc scope : Scope) (ps : List Str) : Prop where
  kind : scope.kind = .function
  co : scope.isCoroutine = false
  gen : scope.isGenerator = false
  noc : ∀ y ∈ scope.names, y.2 ≠ .cell
  own : ∀ y ∈ scope.names, y.2 = .local → y.1 ∉ N
  par : ∀ y ∈ ps, scope.names.lookup y = some .local
  free : ∀ y ∈ scope.names, y.2 = .free → sc.names.lookup y.1 = some .cell ∨ sc.names.lookup y.1 = some .free
def lamSB (N : List Str) (sc scope : Scope) (ps : List Str) : Bool :=
  decide (scope.kind = .function) && !scope.isCoroutine && !scope.isGenerator && (scope.names.all fun y => !decide (y.2 = .cell) && (!decide (y.2 = .local) || !N.contains y.1) && (!decide (y.2 = .free) || decide (sc.names.lookup y.1 = some .cell) || decide (sc.names.lookup y.1 = some .free))) && ps.all fun y => decide (scope.names.lookup y = some .local)
theorem lamS_of {N : List Str} {sc scope : Scope} {ps : List Str} (h : lamSB N sc scope ps = true) : LamS N sc scope ps := by
  unfold lamSB at h
  simp only [Bool.and_eq_true, Bool.or_eq_true, Bool.not_eq_true', decide_eq_true_eq, decide_eq_false_iff_not, List.all_eq_true] at h
  obtain ⟨⟨⟨⟨k1, k2⟩, k3⟩, k4⟩, k5⟩ := h
  refine ⟨k1, k2, k3, fun y hy => (k4 y hy).1.1, fun y hy e => ?_, k5, fun y hy e => ?_⟩
  · rcases (k4 y hy).1.2 with z | z
    · exact absurd e z
    · intro m
      rw [List.contains_iff_mem.mpr m] at z
      cases z
  · rcases (k4 y hy).2 with (z | z) | z
    · exact absurd e z
    · exact .inl z
    · exact .inr z
/-- the frame of a lambda's call -/
abbrev lamE (qual : Str) (scope : Scope) (cells : List (Str × Addr)) (L f c' : Addr) : Env := PySem.W.envX qual scope L f (.ref c') (cloFrom cells scope.names [])
/-- the context of a lambda's body: N, the maker's names; cells, the maker's cells; entered at s -/
def lamX (P : Program) (w : World) (K : PySem.W.Frag) (mg : Str → Option Value) (base : Heap) (N : List Str) (qual : Str) (scope : Scope) (cells : List (Str × Addr)) (A : Around) (outer : List Env) (s : Shared) (H : Hp) (E : XK) (f c' : Addr) : Cx where
  prog := P
  w := w
  K := K
  mg := mg
  base := base
  A := A.deeper (lamE qual scope cells s.heap.objs.size f c')
  N := N
  s_0 := s
  H_0 := H
  env := lamE qual scope cells s.heap.objs.size f c'
  outer := outer
  stack := lamE qual scope cells s.heap.objs.size f c' :: outer
  ex := []
  fn := fun _ => false
  calm := true
  pn := []
  xe := fun e s' => wpAny (model P w) (A.deeper (lamE qual scope cells s.heap.objs.size f c')) (leaving (lamE qual scope cells s.heap.objs.size f c') e) (fun _ s'' => L2.CX P w outer H s E e s'') (fun e' s'' => L2.CX P w outer H s E e' s'') s'
section
variable {P : Program} {w : World} {K : PySem.W.Frag} {mg : Str → Option Value} {base : Heap} {N : List Str} {σ : L2.St} {cells : List (Str × Addr)} {sc scope : Scope} {H : Hp} {s : Shared} {qual : Str} {ps : List Str}
theorem lam_enter {A : Around} {outer : List Env} {E : XK} {f c' : Addr} {h₁ : Heap} {tk : Nat} {m : Str → Option Value} (C : CellsOk s.heap H N σ cells sc) (hl : σ.length = N.length) (L : LamS N sc scope ps) (e0 : Env0 P w K mg base A outer s H) (hd : A.handled = none)
    (hns : h₁.Ns s.heap.objs.size m) (kp : ∀ b o, s.heap.get? b = some o → h₁.get? b = some o) :
    Inv (lamX P w K mg base N qual scope cells A outer s H E f c') [] σ H { s with heap := h₁, toks := tk } := by
  have hfree : ∀ y ∈ scope.names, y.2 = .free → ∃ c, cells.lookup y.1 = some c := fun y hy e => C.has _ (L.free y hy e)
  have cm : ∀ {y c}, (cloFrom cells scope.names []).lookup y = some c → cells.lookup y = some c := fun {y c} e => by
    rcases cloFrom_mem (PySem.mem_of_lookup e) with hm | ⟨h1, h2⟩
    · cases hm
    · obtain ⟨c1, hc⟩ := hfree _ h1 rfl
      have hc : cells.lookup y = some c1 := hc
      rw [hc] at h2
      have e2 : c = c1 := h2
      rw [e2]
      exact hc
  have look : ∀ {y}, scope.names.lookup y = some .free → ∃ c, (cloFrom cells scope.names []).lookup y = some c := fun {y} e => mem_lookup (cloFrom_has (cells := cells) (acc := []) (show (y, NameKind.free) ∈ scope.names from PySem.mem_of_lookup e))
  have ck : ∀ {c : Addr} {v : Option Value}, s.heap.IsCell c v → h₁.IsCell c v := fun {c v} ⟨o, ho, hd⟩ => ⟨_, kp _ _ ho, hd⟩
  have none_in : ∀ b : Addr, b ∉ (lamX P w K mg base N qual scope cells A outer s H E f c').ex := fun b z => absurd (show b ∈ ([] : List Addr) from z) (by simp)
  have okX : (lamX P w K mg base N qual scope cells A outer s H E f c').Ok :=
    ⟨e0.mod, L.kind, rfl, rfl, Nat.le_refl _, fun y z c e1 e2 => C.inj y z c (cm e1) (cm e2), fun y hy => by
      rcases (show scope.names.lookup y = some .cell ∨ scope.names.lookup y = some .free from hy) with k | k
      · exact absurd rfl (L.noc _ (PySem.mem_of_lookup k))
      · exact look k, fun y c z _ => absurd (show false = true from z) Bool.false_ne_true, fun _ => hd, Around.frames_deeper e0.frames, .inr ⟨rfl, rfl⟩, fun b z => absurd z (none_in b), e0.bs, e0.bsz, fun b _ _ => none_in b, fun b z => absurd z (none_in b), e0.funs, e0.frf⟩
  refine ⟨okX, rfl, e0.bare, Un.kept kp, ⟨m, hns, fun i y v e1 e2 e3 => ?_⟩, fun y c e => ?_, e0.hok.fresh (Nat.le_refl _), fun y c e => (C.cell y c (cm e)).2, fun q hq => absurd (show q ∈ ([] : List (Addr × Obj)) ++ [] from hq) (by simp), e0.hok.kept kp, hl⟩
  · rcases (show Vis scope y from e3) with k | k | k
    · exact absurd (List.mem_of_getElem? e1) (L.own _ (PySem.mem_of_lookup k) rfl)
    · exact absurd rfl (L.noc _ (PySem.mem_of_lookup k))
    · obtain ⟨c, u, h1, r, z⟩ := C.val i y v e1 e2 (L.free _ (PySem.mem_of_lookup k) rfl)
      obtain ⟨c2, h2⟩ := look k
      have h3 := cm h2
      rw [h1] at h3
      cases h3
      exact ⟨u, r, .inr ⟨.inr k, c, h2, ck z⟩⟩
  · obtain ⟨⟨v, z⟩, _⟩ := C.cell y c (cm e)
    exact ⟨v, ck z⟩
/-- what the parameters ps are bound to, when nothing is handed over -/
structure LamB (params : Arguments) (ps : List Str) (ds : List Int) : Prop where
  none_ : ds = [] → ps = [] ∧ ∀ (q : Str) (body : FuncBody) (scope : Scope) (cl : List (Str × Addr)) (doc pm cd ct : Value), bindArgs (PySem.W.kdv_fn "<lambda>" q params body scope cl .none doc pm cd ct) ⟨[], []⟩ = pure []
  one : ∀ d, ds = [d] → ∃ a, ps = [a] ∧ ∀ (q : Str) (body : FuncBody) (scope : Scope) (cl : List (Str × Addr)) (dV doc pm cd ct : Value), ∃ k : Option (Array Value) → Sem (List (Str × Value)),
    bindArgs (PySem.W.kdv_fn "<lambda>" q params body scope cl dV doc pm cd ct) ⟨[], []⟩ = seqItems? dV >>= k ∧ ∀ v, k (some #[v]) = pure [(a, v)]
end
section
variable {Z : Cx} {pins : List (Addr × Obj)} {σZ σ : L2.St} {H : Hp} {s : Shared} {N : List Str} {cells : List (Str × Addr)} {sc scope : Scope} {qual : Str} {ps : List Str} {ds : List Int} {params : Arguments} {body : Expr} {f : Addr} {Q : VK} {E : XK} {tb : TE} {k : Nat}
/-- f(), f a lambda that stands -/
theorem lam_run (I : Inv Z pins σZ H s) (C : CellsOk s.heap H N σ cells sc) (hl : σ.length = N.length) (L : LamS N sc scope ps) (B : LamB params ps ds) (hf : LamAt H f qual params body scope ds (cloFrom cells scope.names [])) (hr : Room (k + 1) Z.A)
    (hbody : ∀ (A : Around) (outer : List Env) (s : Shared) (H : Hp) (f c' : Addr), Room k (A.deeper (lamE qual scope cells s.heap.objs.size f c')) → PE (lamX Z.prog Z.w Z.K Z.mg Z.base N qual scope cells A outer s H E f c') body tb)
    (ht : tb σ H Q) (hx : PassesAt (L2.CX Z.prog Z.w) Z σZ E) : wpAny (model Z.prog Z.w) Z.A (call (.ref f) []) (EP Z pins σZ Q) Z.xe s := by
  obtain ⟨dV, c', h1, h2, hD⟩ := hf
  obtain ⟨⟨doc, pm, ctv, of⟩, _, _⟩ := I.hok f _ h1
  obtain ⟨⟨oc, vs, t, hoc, hdc, hvc⟩, _, _⟩ := I.hok c' _ h2
  have hb : ∃ bs : List (Str × Value), (∀ y ∈ bs, scope.names.lookup y.1 = some .local) ∧ BindsTo s (PySem.W.kdv_fn "<lambda>" qual params (.expr body) scope (cloFrom cells scope.names []) dV doc pm (.ref c') ctv) ⟨[], []⟩ bs := by
    rcases hD with ⟨e1, e2⟩ | ⟨d, t, e1, e2, e3⟩
    · subst e1 e2
      obtain ⟨hp, hb⟩ := B.none_ rfl
      exact ⟨[], (fun y hy => absurd hy (by simp)), BindsTo.of_eq (hb _ _ _ _ _ _ _ _)⟩
    · subst e1 e2
      obtain ⟨a, hp, hb⟩ := B.one d rfl
      obtain ⟨kk, hb1, hb2⟩ := hb qual (.expr body) scope (cloFrom cells scope.names []) (.ref t) doc pm (.ref c') ctv
      obtain ⟨_, its, rv, o, ho, hoc, n, hod⟩ := I.hok t _ e3
      obtain ⟨u, hu, _⟩ : ∃ u, its = [u] ∧ RelV (.int d) u := by
        cases rv with
        | cons r rr =>
          cases rr
          exact ⟨_, rfl, r⟩
      subst hu
      refine ⟨[(a, u)], fun y hy => ?_, BindsTo.of_defaults (o := o) rfl ho hod hb1 (hb2 u)⟩
      rw [List.mem_singleton.mp hy]
      exact L.par a (by rw [hp]; exact List.mem_cons_self)
  obtain ⟨bs, hloc, hbind⟩ := hb
  have rc : codeAny (model Z.prog Z.w) Z.A (.call (.ref f) ⟨[], []⟩) (CR (L2.CX Z.prog Z.w) Z.stack Z.prog Z.w H s Q E) s := by
    refine PySem.W.kla_callFunE hr.depth of rfl L.co L.gen rfl ⟨c', oc, vs, t, rfl, hoc, hdc, hvc⟩ (hbind _ _ _ _ ?_)
    refine wpAny_newFunctionEnv L.noc hloc (fun h₁ hns hsb => ⟨I.nolimit.fresh _ hsb, ?_⟩) L.kind
    show codeAny _ _ (.expr body (lamE qual scope cells s.heap.objs.size f c')) _ _
    have kp : ∀ b o, s.heap.get? b = some o → h₁.get? b = some o := fun b o e => hsb.extBut b o (Nat.ne_of_lt (Heap.lt_size e)) (Heap.get?_push_of_some _ e)
    have J := lam_enter (qual := qual) (E := E) (f := f) (c' := c') (tk := s.toks + bs.length) C hl L I.env0 hr.hd hns kp
    refine PySem.W.kla_codeExpr (wpAny_mono ((hbody Z.A Z.stack s H f c' (hr.deeper _)).run [] _ _ H Q J ht) (fun v s' hq => ?_) fun e s' hq => hq)
    obtain ⟨w', H', J', rv, q⟩ := hq
    exact ⟨w', H', J'.os, J'.bare, J'.base, J'.hok, rv, q⟩
  refine wpAny_call (codeAny_mono rc fun r s' hq => ?_)
  cases r with
  | error e => exact hx pins H s e s' I hq
  | ok fl =>
    cases fl with
    | ret u => exact I.after hq
    | next => exact False.elim hq
    | brk => exact False.elim hq
    | cont => exact False.elim hq
end
/-! ### list.count, flat items -/
def rCntF (K : PySem.W.Frag) : V → List V → Hp → VK → Prop := fun x xs H Q => ∃ (p : Addr) (ys : List V) (y : V), x = .ref p ∧ xs = [y] ∧ SqL K H p ys ∧ flatV y = true ∧ ys.all flatV = true ∧ Q (.int (ys.countP fun z => eqV z y : Nat)) H
theorem cnt_vals {x : V} : ∀ {ys : List V} {its : List Value}, Vals ys its → ys.all flatV = true → its.countP (eqU x) = ys.countP fun z => eqV z x
  | [], [], _, _ => rfl
  | y :: ys, v :: its, h, f => by
    cases h with
    | cons r rr =>
      have f' : flatV y = true ∧ ys.all flatV = true := by simpa using f
      rw [List.countP_cons, List.countP_cons, cnt_vals rr f'.2, eqU_of r f'.1]
theorem mt_countF {X : Cx} : MtR X "list.count" (rCntF X.K) := by
  intro pins s σ H x xs v us Q I rx rxs h
  obtain ⟨p, ys, y, rfl, rfl, hs, fy, fys, q⟩ := h
  cases rx
  obtain ⟨u, rfl, ru⟩ := rxs.one
  obtain ⟨its, rv, ⟨⟨cls, dd, data, sl⟩, n, ho, hc, hdn, hd⟩, hlen⟩ := I.list hs
  simp only at hc hd
  subst hc hd
  refine call_meets PySem.F.slot_list_count ⟨_, ho, rfl⟩ PySem.F.entry_list_count (PySem.F.args_list_count_2 _ _)
    (SeqAt.list_countAt p its.toArray n dd sl u (eqU y)) ⟨ho, fun z hz => mem_eqAt ru fy rv fys z (by simpa using hz), ?_⟩
  have e : its.toArray.toList.countP (eqU y) = ys.countP fun z => eqV z y := cnt_vals rv fys
  rw [e]
  exact ⟨.int _, H, I.tok _, ⟨_, rfl⟩, q⟩
/-! ### the lambdas of a def -/
structure LamD where
  params : Arguments
  body : Expr
  scope : Scope
  ps : List Str
  ds : List Int
  t : XK → TE
def LamD.at_ (l : LamD) (H : Hp) (f : Addr) (q : Str) (cells : List (Str × Addr)) : Prop := LamAt H f q l.params l.body l.scope l.ds (cloFrom cells l.scope.names [])
/-- a lambda of the text, its body's reading t -/
structure LamOk (P : Program) (w : World) (K : PySem.W.Frag) (mg : Str → Option Value) (base : Heap) (N : List Str) (sc : Scope) (cells : List (Str × Addr)) (qual : Str) (k : Nat) (l : LamD) : Prop where
  S : LamS N sc l.scope l.ps
  B : LamB l.params l.ps l.ds
  body : ∀ (A : Around) (outer : List Env) (s : Shared) (H : Hp) (E : XK) (f c' : Addr), Room k (A.deeper (lamE qual l.scope cells s.heap.objs.size f c')) → PE (lamX P w K mg base N qual l.scope cells A outer s H E f c') l.body (l.t E)
/-- where the cells of the maker hold σ -/
def Sees (Z : Cx) (N : List Str) (σ : L2.St) (cells : List (Str × Addr)) (sc : Scope) : Prop := ∀ (pins : List (Addr × Obj)) (s : Shared) (σZ : L2.St) (H : Hp), Inv Z pins σZ H s → CellsOk s.heap H N σ cells sc
/-- x(), x a name that holds one of the lambdas -/
def tLamV (i : Nat) (LO : LamD → Prop) (qual : Str) (cells : List (Str × Addr)) (σ : L2.St) (E : L2.St → XK) : TE := fun σZ H Q => ∃ f l, σZ[i]? = some (some (.ref f)) ∧ LO l ∧ l.at_ H f qual cells ∧ l.t (E σZ) σ H Q
theorem pe_lamV {Z : Cx} {N : List Str} {σ : L2.St} {sc : Scope} {cells : List (Str × Addr)} {qual a : Str} {LO : LamD → Prop} {i k : Nat} {E : L2.St → XK} {p1 p2 : Pos} (hC : Sees Z N σ cells sc) (hl : σ.length = N.length) (hL : ∀ l, LO l → LamOk Z.prog Z.w Z.K Z.mg Z.base N sc cells qual k l) (hr : Room (k + 1) Z.A)
    (hx : ∀ σZ, PassesAt (L2.CX Z.prog Z.w) Z σZ (E σZ)) (hN : Z.N[i]? = some a) (hv : Vis Z.env.scope a) (hd : (a == ("__debug__" : Str)) = false := by decide) (hcd : (a == ("__classdict__" : Str)) = false := by decide) : PE Z (.Call (.Name a p1) [] [] p2) (tLamV i LO qual cells σ E) := by
  refine ⟨fun pins s σZ H Q I h => ?_⟩
  obtain ⟨f, l, hi, hm, la, ht⟩ := h
  refine wpAny_Call_Name_kw (thn ((pe_var (pos := p1) (i := i) hN hv hd hcd).run pins s σZ H (fun v H1 => v = .ref f ∧ H1 = H) I ⟨.ref f, hi, rfl, rfl⟩) fun u s1 ⟨v, H1, I1, r1, q1⟩ => ?_)
  obtain ⟨rfl, rfl⟩ := q1
  obtain rfl : u = Value.ref f := r1
  obtain ⟨_, _, h1, _⟩ := id la
  obtain ⟨⟨doc, pm, ctv, of⟩, _, _⟩ := I1.hok f _ h1
  refine PySem.W.callWith_F0 ⟨_, _, _, _, of⟩ ?_
  have O := hL l hm
  exact lam_run I1 (hC pins s1 σZ H1 I1) hl O.S O.B la hr (fun A outer s H f c' hr2 => O.body A outer s H (E σZ) f c' hr2) ht (hx σZ)
/-- a def that calls what it got: a names it; TT: what it makes of the lambda's reading -/
def GivesL (P : Program) (w : World) (K : PySem.W.Frag) (mg : Str → Option Value) (base : Heap) (Ng : List Str) (x : Str) (st : Stmt) (a : Str) (j : Nat) (TT : (XK → Hp → VK → Prop) → Hp → VK → Prop) : Prop :=
  ∀ (g : Addr) (cdg : Value) (A : Around) (outer : List Env) (s : Shared) (H : Hp) (f : Addr) (Q : VK) (LF : Hp → Prop) (tl : XK → Hp → VK → Prop), Room j (A.deeper (envOfC x (defScope st) s.heap.objs.size g cdg)) →
    (∀ (W : WX) (pn : List (Addr × Obj)) (xe : Value → Shared → Prop) (E : L2.St → XK) (p1 p2 : Pos), Takes ((cxOf L2.CX0 P w K mg base Ng x (defScope st) g cdg A outer s H (fun _ _ _ => False)).nox.tr pn xe) W → (∀ σ' cls d H', E σ' cls d H' → W cls d σ' H') →
      PE ((cxOf L2.CX0 P w K mg base Ng x (defScope st) g cdg A outer s H (fun _ _ _ => False)).nox.tr pn xe) (.Call (.Name a p1) [] [] p2) (fun σZ HZ Q => σZ[0]? = some (some (.ref f)) ∧ LF HZ ∧ tl (E σZ) HZ Q)) →
    LF H → TT tl H Q → ∃ t, PSs (cxOf L2.CX0 P w K mg base Ng x (defScope st) g cdg A outer s H (fun _ _ _ => False)).nox (defBody st) t ∧ t { nx := fun _ H' => Q .non H', rt := Q } (L2.start Ng [.ref f]) H
/-- x(e), e one of the lambdas, x the def that calls it -/
def tTold (ta : TA) (LO : LamD → Prop) (qual : Str) (cells : List (Str × Addr)) (sg : L2.St → L2.St) (TT : (XK → Hp → VK → Prop) → Hp → VK → Prop) : TE := fun σ H Q =>
  ta σ H fun vs H1 => ∃ f l, vs = [.ref f] ∧ LO l ∧ l.at_ H1 f qual cells ∧ TT (fun E H' Q' => l.t E (sg σ) H' Q') H1 Q
theorem pe_told {Y : Cx} {N Ng : List Str} {sg : L2.St → L2.St} {sc : Scope} {cells : List (Str × Addr)} {qual x a : Str} {LO : LamD → Prop} {k j : Nat} {TT : (XK → Hp → VK → Prop) → Hp → VK → Prop} {st : Stmt} {ta : TA} {e : Expr} {p pos : Pos}
    (hC : ∀ (pins : List (Addr × Obj)) (s : Shared) (σ : L2.St) (H : Hp), Inv Y pins σ H s → CellsOk s.heap H N (sg σ) cells sc ∧ (sg σ).length = N.length) (hL : ∀ l, LO l → LamOk Y.prog Y.w Y.K Y.mg Y.base N sc cells qual k l) (hr : Room j Y.A)
    (G : GFun Y.K Y.mg x st) (Sg : FnScope Ng [a] (defScope st)) (hb : BindL x x st [a]) (hG : GivesL Y.prog Y.w Y.K Y.mg Y.base Ng x st a (k + 1) TT) (hNg : Ng[0]? = some a) (hva : Vis (defScope st) a) (ha : PA Y [e] ta) (hk : k + 2 ≤ j := by decide) (hg : Gl Y x := by rfl)
    (hdb : (x == ("__debug__" : Str)) = false := by decide) (hd : (a == ("__debug__" : Str)) = false := by decide) (hcd : (a == ("__classdict__" : Str)) = false := by decide)
    (hst : starEach [e] Y.env = (false, eval e Y.env) :: starEach [] Y.env := by rfl) (hpl : (backTo pos (starEach [] Y.env)).any (·.1) = false := by rfl) :
    PE Y (.Call (.Name x p) [e] [] pos) (tTold ta LO qual cells sg TT) := by
  refine ⟨fun pins s σ H Q I h => ?_⟩
  obtain ⟨g, fd, hm, F⟩ := G.ex
  have kp := F.kp
  obtain ⟨oc, od, kV, doc, pm, an, cdv, ct, osl, rfl, lk, hcd2⟩ := F.ex
  refine wpAny_Call_Name_kw (ld_glob I hg hm ?_ hdb)
  refine PySem.W.callWith_K (h₀ := Y.base) I.ok.mod.kin kp (thn (ha.run pos pins s σ H _ I h) fun us s1 hh => ?_) hst hpl
  obtain ⟨vs, H1, I1, r1, f, l, ev, hml, la, ht⟩ := hh
  subst ev
  refine ⟨I1.kIn, ?_⟩
  have hu : us = [.ref f] := by
    cases r1 with
    | cons ru rn =>
      cases rn
      cases ru
      rfl
  subst hu
  have O := hL l hml
  obtain ⟨C1, hl1⟩ := hC pins s1 σ H1 I1
  have r : Room (k + 2) Y.A := hr.mono hk
  have rc : codeAny (model Y.prog Y.w) Y.A (.call (.ref g) ⟨[.ref f], []⟩) (CR L2.CX0 Y.stack Y.prog Y.w H1 s1 Q (fun _ _ _ => False)) s1 := by
    refine LamX.run_ofS (N := Ng) (ps := [a]) (us := [.ref f]) (vs := [.ref f]) lk hcd2 Sg r I1.env0 (BindsTo.of_eq (hb _ _ _ _ _ _ [.ref f] rfl)) (.cons rfl .nil) rfl fun hr' => ?_
    have act : ∀ (W : WX) (pn : List (Addr × Obj)) (xe : Value → Shared → Prop) (E : L2.St → XK) (p1 p2 : Pos), Takes ((cxOf L2.CX0 Y.prog Y.w Y.K Y.mg Y.base Ng x (defScope st) g cdv Y.A Y.stack s1 H1 (fun _ _ _ => False)).nox.tr pn xe) W → (∀ σ' cls d H', E σ' cls d H' → W cls d σ' H') →
        PE ((cxOf L2.CX0 Y.prog Y.w Y.K Y.mg Y.base Ng x (defScope st) g cdv Y.A Y.stack s1 H1 (fun _ _ _ => False)).nox.tr pn xe) (.Call (.Name a p1) [] [] p2) (fun σZ HZ Q => σZ[0]? = some (some (.ref f)) ∧ l.at_ HZ f qual cells ∧ l.t (E σZ) (sg σ) HZ Q) := fun W pn xe E p1 p2 tk hW => by
      have V := pe_lamV (Z := (cxOf L2.CX0 Y.prog Y.w Y.K Y.mg Y.base Ng x (defScope st) g cdv Y.A Y.stack s1 H1 (fun _ _ _ => False)).nox.tr pn xe) (N := N) (σ := sg σ) (sc := sc) (cells := cells) (qual := qual) (a := a) (LO := LO) (i := 0) (k := k) (E := E) (p1 := p1) (p2 := p2)
        (fun pinsZ sZ σZ HZ IZ => C1.un IZ.base fun y c _ z => absurd (show c ∈ ([] : List Addr) from z) (by simp)) hl1 hL hr' (fun σZ pinsZ HZ sZ e s' IZ c => tk e s' (XE.of_call IZ (fun cls d H' h => hW σZ cls d H' h) c)) hNg hva hd hcd
      refine ⟨fun pinsZ sZ σZ HZ Q IZ hh => V.run pinsZ sZ σZ HZ Q IZ ?_⟩
      obtain ⟨a1, a2, a3⟩ := hh
      exact ⟨f, l, a1, hml, a2, a3⟩
    obtain ⟨t', ht', hq'⟩ := hG g cdv Y.A Y.stack s1 H1 f Q (fun H' => l.at_ H' f qual cells) (fun E H' Q' => l.t E (sg σ) H' Q') hr' act la ht
    exact ⟨t', ht'.nox, hq'⟩
  refine wpAny_call (codeAny_mono rc fun r s2 hq => ?_)
  cases r with
  | error e => exact (show False from hq).elim
  | ok fl =>
    cases fl with
    | ret u => exact I1.after hq
    | next => exact False.elim hq
    | brk => exact False.elim hq
    | cont => exact False.elim hq
/-! ### x(lambda: ..) -/
def tToldL (T : List (Addr × Str)) (t : XK → TE) (TT : (XK → Hp → VK → Prop) → Hp → VK → Prop) : TE := fun σ H Q => Tabs T H ∧ ∀ H1, ExtN H H1 → Tabs T H1 → TT (fun E H' Q' => t E σ H' Q') H1 Q
section
variable {X : Cx} {Ng : List Str} {x a : Str} {j : Nat} {TT : (XK → Hp → VK → Prop) → Hp → VK → Prop} {st : Stmt} {T : List (Addr × Str)} {c P : Addr} {params : Arguments} {body : Expr} {scope : Scope} {lpos p pos : Pos} {t : XK → TE} {k : Nat}
theorem pe_toldL0 (TB : TabB X.base X.mg c P) (hcode : X.env.code = .ref c) (hm : (P, X.env.qual ++ "<lambda>") ∈ T) (hu : ∀ p ∈ T, p.1 = P → p.2 = X.env.qual ++ "<lambda>") (hr : Room j X.A)
    (G : GFun X.K X.mg x st) (Sg : FnScope Ng [a] (defScope st)) (hb : BindL x x st [a]) (hG : GivesL X.prog X.w X.K X.mg X.base Ng x st a (k + 1) TT) (hNg : Ng[0]? = some a) (hva : Vis (defScope st) a)
    (S : LamS X.N X.env.scope scope []) (B : LamB params [] [])
    (hbody : ∀ (A : Around) (outer : List Env) (s : Shared) (H : Hp) (E : XK) (f c' : Addr), Room k (A.deeper (lamE (X.env.qual ++ "<lambda>") scope X.env.cells s.heap.objs.size f c')) → PE (lamX X.prog X.w X.K X.mg X.base X.N (X.env.qual ++ "<lambda>") scope X.env.cells A outer s H E f c') body (t E))
    (hk : k + 2 ≤ j := by decide) (hg : Gl X x := by rfl) (hdb : (x == ("__debug__" : Str)) = false := by decide) (hd : (a == ("__debug__" : Str)) = false := by decide) (hcd : (a == ("__classdict__" : Str)) = false := by decide) (hdf : defaultsOf params X.env = ([], []) := by rfl) :
    PE X (.Call (.Name x p) [.Lambda params body scope lpos] [] pos) (tToldL T t TT) := by
  have L := pe_told (Y := X) (N := X.N) (sg := id) (sc := X.env.scope) (cells := X.env.cells) (qual := X.env.qual ++ "<lambda>") (LO := fun l => l = ⟨params, body, scope, [], [], t⟩) (p := p) (pos := pos)
    (fun pins s σ H I => ⟨CellsOk.of I, I.len⟩) (fun l hl => by
      rw [show l = _ from hl]
      exact ⟨S, B, hbody⟩) hr G Sg hb hG hNg hva (pa_cons (pe_lam0 (pos := lpos) (body := body) (T := T) TB hcode hm hu S.free hdf) pa_nil) hk hg hdb hd hcd
  refine ⟨fun pins s σ H Q I h => L.run pins s σ H Q I ?_⟩
  exact ⟨h.1, fun f H1 n1 e1 T1 l1 => ⟨f, _, rfl, rfl, l1, h.2 H1 e1 T1⟩⟩
theorem pe_toldL1 {y : Str} {d : Int} {dk : Nat} {dp : Pos} (TB : TabB X.base X.mg c P) (hcode : X.env.code = .ref c) (hm : (P, X.env.qual ++ "<lambda>") ∈ T) (hu : ∀ p ∈ T, p.1 = P → p.2 = X.env.qual ++ "<lambda>") (hr : Room j X.A)
    (G : GFun X.K X.mg x st) (Sg : FnScope Ng [a] (defScope st)) (hb : BindL x x st [a]) (hG : GivesL X.prog X.w X.K X.mg X.base Ng x st a (k + 1) TT) (hNg : Ng[0]? = some a) (hva : Vis (defScope st) a)
    (S : LamS X.N X.env.scope scope [y]) (B : LamB params [y] [d])
    (hbody : ∀ (A : Around) (outer : List Env) (s : Shared) (H : Hp) (E : XK) (f c' : Addr), Room k (A.deeper (lamE (X.env.qual ++ "<lambda>") scope X.env.cells s.heap.objs.size f c')) → PE (lamX X.prog X.w X.K X.mg X.base X.N (X.env.qual ++ "<lambda>") scope X.env.cells A outer s H E f c') body (t E))
    (hk : k + 2 ≤ j := by decide) (hg : Gl X x := by rfl) (hdb : (x == ("__debug__" : Str)) = false := by decide) (hd : (a == ("__debug__" : Str)) = false := by decide) (hcd : (a == ("__classdict__" : Str)) = false := by decide)
    (hdf : params.defaults = [.Constant (.int d) dk dp] := by rfl) (hkd : params.kw_defaults = [] := by rfl) :
    PE X (.Call (.Name x p) [.Lambda params body scope lpos] [] pos) (tToldL T t TT) := by
  have L := pe_told (Y := X) (N := X.N) (sg := id) (sc := X.env.scope) (cells := X.env.cells) (qual := X.env.qual ++ "<lambda>") (LO := fun l => l = ⟨params, body, scope, [y], [d], t⟩) (p := p) (pos := pos)
    (fun pins s σ H I => ⟨CellsOk.of I, I.len⟩) (fun l hl => by
      rw [show l = _ from hl]
      exact ⟨S, B, hbody⟩) hr G Sg hb hG hNg hva (pa_cons (pe_lam1 (pos := lpos) (body := body) (T := T) TB hcode hm hu S.free hdf hkd) pa_nil) hk hg hdb hd hcd
  refine ⟨fun pins s σ H Q I h => L.run pins s σ H Q I ?_⟩
  exact ⟨h.1, fun f H1 n1 e1 T1 l1 => ⟨f, _, rfl, rfl, l1, h.2 H1 e1 T1⟩⟩
end
theorem lamB0 {params : Arguments} (h : ∀ (q : Str) (body : FuncBody) (scope : Scope) (cl : List (Str × Addr)) (doc pm cd ct : Value), bindArgs (PySem.W.kdv_fn "<lambda>" q params body scope cl .none doc pm cd ct) ⟨[], []⟩ = pure []) : LamB params [] [] := ⟨fun _ => ⟨rfl, h⟩, fun d e => by cases e⟩
/-! ### an own class of errors, what a law's told asks of it -/
def exNames : List Str := ["InvalidRing", "InvalidChain", "UnknownReader", "UnknownBook", "InvalidNumber", "SameBook", "OtherRing"]
def exNm (j : Nat) : Str := exNames.getD j "other"
structure ExcT (K : PySem.W.Frag) (D : Addr) (j : Nat) : Prop where
  ex : PySem.W.excIn K D He.veBase "ValueError.__new__" = true
  kp : PySem.W.keepIn K (.ref D) = true
  sb : PySem.W.subIn K (.ref D) (.type "BaseException") = some true
  ty : PySem.W.typeIn K (.ref D) = some (.type "type")
  c : ExcC K D
  is_ : ∀ i, i < 7 → PySem.W.kitOne K (.ref D) (.ref (He.ga K (exNm i))) = some (decide (i = j))
  ve : PySem.W.kitOne K (.ref D) (.type "ValueError") = some true
  re : PySem.W.exmOne K (.ref D) (.ref (He.ga K "ReadingError")) = some true
def excCB (K : PySem.W.Frag) (D : Addr) : Bool := He.eqO (PySem.W.findIn K (.ref D) "__getattribute__") (some (some (.builtin "BaseException.__getattribute__"))) && (He.eqO (PySem.W.findIn K (.ref D) "__getattr__") (some none) && (decide (PySem.W.subIn K (.ref D) (.type "BaseException") = some true) && (PySem.W.hasDictIn K D &&
  (He.eqO (PySem.W.findIn K (.ref D) "__class__") (some (some (.builtin "object.__class__"))) && (He.eqO (PySem.W.specialIn K (.builtin "object.__class__") "__get__") (some (some (.builtin "getset_descriptor.__get__"))) && (decide (PySem.W.takesIn K (.builtin "object.__class__") = some true) && decide (PySem.W.mroIn K D (.type "object") = some true)))))))
theorem excC_ok {K : PySem.W.Frag} {D : Addr} (h : excCB K D = true) : ExcC K D := by
  obtain ⟨h1, h⟩ := He.ba h
  obtain ⟨h2, h⟩ := He.ba h
  obtain ⟨h3, h⟩ := He.ba h
  obtain ⟨h4, h⟩ := He.ba h
  obtain ⟨h5, h⟩ := He.ba h
  obtain ⟨h6, h⟩ := He.ba h
  obtain ⟨h7, h8⟩ := He.ba h
  exact ⟨He.eqO_ok h1, He.eqO_ok h2, of_decide_eq_true h3, h4, He.eqO_ok h5, He.eqO_ok h6, of_decide_eq_true h7, of_decide_eq_true h8⟩
def excTB (K : PySem.W.Frag) (D : Addr) (j : Nat) : Bool := PySem.W.excIn K D He.veBase "ValueError.__new__" && (PySem.W.keepIn K (.ref D) && (decide (PySem.W.subIn K (.ref D) (.type "BaseException") = some true) && (decide (PySem.W.typeIn K (.ref D) = some (.type "type")) && (excCB K D &&
  ((List.range 7).all (fun i => decide (PySem.W.kitOne K (.ref D) (.ref (He.ga K (exNm i))) = some (decide (i = j)))) && (decide (PySem.W.kitOne K (.ref D) (.type "ValueError") = some true) && decide (PySem.W.exmOne K (.ref D) (.ref (He.ga K "ReadingError")) = some true)))))))
theorem excT_ok {K : PySem.W.Frag} {D : Addr} {j : Nat} (h : excTB K D j = true) : ExcT K D j := by
  obtain ⟨h1, h⟩ := He.ba h
  obtain ⟨h2, h⟩ := He.ba h
  obtain ⟨h3, h⟩ := He.ba h
  obtain ⟨h4, h⟩ := He.ba h
  obtain ⟨h5, h⟩ := He.ba h
  obtain ⟨h6, h⟩ := He.ba h
  obtain ⟨h7, h8⟩ := He.ba h
  exact ⟨h1, h2, of_decide_eq_true h3, of_decide_eq_true h4, excC_ok h5, fun i hi => of_decide_eq_true (List.all_eq_true.mp h6 i (List.mem_range.mpr hi)), of_decide_eq_true h7, of_decide_eq_true h8⟩
/-- raise X('..') -/
theorem psr_own {X : Cx} {C : Addr} {W : WX} {x m : Str} {j n : Nat} {p p2 pos pos' : Pos} (T : ExcT X.K C n) (gC : X.mg x = some (.ref C)) (hc : X.calm = true) (tk : Takes X W) (hg : Gl X x := by rfl) (hdb : (x == ("__debug__" : Str)) = false := by decide) :
    PS X (.Raise (some (.Call (.Name x p) [.Constant (.str m) j p2] [] pos)) none pos') (fun _ σ H => W (.ref C) none σ H) :=
  ps_raise hc tk (pmk_own PySem.F.excBase_ValueError T.ex gC T.kp (raises_own T.sb T.ty) hg hdb)
/-- the suite of an error without a dict: its class is told -/
theorem pss_low {X : Cx} {a : Addr} {oe : Obj} {pn : List (Addr × Obj)} {cls : Value} {d : Option Addr} {body : List Stmt} {t : Addr → TS} (hz : Zc cls d oe) (h : ∀ Dc, Zc (.ref Dc) none oe → ExcC X.K Dc → PSs (X.suite a ((a, oe) :: pn)) body (t Dc)) :
    PSs (X.suite a ((a, oe) :: pn)) body (fun D σ H => ∃ Dc, cls = .ref Dc ∧ d = none ∧ ExcC X.K Dc ∧ t Dc D σ H) := by
  refine ⟨fun pins s σ H D I hh => ?_⟩
  obtain ⟨Dc, e1, e2, hC, q⟩ := hh
  rw [e1, e2] at hz
  exact (h Dc hz hC).run pins s σ H D I q
section
variable {X : Cx}
theorem mt_indexK (K : PySem.W.Frag) (h : X.K = K := by rfl) : MtR X "list.index" (rIndex K) := by subst h; exact mt_index
theorem mt_countFK (K : PySem.W.Frag) (h : X.K = K := by rfl) : MtR X "list.count" (rCntF K) := by subst h; exact mt_countF
theorem pe_bmK (K : PySem.W.Frag) {T : String} {name : Str} {id : String} {r : V → List V → Hp → VK → Prop} {o e : Expr} {es : List Expr} {to : TE} {t : TA} {apos cpos : Pos} (pa : PlainAttrs T) (slot : Slot T name id) (hty : typeOf (.builtin id) = pure (.type "method_descriptor")) (hm : MtR X id r) (ho : PE X o to) (ha : PA X (e :: es) t)
    (hbase : attributeBase o name X.env (eval o X.env) = eval o X.env := by rfl)
    (hfew : ((backTo cpos (starEach (e :: es) X.env)).all (fun x => !x.1) && (backToKw cpos (keywordEach [] X.env)).all (fun x => x.1.isSome) && decide ((e :: es).length + ([] : List Keyword).length + (if ([] : List Keyword).isEmpty then 0 else 1) < 30)) = true := by rfl)
    (hline : (apos.endLine == cpos.line) = true := by rfl) (hs : starEach (e :: es) X.env = (false, eval e X.env) :: starEach es X.env := by rfl) (hplain : (backTo cpos (starEach es X.env)).any (·.1) = false := by rfl) (h : X.K = K := by rfl) :
    PE X (.Call (.Attribute o name apos) (e :: es) [] cpos) (tBM K T r to t) := by
  subst h
  exact pe_bm pa slot hty hm ho ha hbase hfew hline hs hplain
end
end G48
namespace G48
open PySem PySem.Spec PyProof.Rows L2 Evl
open LamX (TabB)
/-! ### the end of a law whose own def makes lambdas: its table is empty at the start, the script is frozen or the module's -/
/-- the script's own form: no plain list -/
def ScrF (K : PySem.W.Frag) (H : Hp) (a : Addr) (xs : List V) : Prop := (∃ o, H a = some (.frz o (.lst xs))) ∨ ∃ (o : Obj) (its : Array Value) (n : Nat), K.lookup a = some o ∧ o.cls = .type "list" ∧ o.dict = none ∧ o.data = .seq its n ∧ its.size ≤ sizeLine ∧ Vals xs its.toList
/-- what is tracked at the start -/
def startH (K : PySem.W.Frag) (P a : Addr) (o : Obj) (xs : List V) : Hp := fun b => if b = P then some (.tbl #[]) else if b = a ∧ (K.lookup a).isNone = true then some (.frz o (.lst xs)) else none
section
variable {P : Program} {w : World} {K : PySem.W.Frag} {mg mb : Str → Option Value} {k : Nat} {fa a c T : Addr} {fd : FuncData} {x : Str} {sp : Sp} {s : Shared} {vs : List Value} {ns : List Int}
theorem law_lam (KX : K.In s.heap) (hG : s.heap.Ns mainGlobals mg) (hB : s.heap.Ns builtinsNs mb) (hbb : ∀ x : Str, x ≠ "__name__" → mb x = bootBuiltins x) (hlim : s.heap.NoLimit) (hg : s.gens = #[])
    (hT : s.heap.get? T = some { cls := .none, data := .fields #[] }) (nT : K.lookup T = none) (C : PySem.W.CodeHd s.heap c T)
    (hbm : ∃ (bm : Addr) (ob : Obj), mg "__builtins__" = some (.ref bm) ∧ bm ≠ builtinsNs ∧ s.heap.get? bm = some ob ∧ ob.cls = .type "module" ∧ ob.dict = some builtinsNs ∧ ob.data = .plain)
    (ha : s.heap.get? a = some { cls := .type "list", data := .seq vs.toArray }) (hi : IntsAre vs ns) (hl : ns.length ≤ sizeLine) (hr : Room k callerA)
    (F : ∀ base : Heap, K.In base → base.Ns mainGlobals mg → TabB base mg c T → FnOk P w K mg base L2.CX0 k fa fd [x] sp) (hbind : ∀ (s : Shared) (u : Value), BindsTo s fd ⟨[u], []⟩ [(x, u)])
    (hsp : ∀ H : Hp, H T = some (.tbl #[]) → ScrF K H a (ns.map V.int) → sp [.ref a] H (fun v _ => v = .bl true) fun _ _ _ => False) :
    codeAny (model P w) callerA (.call (.ref fa) ⟨[.ref a], []⟩) (fun r s' => r = .ok (.ret (.bool true)) ∧ OldK s.heap s'.heap ∧ s'.os = s.os ∧ AllBare s'.gens) s := by
  have rv := vals_ints hi
  have lenV := hi.length
  have hl' : (ns.map V.int).length ≤ sizeLine := by rw [List.length_map]; exact hl
  have neq : a ≠ T := fun z => by
    rw [z, hT] at ha
    cases ha
  have hw : ∃ H0 : Hp, startH K T a { cls := .type "list", data := .seq vs.toArray } (ns.map V.int) = H0 := ⟨_, rfl⟩
  obtain ⟨H0, eH⟩ := hw
  have atT : H0 T = some (.tbl #[]) := by rw [← eH]; exact if_pos rfl
  have atA : K.lookup a = none → H0 a = some (.frz { cls := .type "list", data := .seq vs.toArray } (.lst (ns.map V.int))) := fun z => by
    rw [← eH]
    exact (if_neg neq).trans (if_pos ⟨rfl, by rw [z]; rfl⟩)
  have only : ∀ b u, H0 b = some u → (b = T ∧ u = .tbl #[]) ∨ (b = a ∧ K.lookup a = none ∧ u = .frz { cls := .type "list", data := .seq vs.toArray } (.lst (ns.map V.int))) := fun b u z => by
    rw [← eH] at z
    unfold startH at z
    by_cases h1 : b = T
    · rw [if_pos h1] at z
      exact .inl ⟨h1, (Option.some.inj z).symm⟩
    · rw [if_neg h1] at z
      by_cases h2 : b = a ∧ (K.lookup a).isNone = true
      · rw [if_pos h2] at z
        exact .inr ⟨h2.1, by simpa using h2.2, (Option.some.inj z).symm⟩
      · rw [if_neg h2] at z
        cases z
  have scr : ScrF K H0 a (ns.map V.int) := by
    cases hk : K.lookup a with
    | none => exact .inl ⟨_, atA hk⟩
    | some o =>
      have e := KX a o hk
      rw [ha] at e
      cases e
      exact .inr ⟨_, vs.toArray, _, hk, rfl, rfl, rfl, by rw [List.size_toArray, lenV]; exact hl, by simpa using rv⟩
  have hok : HOk P w H0 s.heap := fun b u z => by
    rcases only b u z with ⟨rfl, rfl⟩ | ⟨rfl, _, rfl⟩
    · exact hT
    · exact ⟨ha, hl', vs, _, rv, ha⟩
  -- an object that is neither a list nor an empty table is not tracked
  have clear : ∀ {b : Addr} {o : Obj}, s.heap.get? b = some o → (∀ us n, o.data ≠ .seq us n) → o.data ≠ .fields #[] → H0 b = none := fun {b o} e d1 d2 => by
    cases z : H0 b with
    | none => rfl
    | some u =>
      rcases only b u z with ⟨rfl, _⟩ | ⟨rfl, _, _⟩
      · rw [hT] at e
        cases e
        exact absurd rfl d2
      · rw [ha] at e
        cases e
        exact absurd rfl (d1 _ _)
  have get : ∀ {b : Addr} {o : Obj}, s.heap.get? b = some o → H0 b = none → (hidT s.heap H0).get? b = some o := fun e n => hidT_get e n
  have nsUp : ∀ {b : Addr} {m : Str → Option Value}, s.heap.Ns b m → (hidT s.heap H0).Ns b m := fun {b m} ⟨o, es, ep, e, d, r⟩ => ⟨o, es, ep, get e (clear e (fun us n z => by rw [d] at z; cases z) fun z => by rw [d] at z; cases z), d, r⟩
  have kIn : K.In (hidT s.heap H0) := fun b o e => get (KX b o e) (by
    cases z : H0 b with
    | none => rfl
    | some u =>
      rcases only b u z with ⟨rfl, _⟩ | ⟨rfl, n, _⟩
      · rw [nT] at e; cases e
      · rw [n] at e; cases e)
  have md : L2.Mod K mg (hidT s.heap H0) := ⟨kIn, nsUp hG, ⟨mb, nsUp hB, hbb⟩, let ⟨mc, h1, h2⟩ := hlim; ⟨mc, nsUp h1, h2⟩⟩
  have tb : TabB (hidT s.heap H0) mg c T := by
    obtain ⟨o, us, file, tf, flags, tg, inF, text, tt, e1, r1, r2, r3, r4, r5, r6, r7, r8, hne⟩ := C
    obtain ⟨bm, ob, b1, b2, b3, b4, b5, b6⟩ := hbm
    obtain ⟨og, es, ep, eg, dg, _⟩ := hG
    have ng : bm ≠ mainGlobals := fun q => by
      rw [q, eg] at b3
      cases b3
      rw [dg] at b6
      cases b6
    have nt : bm ≠ T := fun q => by
      rw [q, hT] at b3
      cases b3
      cases b6
    refine ⟨⟨o, us, file, tf, flags, tg, inF, text, tt, get e1 (clear e1 (fun us n z => ?_) fun z => ?_), r1, r2, r3, r4, r5, r6, r7, r8, hne⟩, ⟨bm, ob, b1, b2, ng, nt, get b3 (clear b3 (fun us n z => ?_) fun z => ?_), b4, b5, b6⟩, fun z => ?_⟩
    · rw [r2] at z
      cases z
    · rw [r2] at z
      cases z
      simp at r3
    · rw [b6] at z
      cases z
    · rw [b6] at z
      cases z
    · rw [z, hT] at eg
      cases eg
      cases dg
  have e0 : Env0 P w K mg (hidT s.heap H0) callerA [] s H0 := ⟨rfl, md, fun b o e => of_hidT e, Nat.le_of_eq (hidT_size _ _), trivial, fun b z => absurd (show b ∈ ([] : List Addr) from z) (by simp), hok, .of_eq hg⟩
  refine codeAny_mono ((F _ kIn (nsUp hG) tb).run callerA [] s H0 ⟨[.ref a], []⟩ [.ref a] [.ref a] _ _ hr e0 (hbind s (.ref a)) (.cons rfl .nil) (hsp H0 atT scr)) fun r s' h => ?_
  cases r with
  | error e => exact False.elim h
  | ok fl =>
    cases fl with
    | next => exact False.elim h
    | brk => exact False.elim h
    | cont => exact False.elim h
    | ret u =>
      obtain ⟨v, H', os, bare, un, hok', r', rfl⟩ := h
      obtain rfl : u = Value.bool true := r'
      have kept : ∀ b o, b ≠ T → s.heap.get? b = some o → s'.heap.get? b = some o := fun b o nb e => by
        cases z : H0 b with
        | none => exact un.keep b o e z (fun z => absurd (show b ∈ ([] : List Addr) from z) (by simp)) (by simp)
        | some u =>
          rcases only b u z with ⟨q, _⟩ | ⟨rfl, n, rfl⟩
          · exact absurd q nb
          · obtain ⟨e2, _⟩ := hok' _ _ (un.frzs _ _ _ z)
            rw [ha] at e
            cases e
            exact e2
      obtain ⟨more, hm⟩ := un.tbls T #[] atT
      have grown : s'.heap.get? T = some { cls := .none, data := .fields (#[] ++ more) } := hok' T _ hm
      refine ⟨rfl, ⟨fun b o e => ?_, fun b o e => ?_⟩, os, bare⟩
      · by_cases hb : b = T
        · subst hb
          rw [hT] at e
          cases e
          exact .inr (.inl ⟨(C.tab hT).isCodeTable, rfl, #[], more, rfl, grown⟩)
        · exact .inl (kept b o hb e)
      · by_cases hb : b = T
        · subst hb
          exact ⟨_, grown⟩
        · exact ⟨o, kept b o hb e⟩
/-- what is known of the law's promise at the head's heap h -/
def LawAtL (l : PySem.W.OpenLaw) (w : World) (K : PySem.W.Frag) (k n : Nat) (x : Str) (mg : Str → Option Value) (fa : Addr) (h : Heap) : Prop :=
  ∃ (fd : FuncData) (c T : Addr) (sp : Sp), h.get? T = some { cls := .none, data := .fields #[] } ∧ K.lookup T = none ∧ PySem.W.CodeHd h c T ∧ (∀ (s : Shared) (u : Value), BindsTo s fd ⟨[u], []⟩ [(x, u)]) ∧
    (∀ (H : Hp) (a : Addr) (ns : List Int), ns.length ≤ n → H T = some (.tbl #[]) → ScrF K H a (ns.map V.int) → sp [.ref a] H (fun v _ => v = .bl true) fun _ _ _ => False) ∧
    ∀ base : Heap, K.In base → base.Ns mainGlobals mg → TabB base mg c T → FnOk l.prog w K mg base L2.CX0 k fa fd [x] sp
theorem walk_lam {l : PySem.W.OpenLaw} {n k : Nat} {q : Program} {loose : List Str} {XP : (Str → Option Value) → Heap → Prop} {YP : World → Heap → Prop} {d : DefRec} {x : Str}
    (hn : l.most = some n) (hn2 : n ≤ sizeLine) (hdf : d.params.defaults = []) (hr : Room k callerA)
    (F : ∀ (w : World) (mg : Str → Option Value) (fa : Addr) (h : Heap), YP w h → h.Ns mainGlobals mg → mg d.name = some (.ref fa) → ∃ K : PySem.W.Frag, K.In h ∧ LawAtL l w K k n x mg fa h) :
    PySem.W.WalkO q loose XP YP l.row.toRowW d [] (fun f vs => PySem.call f vs) := by
  refine Att.attach_callB hn hdf fun w s₀ s₁ mg mb fa o pm cd doc a vs ns G Y ho hd hcd hmg hobj hints hlen hbits hg => ?_
  obtain ⟨K, KX, fd, c, T, sp, hT, nT, C, hb, hsp, hF⟩ := F w mg fa _ Y G.T.g hmg
  exact law_lam KX G.T.g G.T.b G.T.builtins G.T.nolimit hg hT nT C G.T.bmain hobj hints (Nat.le_trans hlen hn2) hr hF hb fun H hH hS => hsp H a ns hlen hH hS
end
/-! ### the Hook: facts of the heap without empty tables, and the law's own table -/
abbrev lawD : He.Defn := ("law", none)
abbrev lamC (K : PySem.W.Frag) : Addr := (He.cT K lawD).1
abbrev lamT (K : PySem.W.Frag) : Addr := (He.cT K lawD).2
abbrev AlL : Type := He.AlD × Bool
def SaysL (fas : List Gp.FB) (fn : List He5.DefA) (h : Heap) (K : PySem.W.Frag) : Prop := Gp.SaysP fas fn K ∧ PySem.W.codeHdIn K (lamC K) (lamT K) = true ∧ K.lookup (lamT K) = none ∧ h.get? (lamT K) = some { cls := .none, data := .fields #[] }
def obsL (n : Nat) (fas : List Gp.FB) (fn : List He5.DefA) (g : Addr → Option Obj) : AlL := (Gp.obsP fas fn (He.frT g (He5.asA g n)), He.tabsB g [lawD] (He.frT g (He5.asA g n)))
theorem saysL_of {n : Nat} {fas : List Gp.FB} {fn : List He5.DefA} {h : Heap} (e : obsL n fas fn h.get? = (He5.valA fn, true)) : SaysL fas fn h (He.frT h.get? (He5.asA h.get? n)) := by
  have e1 : Gp.obsP fas fn (He.frT h.get? (He5.asA h.get? n)) = He5.valA fn := congrArg (fun z : AlL => z.1) e
  have e2 : He.tabsB h.get? [lawD] (He.frT h.get? (He5.asA h.get? n)) = true := congrArg (fun z : AlL => z.2) e
  obtain ⟨h3, h4⟩ := He.ba (List.all_eq_true.mp e2 lawD List.mem_cons_self)
  cases q : h.get? (lamT (He.frT h.get? (He5.asA h.get? n))) with
  | none =>
    rw [show h.get? (He.cT (He.frT h.get? (He5.asA h.get? n)) lawD).2 = none from q] at h4
    cases h4
  | some o =>
    rw [show h.get? (He.cT (He.frT h.get? (He5.asA h.get? n)) lawD).2 = some o from q] at h4
    exact ⟨e1, h3, He.frT_none q h4, by rw [q, He.emptyTab_eq h4]⟩
def hookL (n : Nat) (fas : List Gp.FB) (fn : List He5.DefA) : PySem.W.Hook where
  α := AlL
  obs := fun s => obsL n fas fn s.heap.get?
  val := fun _ => (He5.valA fn, true)
  says := fun _ h => ∃ K : PySem.W.Frag, K.In h ∧ SaysL fas fn h K
  of := fun _ _ e => ⟨_, He.frT_in, saysL_of e⟩
  keeps := fun _ _ _ ⟨K, hK, c1, c2, c3, c4⟩ k => ⟨K, PySem.W.Frag.In.keeps hK k, c1, c2, c3, k _ _ c4⟩
theorem obsL_eq {n : Nat} {fas : List Gp.FB} {fn : List He5.DefA} {g : Addr → Option Obj} {s : Shared} (h : ∀ a, g a = s.heap.get? a) : obsL n fas fn g = (hookL n fas fn).obs s := by
  have e : g = s.heap.get? := funext h
  rw [e] <;> rfl
/-- the body of a law that makes lambdas: its code object and its table are told -/
abbrev BodyT (P : Program) (w : World) (K : PySem.W.Frag) (mg : Str → Option Value) (base : Heap) (N : List Str) (st : Stmt) (k : Nat) (sp : Sp) : Prop :=
  ∀ (f : Addr) (A : Around) (outer : List Env) (s : Shared) (H : Hp) (vs : List V) (Q : VK) (E : XK), TabB base mg (lamC K) (lamT K) → Room k (A.deeper (envOfC "law" (defScope st) s.heap.objs.size f (.ref (lamC K)))) → sp vs H Q E →
      ∃ t, PSs (cxOf L2.CX0 P w K mg base N "law" (defScope st) f (.ref (lamC K)) A outer s H E).nox (defBody st) t ∧ t { nx := fun _ H' => Q .non H', rt := Q } (start N vs) H
theorem fn_lam {P : Program} {w : World} {K : PySem.W.Frag} {mg : Str → Option Value} {base : Heap} {st : Stmt} {fd : FuncData} {N ps : List Str} {k : Nat} {sp : Sp} (F : Fun K "law" "law" st (He.ga K "law") fd) (S : FnScope N ps (defScope st)) (len : ∀ vs H Q E, sp vs H Q E → vs.length = ps.length)
    (body : BodyT P w K mg base N st k sp) (TB : TabB base mg (lamC K) (lamT K)) : FnOk P w K mg base L2.CX0 (k + 1) (He.ga K "law") fd ps sp := by
  obtain ⟨oc, od, kV, doc, pm, an, cdv, ct, osl, rfl, lk, hcd⟩ := F.ex
  obtain ⟨c0, rfl⟩ := He.codeIn_ref hcd
  have e : He.codeOf K lawD = c0 := He.codeOf_eq (p := lawD) lk rfl
  subst e
  refine fn_of lk hcd S len fun A outer s H vs Q E hr hsp => ?_
  obtain ⟨t, ht, q⟩ := body _ A outer s H vs Q E TB hr hsp
  exact ⟨t, ht.nox, q⟩
end G48
namespace G48
open PySem PySem.Spec PyProof.Rows L2 Evl
open LamX (CodeO Tabs TabS ExtN TabB)
/-! ### what stands when a lambda is made -/
section
variable {K : PySem.W.Frag} {H H' : Hp} {a l C dx : Addr} {xs ys : List V} {fs : List (Str × V)}
theorem exn_lst (e : ExtN H H') (h : H a = some (.lst xs)) : H' a = some (.lst xs) := e _ _ h fun _ z => by cases z
theorem exn_ins (e : ExtN H H') (h : H a = some (.ins C dx fs)) : H' a = some (.ins C dx fs) := e _ _ h fun _ z => by cases z
theorem exn_t (e : ExtN H H') (h : SqT K H a xs) : SqT K H' a xs := by
  rcases h with (h | ⟨o, h⟩) | h
  · exact .inl (.inl (e _ _ h fun _ z => by cases z))
  · exact .inl (.inr ⟨o, e _ _ h fun _ z => by cases z⟩)
  · exact .inr h
theorem exn_l (e : ExtN H H') (h : SqL K H a xs) : SqL K H' a xs := by
  rcases h with (h | ⟨o, h⟩) | h
  · exact .inl (.inl (e _ _ h fun _ z => by cases z))
  · exact .inl (.inr ⟨o, e _ _ h fun _ z => by cases z⟩)
  · exact .inr h
theorem tabs_exb {T : List (Addr × Str)} (e : Exb l H H') (hl : H l = some (.lst ys)) (t : Tabs T H) : Tabs T H' := fun p hp => by
  obtain ⟨ps, h1, h2, h3⟩ := t p hp
  refine ⟨ps, e _ _ (ne_of h1 hl (by intro z; cases z)) h1, h2, fun pos cv hc => ?_⟩
  obtain ⟨c, e1, e2⟩ := h3 pos cv hc
  refine ⟨c, e1, e _ _ (ne_of e2 hl fun z => ?_) e2⟩
  unfold CodeO at z
  cases z
end
/-! ### the table of the law's own code object -/
abbrev lamTs (K : PySem.W.Frag) : List (Addr × Str) := [(lamT K, ("law" ++ ".<locals>.") ++ "<lambda>")]
theorem lamTs_m {K : PySem.W.Frag} : (lamT K, (("law" ++ ".<locals>.") ++ "<lambda>" : Str)) ∈ lamTs K := List.mem_cons_self
theorem lamTs_u {K : PySem.W.Frag} : ∀ p ∈ lamTs K, p.1 = lamT K → p.2 = (("law" ++ ".<locals>.") ++ "<lambda>" : Str) := fun p hp _ => by rw [List.mem_singleton.mp hp]
theorem lamTs_0 {K : PySem.W.Frag} {H : Hp} (h : H (lamT K) = some (.tbl #[])) : Tabs (lamTs K) H := fun p hp => by
  rw [List.mem_singleton.mp hp]
  exact TabS.nil h
/-! ### lambdas that are kept: made, handed on, called -/
/-- the maker: its names, its cells, its text's name -/
structure LamM where
  prog : Program
  w : World
  K : PySem.W.Frag
  mg : Str → Option Value
  base : Heap
  N : List Str
  sc : Scope
  cells : List (Str × Addr)
  qual : Str
abbrev lamM (X : Cx) : LamM := ⟨X.prog, X.w, X.K, X.mg, X.base, X.N, X.env.scope, X.env.cells, X.env.qual ++ "<lambda>"⟩
/-- at f stands a lambda that M made, its body's reading is t -/
def LamTo (M : LamM) (k : Nat) (H : Hp) (f : Addr) (t : XK → TE) : Prop := ∃ l : LamD, LamOk M.prog M.w M.K M.mg M.base M.N M.sc M.cells M.qual k l ∧ l.at_ H f M.qual M.cells ∧ l.t = t
section
variable {M : LamM} {k : Nat} {H H' : Hp} {f l : Addr} {t : XK → TE} {ys : List V}
theorem LamTo.ex (e : Ex H H') (h : LamTo M k H f t) : LamTo M k H' f t := let ⟨d, a, b, c⟩ := h; ⟨d, a, LamAt.ex e b, c⟩
theorem LamTo.exn (e : ExtN H H') (h : LamTo M k H f t) : LamTo M k H' f t := let ⟨d, a, b, c⟩ := h; ⟨d, a, LamAt.exn e b, c⟩
theorem LamTo.exb (e : Exb l H H') (hl : H l = some (.lst ys)) (h : LamTo M k H f t) : LamTo M k H' f t := let ⟨d, a, b, c⟩ := h; ⟨d, a, LamAt.exb e hl b, c⟩
end
def tLamT (M : LamM) (k : Nat) (T : List (Addr × Str)) (t : XK → TE) : TE := fun _ H Q => Tabs T H ∧ ∀ f H1, H f = none → ExtN H H1 → Tabs T H1 → LamTo M k H1 f t → Q (.ref f) H1
section
variable {X : Cx} {T : List (Addr × Str)} {c P : Addr} {params : Arguments} {body : Expr} {scope : Scope} {pos : Pos} {t : XK → TE} {k : Nat}
theorem pe_lamT0 (TB : TabB X.base X.mg c P) (hcode : X.env.code = .ref c) (hm : (P, X.env.qual ++ "<lambda>") ∈ T) (hu : ∀ p ∈ T, p.1 = P → p.2 = X.env.qual ++ "<lambda>")
    (S : LamS X.N X.env.scope scope []) (B : LamB params [] [])
    (hbody : ∀ (A : Around) (outer : List Env) (s : Shared) (H : Hp) (E : XK) (f c' : Addr), Room k (A.deeper (lamE (X.env.qual ++ "<lambda>") scope X.env.cells s.heap.objs.size f c')) → PE (lamX X.prog X.w X.K X.mg X.base X.N (X.env.qual ++ "<lambda>") scope X.env.cells A outer s H E f c') body (t E))
    (hd : defaultsOf params X.env = ([], []) := by rfl) : PE X (.Lambda params body scope pos) (tLamT (lamM X) k T t) := by
  have L := pe_lam0 (pos := pos) (body := body) TB hcode hm hu S.free hd
  refine ⟨fun pins s σ H Q I h => L.run pins s σ H Q I ⟨h.1, fun f H1 n1 e1 T1 l1 => h.2 f H1 n1 e1 T1 ⟨⟨params, body, scope, [], [], t⟩, ⟨S, B, hbody⟩, l1, rfl⟩⟩⟩
theorem pe_lamT1 {y : Str} {d : Int} {dk : Nat} {dp : Pos} (TB : TabB X.base X.mg c P) (hcode : X.env.code = .ref c) (hm : (P, X.env.qual ++ "<lambda>") ∈ T) (hu : ∀ p ∈ T, p.1 = P → p.2 = X.env.qual ++ "<lambda>")
    (S : LamS X.N X.env.scope scope [y]) (B : LamB params [y] [d])
    (hbody : ∀ (A : Around) (outer : List Env) (s : Shared) (H : Hp) (E : XK) (f c' : Addr), Room k (A.deeper (lamE (X.env.qual ++ "<lambda>") scope X.env.cells s.heap.objs.size f c')) → PE (lamX X.prog X.w X.K X.mg X.base X.N (X.env.qual ++ "<lambda>") scope X.env.cells A outer s H E f c') body (t E))
    (hd : params.defaults = [.Constant (.int d) dk dp] := by rfl) (hk : params.kw_defaults = [] := by rfl) : PE X (.Lambda params body scope pos) (tLamT (lamM X) k T t) := by
  have L := pe_lam1 (pos := pos) (body := body) TB hcode hm hu S.free hd hk
  refine ⟨fun pins s σ H Q I h => L.run pins s σ H Q I ⟨h.1, fun f H1 n1 e1 T1 l1 => h.2 f H1 n1 e1 T1 ⟨⟨params, body, scope, [y], [d], t⟩, ⟨S, B, hbody⟩, l1, rfl⟩⟩⟩
theorem lamB1 {params : Arguments} {a : Str} {d : Int} (h : ∀ (q : Str) (body : FuncBody) (scope : Scope) (cl : List (Str × Addr)) (dV doc pm cd ct : Value), ∃ k : Option (Array Value) → Sem (List (Str × Value)),
    bindArgs (PySem.W.kdv_fn "<lambda>" q params body scope cl dV doc pm cd ct) ⟨[], []⟩ = seqItems? dV >>= k ∧ ∀ v, k (some #[v]) = pure [(a, v)]) : LamB params [a] [d] := ⟨(fun e => by cases e), fun d' e => ⟨a, rfl, h⟩⟩
end
/-! ### x(e) and x(), x a name of a comprehension over lambdas of the maker -/
def tToldT (M : LamM) (k : Nat) (ta : TA) (σ0 : L2.St) (TT : (XK → Hp → VK → Prop) → Hp → VK → Prop) : TE := fun σ H Q =>
  ta σ H fun vs H1 => ∃ f t, vs = [.ref f] ∧ LamTo M k H1 f t ∧ TT (fun E H' Q' => t E σ0 H' Q') H1 Q
def tLamC (M : LamM) (k : Nat) (i : Nat) (σ0 : L2.St) : TE := fun σZ H Q => ∃ f t, σZ[i]? = some (some (.ref f)) ∧ LamTo M k H f t ∧ t (fun _ _ _ => False) σ0 H Q
section
variable {X : Cx} {pins : List (Addr × Obj)} {σ : L2.St} {H : Hp} {s : Shared} {scope : Scope} {C : Addr} {cl : List (Str × Addr)} {fp : List Addr}
/-- the block of a comprehension that starts at s sees the maker's cells -/
theorem sees_blk (I : Inv X pins σ H s) (hfp : ∀ b ∈ fp, FpOk X pins H b) : Sees (X.blk s H scope (compEnvC scope cl C X.env) fp) X.N σ X.env.cells X.env.scope := fun pins' s' σZ H' J =>
  (CellsOk.of I).un J.base fun y c e hc => (hfp c hc).2.2.2.2.1 y c e rfl
theorem pe_toldT {Ng : List Str} {x a : Str} {k j : Nat} {TT : (XK → Hp → VK → Prop) → Hp → VK → Prop} {st : Stmt} {ta : TA} {e : Expr} {p pos : Pos} (I : Inv X pins σ H s) (hfp : ∀ b ∈ fp, FpOk X pins H b) (hr : Room j X.A)
    (G : GFun X.K X.mg x st) (Sg : FnScope Ng [a] (defScope st)) (hb : BindL x x st [a]) (hG : GivesL X.prog X.w X.K X.mg X.base Ng x st a (k + 1) TT) (hNg : Ng[0]? = some a) (hva : Vis (defScope st) a) (ha : PA (X.blk s H scope (compEnvC scope cl C X.env) fp) [e] ta) (hk : k + 2 ≤ j := by decide) (hg : Gl (X.blk s H scope (compEnvC scope cl C X.env) fp) x := by rfl)
    (hdb : (x == ("__debug__" : Str)) = false := by decide) (hd : (a == ("__debug__" : Str)) = false := by decide) (hcd : (a == ("__classdict__" : Str)) = false := by decide)
    (hst : starEach [e] (compEnvC scope cl C X.env) = (false, eval e (compEnvC scope cl C X.env)) :: starEach [] (compEnvC scope cl C X.env) := by rfl) (hpl : (backTo pos (starEach [] (compEnvC scope cl C X.env))).any (·.1) = false := by rfl) :
    PE (X.blk s H scope (compEnvC scope cl C X.env) fp) (.Call (.Name x p) [e] [] pos) (tToldT (lamM X) k ta σ TT) := by
  have L := pe_told (Y := X.blk s H scope (compEnvC scope cl C X.env) fp) (N := X.N) (sg := fun _ => σ) (sc := X.env.scope) (cells := X.env.cells) (qual := X.env.qual ++ "<lambda>") (LO := LamOk X.prog X.w X.K X.mg X.base X.N X.env.scope X.env.cells (X.env.qual ++ "<lambda>") k) (p := p) (pos := pos)
    (fun pins' s' σ' H' J => ⟨sees_blk I hfp pins' s' σ' H' J, I.len⟩) (fun l hl => hl) hr G Sg hb hG hNg hva ha hk hg hdb hd hcd hst hpl
  refine ⟨fun pins' s' σ' H' Q J h => L.run pins' s' σ' H' Q J ?_⟩
  have e : (fun (vs : List V) (H1 : Hp) => ∃ f t, vs = [.ref f] ∧ LamTo (lamM X) k H1 f t ∧ TT (fun E H' Q' => t E σ H' Q') H1 Q) = fun vs H1 => ∃ f l, vs = [.ref f] ∧ LamOk X.prog X.w X.K X.mg X.base X.N X.env.scope X.env.cells (X.env.qual ++ "<lambda>") k l ∧ LamD.at_ l H1 f (X.env.qual ++ "<lambda>") X.env.cells ∧ TT (fun E H' Q' => l.t E σ H' Q') H1 Q := by
    funext vs H1
    refine propext ⟨?_, ?_⟩
    · rintro ⟨f, t, e1, ⟨l, a1, a2, rfl⟩, q⟩
      exact ⟨f, l, e1, a1, a2, q⟩
    · rintro ⟨f, l, e1, a1, a2, q⟩
      exact ⟨f, l.t, e1, ⟨l, a1, a2, rfl⟩, q⟩
  show ta σ' H' _
  rw [← e]
  exact h
theorem pe_lamC {a : Str} {i k j : Nat} {p1 p2 : Pos} (I : Inv X pins σ H s) (hfp : ∀ b ∈ fp, FpOk X pins H b) (hr : Room j X.A) (hN : X.N[i]? = some a) (hv : Vis (compEnvC scope cl C X.env).scope a) (hk : k + 1 ≤ j := by decide)
    (hd : (a == ("__debug__" : Str)) = false := by decide) (hcd : (a == ("__classdict__" : Str)) = false := by decide) : PE (X.blk s H scope (compEnvC scope cl C X.env) fp) (.Call (.Name a p1) [] [] p2) (tLamC (lamM X) k i σ) := by
  have L := pe_lamV (Z := X.blk s H scope (compEnvC scope cl C X.env) fp) (E := fun _ _ _ _ => False) (p1 := p1) (p2 := p2) (LO := LamOk X.prog X.w X.K X.mg X.base X.N X.env.scope X.env.cells (X.env.qual ++ "<lambda>") k) (sees_blk I hfp) I.len (fun l hl => hl) (hr.mono hk) (fun σZ pinsZ H s e s' I' c => by
    obtain ⟨_, _, _, _, _, _, _, _, _, _, _, _, z⟩ := c
    exact z.elim) hN hv hd hcd
  refine ⟨fun pins' s' σ' H' Q J h => L.run pins' s' σ' H' Q J ?_⟩
  obtain ⟨f, t, h1, ⟨l, a1, a2, rfl⟩, q⟩ := h
  exact ⟨f, l, h1, a1, a2, q⟩
end
/-! ### a comprehension whose element calls what the maker's cells hold: the start's facts are handed to the element -/
section
variable {X : Cx} {sB : Shared} {HB : Hp} {scope : Scope} {ce : Env} {fp : List Addr}
/-- the block's turns, from where it stands -/
theorem lc_turns {elt tg iter : Expr} {sc2 : Scope} {pos : Pos} {g : TG} {te : TE} {J : It} {it D : Addr} {tn : Nat → Heap → Prop} {vs : List Nat} {σ : L2.St} {H0 : Hp} {s0 : Shared} {R : Result → Shared → Prop} {W : Nat → Nat → Hp → Prop} {Qd : Hp → Prop}
    (hc : X.calm = true) (T : Turn X.prog X.w X.K tg J fp it tn) (I0 : Inv (X.blk sB HB scope ce fp) [] (wipe σ vs) H0 s0) (t0 : tn 0 s0.heap) (n0 : ∀ b ∈ fp, H0 b = none)
    (pg : PG (X.blk sB HB scope ce fp) tg g) (pe : PE (X.blk sB HB scope ce fp) elt te) (w0 : ∃ m, W 0 m H0)
    (turn : ∀ i m H, W i m H → (J.stop i H ∧ Qd H) ∨ (J.go i H ∧ ∃ Nx : Hp → Prop, (∀ H', Nx H' → ∃ m', m' < m ∧ W (i + 1) m' H') ∧ ∀ x H', J.yld i H x H' → g x (wipe σ vs) H' fun σ2 H2 => wipe σ2 vs = wipe σ vs ∧ te σ2 H2 fun y H4 => ∃ acc, H4 D = some (.lst acc) ∧ acc.length < sizeLine ∧ Nx (upd H4 D (.lst (acc ++ [y])))))
    (out : ∀ s' H', Inv (X.blk sB HB scope ce fp) [] (wipe σ vs) H' s' → Qd H' → R (.ok .next) s') :
    codeAny (model X.prog X.w) X.A (.compLoop (.ListComp elt [⟨tg, iter, [], 0⟩] sc2 pos) 0 (.ref it) (.ref D) ce) R s0 := by
  have own : ∀ {σ' : L2.St} {H' : Hp} {s' : Shared}, Inv (X.blk sB HB scope ce fp) [] σ' H' s' → (∀ b ∈ fp, H' b = none) → ∀ b ∈ fp, FpOk (X.blk sB HB scope ce fp) [] H' b := fun J' hn b hb =>
    ⟨hn b hb, (J'.ok.exf b hb).1, J'.ok.exfs b hb, .inl hb, (J'.ok.exf b hb).2, fun p hp => by cases hp⟩
  obtain ⟨m0, w0⟩ := w0
  refine compLoop_any (fun n s' => ∃ i H', Inv (X.blk sB HB scope ce fp) [] (wipe σ vs) H' s' ∧ tn i s'.heap ∧ (∀ b ∈ fp, H' b = none) ∧ W i n H') (fun n s1 hI => ?_) m0 ⟨0, H0, I0, t0, n0, w0⟩
  obtain ⟨i, H1, I1, t1, n1, w1⟩ := hI
  rcases turn i n H1 w1 with ⟨e, q⟩ | ⟨e, Nx, hNx, step⟩
  · refine thnF (T.done (X.blk sB HB scope ce fp) rfl rfl rfl hc i [] s1 _ H1 _ I1 (own I1 n1) t1 e) fun r s2 hr => ?_
    rw [hr.1]
    exact out s2 H1 hr.2 q
  · refine thnF (T.item (X.blk sB HB scope ce fp) rfl rfl rfl hc i [] s1 _ H1 _ I1 (own I1 n1) t1 e) fun r s2 hr => ?_
    obtain ⟨u, rfl, hr⟩ := hr
    refine thnF hr fun _ s3 h3 => ?_
    obtain ⟨x, H3, I3, r3, y3, t3, n3⟩ := h3
    refine thnF (pg.run _ s3 _ H3 x u _ (I3.pinned (own I3 n3) (T.obj _ _ t3)) r3 (step x H3 y3)) fun _ s4 h4 => ?_
    obtain ⟨σ4, H4, I4, e4, q4⟩ := h4
    refine wpAny_tests_nil ?_
    show wpAny _ _ _ _ _ _
    refine thnF (pe.run _ s4 σ4 H4 _ I4 q4) fun z s5 h5 => ?_
    obtain ⟨y, H5, I5, r5, acc, hD, hz, nx⟩ := h5
    refine app_ok (X := X.blk sB HB scope ce fp) I5 hD hz r5 fun s6 I6 => ?_
    obtain ⟨m', hm, w'⟩ := hNx _ nx
    have kept : ∀ b ∈ fp, ∀ o, s3.heap.get? b = some o → s6.heap.get? b = some o ∧ (upd H5 D (.lst (acc ++ [y]))) b = none := fun b hb o eo => by
      have z := I6.pin (b, o) (List.mem_append_right _ (List.mem_append_right _ (mem_pinsAt hb eo)))
      exact ⟨z.1, z.2.1⟩
    refine ⟨m', hm, i + 1, _, (I6.unpinned (pins := [])).weak (by rw [← e4, wipe_length]) (fun j v ej => ?_), T.keep _ _ _ t3 fun b hb o eo => (kept b hb o eo).1, fun b hb => ?_, w'⟩
    · rw [← e4] at ej
      exact (wipe_some ej).1
    · obtain ⟨o, eo, _⟩ := T.obj _ _ t3 b hb
      exact (kept b hb o eo).2
def tLcS (wi : TI) (i : Nat) (te : L2.St → TE) : TE := fun σ H Q => tLc wi (gName i) tYes (te σ) [i] σ H Q
theorem lcS_run {pins : List (Addr × Obj)} {s : Shared} {σ : L2.St} {H : Hp} {Q : VK} {elt iter : Expr} {y : Str} {py pos pos' : Pos} {i : Nat} {wi : TI} {te : L2.St → TE} {use : Option (Value → Sem Unit)} {Qf : Value → Shared → Prop} (hc : X.calm = true) (hN : X.N.Nodup) (I : Inv X pins σ H s) (hi : PI X (.Name y py) iter wi) (ok : BlkOk X.N X.env.scope scope [(y, i)])
    (hg : ∀ (s : Shared) (H : Hp) (C : Addr) (cl : List (Str × Addr)) (fp : List Addr), PG (X.blk s H scope (compEnvC scope cl C X.env) fp) (.Name y py) (gName i))
    (he : ∀ (pins : List (Addr × Obj)) (s : Shared) (σ : L2.St) (H : Hp), Inv X pins σ H s → ∀ (C : Addr) (cl : List (Str × Addr)) (fp : List Addr), (∀ b ∈ fp, FpOk X pins H b) → PE (X.blk s H scope (compEnvC scope cl C X.env) fp) elt (te σ))
    (hs : ∀ x, foldedSetIterable iter X.env x = pure x) (h : tLcS wi i te σ H Q)
    (fin : ∀ D C s' m H', Inv X pins σ H' s' → Q (.ref D) H' → s'.heap.Ns C m → FpOk X pins H' C → compPost (model X.prog X.w) X.A X.xe use Qf (.ref D) C (.ok .next) s') :
    wpAny (model X.prog X.w) X.A (comprehension (.ListComp elt [⟨.Name y py, iter, [], 0⟩] scope pos) scope X.env pos' (newList []) false (eval iter X.env) use) Qf X.xe s := by
  have free : ∀ z ∈ scope.names, z.2 = .free → ∃ c, X.env.cells.lookup z.1 = some c := fun z hz e => (ok.free z hz e).elim (fun k => I.ok.has _ (.inl k)) fun k => I.ok.has _ (.inr k)
  refine wpAny_comprehension_free (use := use) rfl hs (closure_ok free) ok.kind (fun z hz e => by rw [ok.uniq z hz, e]) (thn (hi.run pins s σ H _ I h) fun v1 s1 h1 => thn h1 fun v2 s2 h2 => ?_)
  obtain ⟨it, fp, tn, J, H2, rfl, I2, T, t2, f2, q⟩ := h2
  refine wpAny_newObj_type (newEnv_comp ?_) (Nat.zero_le _)
  have nD : H2 s2.heap.objs.size = none := I2.hok.fresh (Nat.le_refl _)
  obtain ⟨W, w0, turn⟩ := q _ nD
  have grow : ∀ b o, s2.heap.get? b = some o → (s2.heap.push { cls := .type "list", data := .seq ([] : List Value).toArray }).get? b = some o := fun b o e => Heap.get?_push_of_some _ e
  obtain ⟨s3, e3⟩ : ∃ s3 : Shared, s3 = { s2 with heap := s2.heap.push { cls := .type "list", data := .seq ([] : List Value).toArray } } := ⟨_, rfl⟩
  have I3 : Inv X pins σ (upd H2 s2.heap.objs.size (.lst [])) s3 := by
    rw [e3]
    exact I2.laid (t' := s2.toks) grow (Nat.le_refl _) ⟨Nat.zero_le _, [], 0, .nil, Heap.get?_push_size _ rfl⟩
  have lt : ∀ b ∈ fp, b < s2.heap.objs.size := fun b hb => let ⟨o, e, _⟩ := T.obj _ _ t2 b hb; Heap.lt_size e
  have f3 : ∀ b ∈ fp, FpOk X pins (upd H2 s2.heap.objs.size (.lst [])) b := fun b hb => by
    refine ⟨?_, (f2 b hb).2⟩
    rw [upd_ne (Nat.ne_of_lt (lt b hb))]
    exact (f2 b hb).1
  have l3 : ∀ b ∈ fp, FpOk X pins (upd H2 s2.heap.objs.size (.lst [])) b ∧ b < s3.heap.objs.size := fun b hb => ⟨f3 b hb, by rw [e3, Heap.size_push]; exact Nat.lt_succ_of_lt (lt b hb)⟩
  have I4 := block_start I3 ok hN l3
  have pg := hg s3 (upd H2 s2.heap.objs.size (.lst [])) s3.heap.objs.size (cellsFrom (s3.heap.objs.size + 1) scope.names (cloFrom X.env.cells scope.names [])) fp
  have pe := he pins s3 σ _ I3 s3.heap.objs.size (cellsFrom (s3.heap.objs.size + 1) scope.names (cloFrom X.env.cells scope.names [])) fp f3
  have t4 : tn 0 (pushCells (s3.heap.push { cls := .type "dict", data := .dict #[] }) scope.names) := T.keep _ _ _ t2 fun b _ o e => pushCells_keeps _ _ _ _ (Heap.get?_push_of_some _ (by rw [e3]; exact grow b o e))
  have L := lc_turns (iter := iter) (sc2 := scope) (pos := pos) (R := compPost (model X.prog X.w) X.A X.xe use Qf (.ref s2.heap.objs.size) s3.heap.objs.size) hc T I4 t4 (fun b hb => (f3 b hb).1) pg pe w0 (fun i m H' w => (turn i m H' w).imp id fun z => z) (fun s' H' J' hQ => ?_)
  · subst e3
    exact codeAny_compStart_list L (T.self X.A 0 _ _ _ t4 L)
  · have n5 : H' s3.heap.objs.size = none := J'.free
    obtain ⟨m5, hn, _⟩ := J'.loc
    have I5 : Inv X pins σ H' s' := I3.call' (ch := fp) J'.os J'.base J'.hok J'.bare fun b hb => ⟨(f3 b hb).2.2.2.1, (f3 b hb).2.1, (f3 b hb).2.2.2.2.1, (f3 b hb).2.2.2.2.2⟩
    exact fin _ _ s' m5 H' I5 hQ hn (I3.fpOk (Nat.le_refl _) n5)
theorem pe_lcS {elt iter : Expr} {y : Str} {py pos : Pos} {i : Nat} {wi : TI} {te : L2.St → TE} (hc : X.calm = true) (hN : X.N.Nodup) (hi : PI X (.Name y py) iter wi) (ok : BlkOk X.N X.env.scope scope [(y, i)])
    (hg : ∀ (s : Shared) (H : Hp) (C : Addr) (cl : List (Str × Addr)) (fp : List Addr), PG (X.blk s H scope (compEnvC scope cl C X.env) fp) (.Name y py) (gName i))
    (he : ∀ (pins : List (Addr × Obj)) (s : Shared) (σ : L2.St) (H : Hp), Inv X pins σ H s → ∀ (C : Addr) (cl : List (Str × Addr)) (fp : List Addr), (∀ b ∈ fp, FpOk X pins H b) → PE (X.blk s H scope (compEnvC scope cl C X.env) fp) elt (te σ))
    (hs : ∀ x, foldedSetIterable iter X.env x = pure x := by intro _; rfl) : PE X (.ListComp elt [⟨.Name y py, iter, [], 0⟩] scope pos) (tLcS wi i te) := by
  refine ⟨fun pins s σ H Q I h => ?_⟩
  rw [eval_ListComp]
  refine lcS_run (Qf := EP X pins σ Q) hc hN I hi ok hg he hs h fun D C s' m H' I5 hQ hn f => ⟨m, hn, fun h'' sb => ?_⟩
  obtain ⟨a0, a1, a2, a3, a4, a5⟩ := f
  exact ⟨.ref D, H', I5.turned (t' := s'.toks) (fun b o hb e => (sb.2 b hb).trans e) a0 a1 a3 a4 a5, rfl, hQ⟩
/-- z = [..], z a local -/
theorem ps_setLcS {j : Nat} {z : Str} {pz spos : Pos} {elt iter : Expr} {y : Str} {py pos : Pos} {i : Nat} {wi : TI} {te : L2.St → TE} (hz : X.N[j]? = some z) (hzl : X.env.scope.names.lookup z = some .local)
    (hsw : swapsWith (.ListComp elt [⟨.Name y py, iter, [], 0⟩] scope pos) (some (.Name z pz)) spos.line X.env = pure true) (hc : X.calm = true) (hN : X.N.Nodup) (hi : PI X (.Name y py) iter wi) (ok : BlkOk X.N X.env.scope scope [(y, i)])
    (hg : ∀ (s : Shared) (H : Hp) (C : Addr) (cl : List (Str × Addr)) (fp : List Addr), PG (X.blk s H scope (compEnvC scope cl C X.env) fp) (.Name y py) (gName i))
    (he : ∀ (pins : List (Addr × Obj)) (s : Shared) (σ : L2.St) (H : Hp), Inv X pins σ H s → ∀ (C : Addr) (cl : List (Str × Addr)) (fp : List Addr), (∀ b ∈ fp, FpOk X pins H b) → PE (X.blk s H scope (compEnvC scope cl C X.env) fp) elt (te σ))
    (hs : ∀ x, foldedSetIterable iter X.env x = pure x := by intro _; rfl) : PS X (.Assign [.Name z pz] (.ListComp elt [⟨.Name y py, iter, [], 0⟩] scope pos) spos) (tAsg (tLcS wi i te) (gName j)) := by
  refine ⟨fun pins s σ H D I h => ?_⟩
  rw [exec_Assign_Name_used _ _ _ _ hsw]
  have h : tLcS wi i te σ H fun x H1 => gName j x σ H1 D.nx := h
  have run := lcS_run (pos' := firstIterPos [⟨.Name y py, iter, [], 0⟩] pos) (pos := pos) (use := some (assign (.Name z pz) X.env)) (Qf := fun _ s' => SP X pins D .next s') hc hN I hi ok hg he hs h fun L C s' m H' I' q hn f => by
    obtain ⟨a0, a1, a2, a3, a4, a5⟩ := f
    refine wpAny_assign_Name (store_ok2 (v := V.ref L) I' hN hz (.inl hzl) rfl (fun s2 I2 ⟨c, sb, hcc⟩ => ?_) (.inr hzl))
    have apart : C ≠ c := by
      rcases hcc with w | w
      · rw [w]
        exact a1
      · exact fun e => a4 z c w e.symm
    exact ⟨m, hn.sameBut sb apart, fun h3 sb3 => ⟨_, H', I2.turned (t' := s2.toks) (fun b o hb e => (sb3.2 b hb).trans e) a0 a1 a3 a4 a5, q⟩⟩
  exact wpAny_bind (wpAny_standAt (wpAny_bind (wpAny_bind (thn run fun _ s' hq => wpAny_pure (wpAny_pure hq)))))
theorem g_lcS {wi : TI} {i : Nat} {te : L2.St → TE} {σ : L2.St} {H : Hp} {Q : VK} (q : tLc wi (gName i) tYes (te σ) [i] σ H Q) : tLcS wi i te σ H Q := q
end
theorem cr_maxTK {X : Cx} (K : PySem.W.Frag) (hc : X.calm = true) (hu : X.A.units + 64 < cLine) (h : X.K = K := by rfl) : CallR X (.builtin "max") (rMaxT K) := by subst h; exact cr_maxT hc hu
theorem cr_sumTK {X : Cx} (K : PySem.W.Frag) (hc : X.calm = true) (h : X.K = K := by rfl) : CallR X (.builtin "sum") (rSumT K) := by subst h; exact cr_sumT hc
theorem op_eqDK {X : Cx} (K : PySem.W.Frag) (hu : X.A.units + 64 < cLine) (h : X.K = K := by rfl) : OpR X (compareOp .Eq) (rEqD K) := by subst h; exact op_eqD hu
theorem op_neDK {X : Cx} (K : PySem.W.Frag) (hu : X.A.units + 64 < cLine) (h : X.K = K := by rfl) : OpR X (compareOp .NotEq) (rNeD K) := by subst h; exact op_neD hu
theorem c_list_ofK {X : Cx} (K : PySem.W.Frag) (h : X.K = K := by rfl) : CallR X (.type "list") (rListOf K) := by subst h; exact c_list_of
theorem c_tuple_ofK {X : Cx} (K : PySem.W.Frag) (h : X.K = K := by rfl) : CallR X (.type "tuple") (rTupD K) := by subst h; exact c_tuple_of
theorem op_catAK {X : Cx} (K : PySem.W.Frag) (h : X.K = K := by rfl) : OpR X (binaryOp .Add) (rCatA K) := by subst h; exact op_catA
theorem sl_tupAK {X : Cx} (K : PySem.W.Frag) (h : X.K = K := by rfl) : SlR X (rSlA K) := by subst h; exact sl_tupA
end G48
/-! errors of the text that have an own __init__: made, raised, told with their fields -/
namespace G48
open PySem PySem.Spec PyProof.Rows L2 Evl
/-! ### what the head tells of such a class -/
def oexB (K : PySem.W.Frag) (C : Addr) : Bool :=
  match K.lookup C with
  | some ⟨.type "type", _, .cls cd, sl⟩ => (match cd.mro, sl.toList with
    | .ref Cm :: below, [_, _, _, _, some (.builtin nid), _] => decide (Cm = C) && (decide (nid = "ValueError.__new__") && (!cd.hasDel && (cd.hasDict && HandSPX.refsVE below)))
    | _, _ => false)
  | _ => false
theorem oexB_ok {K : PySem.W.Frag} {C : Addr} (h : oexB K C = true) :
    ∃ nm q N bs bm sn sub ab col dd k0 k1 k2 k3 k5, K.lookup C = some (excClassObj nm q C N bs bm true sn sub ab col dd k0 k1 k2 k3 k5 "ValueError.__new__") ∧ HandSPX.refsVE bm = true := by
  unfold oexB at h
  split at h
  · rename_i dd cd sl hl
    split at h
    · rename_i Cm below z0 z1 z2 z3 nid z5 em es
      obtain ⟨a1, h⟩ := He.ba h
      obtain ⟨a2, h⟩ := He.ba h
      obtain ⟨a3, h⟩ := He.ba h
      obtain ⟨a4, a5⟩ := He.ba h
      have a1 := of_decide_eq_true a1
      have a2 := of_decide_eq_true a2
      obtain ⟨cn, cb, cm, cs, cq, ch, c7, c8, c9, c10, c11⟩ := cd
      have em : cm = _ := em
      have a3 : (!c11) = true := a3
      have a4 : ch = true := a4
      obtain ⟨sl⟩ := sl
      have es : sl = _ := es
      subst em es a1 a2 a4
      cases c11 with
      | true => cases a3
      | false => exact ⟨_, _, _, _, _, _, _, _, _, _, _, _, _, _, _, hl, a5⟩
    · cases h
  · cases h
/-- a class of errors with fields: j its place among the names -/
structure ErrC (K : PySem.W.Frag) (D : Addr) (j : Nat) (fs : List Str) : Prop where
  ox : OexC K D
  c : ExcC K D
  is_ : ∀ i, i < 7 → PySem.W.kitOne K (.ref D) (.ref (He.ga K (exNm i))) = some (decide (i = j))
  ve : PySem.W.kitOne K (.ref D) (.type "ValueError") = some true
  re : PySem.W.exmOne K (.ref D) (.ref (He.ga K "ReadingError")) = some true
  no : ∀ f ∈ fs, PySem.W.findIn K (.ref D) f = some none
def errB (K : PySem.W.Frag) (D : Addr) (j : Nat) (fs : List Str) : Bool := oexB K D && (He.eqO (PySem.W.findIn K (.ref D) "__setattr__") (some (some (.builtin "object.__setattr__"))) && (PySem.W.keepIn K (.ref D) && (decide (PySem.W.typeIn K (.ref D) = some (.type "type")) && (excCB K D &&
  ((List.range 7).all (fun i => decide (PySem.W.kitOne K (.ref D) (.ref (He.ga K (exNm i))) = some (decide (i = j)))) && (decide (PySem.W.kitOne K (.ref D) (.type "ValueError") = some true) && (decide (PySem.W.exmOne K (.ref D) (.ref (He.ga K "ReadingError")) = some true) && fs.all fun f => He.eqO (PySem.W.findIn K (.ref D) f) (some none))))))))
theorem err_ok {K : PySem.W.Frag} {D : Addr} {j : Nat} {fs : List Str} (h : errB K D j fs = true) : ErrC K D j fs := by
  obtain ⟨b1, h⟩ := He.ba h
  obtain ⟨b2, h⟩ := He.ba h
  obtain ⟨b3, h⟩ := He.ba h
  obtain ⟨b4, h⟩ := He.ba h
  obtain ⟨b5, h⟩ := He.ba h
  obtain ⟨b6, h⟩ := He.ba h
  obtain ⟨b7, h⟩ := He.ba h
  obtain ⟨b8, b9⟩ := He.ba h
  have c := excC_ok b5
  exact ⟨⟨oexB_ok b1, He.eqO_ok b2, c.hs, of_decide_eq_true b4, b3⟩, c, fun i hi => of_decide_eq_true (List.all_eq_true.mp b6 i (List.mem_range.mpr hi)), of_decide_eq_true b7, of_decide_eq_true b8, fun f hf => He.eqO_ok (List.all_eq_true.mp b9 f hf)⟩
/-! ### an own __init__ that keeps a promise -/
structure Ef (P : Program) (w : World) (K : PySem.W.Frag) (mg : Str → Option Value) (base : Heap) (x : Str) (C : Addr) (k : Nat) (ps : List Str) (sp : Sp) : Prop where
  ex : ∃ f fd, Meth K C "__init__" f ∧ mg x = some (.ref C) ∧ Binds K fd ps [] ∧ FnOk P w K mg base (L2.CX P w) k f fd ps sp
section
variable {P : Program} {w : World} {K : PySem.W.Frag} {mg : Str → Option Value} {base : Heap}
theorem Ef.of {C : Addr} {x q : Str} {st : Stmt} {N ps : List Str} {k : Nat} {sp : Sp} (G : CFun K C "__init__" q st) (hm : mg x = some (.ref C)) (S : FnScope N ps (defScope st)) (hb : BindL q "__init__" st ps)
    (len : ∀ vs H Q E, sp vs H Q E → vs.length = ps.length) (body : ∀ f, Body P w K mg base q N st f k sp) : Ef P w K mg base x C (k + 1) ps sp := by
  obtain ⟨f, fd, hg, F⟩ := G.ex
  exact ⟨f, fd, hg, hm, F.binds hb, F.okX S len (body f)⟩
end
section
variable {X : Cx} {k j : Nat} {x : Str} {ps : List Str} {sp : Sp} {p pos pos' apos : Pos} {e : Expr} {es : List Expr} {ta : TA} {te : TE} {C : Addr} {W : WX}
/-- raise C(e, ..) -/
theorem psr_err (T : OexC X.K C) (D : Ef X.prog X.w X.K X.mg X.base x C k ps sp) (hr : Room j X.A) (ha : PA X (e :: es) ta) (hc : X.calm = true) (tk : Takes X W) (hk : k + 1 ≤ j := by decide) (hg : Gl X x := by rfl) (hdb : (x == ("__debug__" : Str)) = false := by decide)
    (he : starEach (e :: es) X.env = (false, eval e X.env) :: starEach es X.env := by rfl) (hpl : (backTo pos (starEach es X.env)).any (·.1) = false := by rfl) :
    PS X (.Raise (some (.Call (.Name x p) (e :: es) [] pos)) none pos') (fun _ σ H => tMkO C sp [] ta σ H fun cls d H' => W cls d σ H') := by
  obtain ⟨f, fd, M, hm, b, F⟩ := D.ex
  exact ps_raise hc tk (pmk_oex T M.at_ (beq_iff_eq.mp M.fn) F (hr.mono hk) b .nil (passL (X := X)) hg hm ha hdb he hpl)
/-- ReadingError.__init__(self, e), ReadingError an own class over ValueError -/
structure RinC (K : PySem.W.Frag) (C : Addr) : Prop where
  ga : PySem.W.specialIn K (.ref C) "__getattribute__" = some (some (.builtin "type.__getattribute__"))
  ty : ∃ mc, PySem.W.typeIn K (.ref C) = some mc ∧ PySem.W.readsIn K C mc = true ∧ PySem.W.findCls K (.ref C) mc "__init__" = some (.val (.builtin "ValueError.__init__"))
def rinB (K : PySem.W.Frag) (C : Addr) : Bool := He.eqO (PySem.W.specialIn K (.ref C) "__getattribute__") (some (some (.builtin "type.__getattribute__"))) && (match PySem.W.typeIn K (.ref C) with
  | some mc => PySem.W.readsIn K C mc && (match PySem.W.findCls K (.ref C) mc "__init__" with
    | some (.val (.builtin n)) => decide (n = "ValueError.__init__")
    | _ => false)
  | none => false)
theorem rin_ok {K : PySem.W.Frag} {C : Addr} (h : rinB K C = true) : RinC K C := by
  obtain ⟨b1, h⟩ := He.ba h
  refine ⟨He.eqO_ok b1, ?_⟩
  split at h
  · rename_i mc hm
    obtain ⟨b2, h⟩ := He.ba h
    refine ⟨mc, hm, b2, ?_⟩
    split at h
    · rename_i n hn
      rw [hn, of_decide_eq_true h]
    · cases h
  · cases h
theorem pe_rinit {CR : Addr} {y : Str} {p1 p2 : Pos} {pl : Sem Bool} (RN : RinC X.K CR) (gR : X.mg y = some (.ref CR)) (ha : PA X (e :: es) ta) (hg : Gl X y := by rfl) (hdb : (y == ("__debug__" : Str)) = false := by decide)
    (hc : eval (.Call (.Attribute (.Name y p1) "__init__" p2) (e :: es) [] pos) X.env = (do
      let ov ← eval (.Name y p1) X.env
      standAt p2.atName
      let (f, first) ← holding [ov] (getMethod ov "__init__" pl)
      callWith pos f first (backTo pos (starEach (e :: es) X.env)) (backToKw pos (keywordEach [] X.env))) := by rfl)
    (he : starEach (e :: es) X.env = (false, eval e X.env) :: starEach es X.env := by rfl) (hpl : (backTo pos (starEach es X.env)).any (·.1) = false := by rfl) :
    PE X (.Call (.Attribute (.Name y p1) "__init__" p2) (e :: es) [] pos) (tVeI X.K ta) := by
  obtain ⟨mc, hmc, hrd, hfc⟩ := RN.ty
  refine ⟨fun pins s σ H Q I hq => ?_⟩
  refine PySem.W.methodCall_KW (ld_glob I hg gR ?_ hdb) hc
  refine PySem.W.method_cls I.kIn RN.ga (PySem.W.cls_value I.kIn hrd hfc rfl ?_)
  show wpAny _ _ (callWith pos (.builtin "ValueError.__init__") [] (backTo pos (starEach (e :: es) X.env)) []) _ _ _
  refine PyProof.Rows.callWith_method1 (thn (ha.run pos pins _ σ H _ (I.tok _) hq) fun ws s' got => ?_) he hpl
  obtain ⟨vs, G, J, rs, a, C, ys, rfl, hlen, T, ex, q⟩ := got
  cases rs with
  | @cons _ w0 _ wr r0 r1 =>
    cases r0
    exact oinit_ok T J ex (by rw [← Paired.length r1, sizeLine_eq]; omega) fun s'' L => ⟨.non, G, L, rfl, q⟩
end
/-! ### such an error that a suite holds -/
section
variable {X : Cx} {a : Addr} {oe : Obj} {pn : List (Addr × Obj)} {cls : Value} {d : Option Addr} {body : List Stmt}
theorem pss_err {t : Addr → TS} (hz : Zc cls d oe) (h : ∀ Dc, Zc (.ref Dc) d oe → ExcC X.K Dc → PSs (X.suite a ((a, oe) :: pn)) body (t Dc)) :
    PSs (X.suite a ((a, oe) :: pn)) body (fun D σ H => ∃ Dc, cls = .ref Dc ∧ ExcC X.K Dc ∧ t Dc D σ H) := by
  refine ⟨fun pins s σ H D I hh => ?_⟩
  obtain ⟨Dc, e1, hC, q⟩ := hh
  subst e1
  exact (h Dc hz hC).run pins s σ H D I q
/-- the dict of the error: none, or one with fields -/
def DicA (H : Hp) (d : Option Addr) : Prop := d = none ∨ ∃ dd fs, d = some dd ∧ H dd = some (.xd fs)
theorem excAt {pins : List (Addr × Obj)} {σ : L2.St} {H : Hp} {s : Shared} {Dc : Addr} (I : Inv (X.suite a ((a, oe) :: pn)) pins σ H s) (hz : Zc (.ref Dc) d oe) (hf : ∃ vs, oe.data = .fields vs) (hd : DicA H d) :
    ∃ od, PySem.W.InstAt s.heap a oe Dc od ∧ ∀ dd fs, d = some dd → H dd = some (.xd fs) → ∃ mA o, s.heap.Ns1 dd mA ∧ (∀ f, RelO (fs.lookup f) (mA f)) ∧ od = some o ∧ s.heap.get? dd = some o := by
  obtain ⟨here, _⟩ := I.pin (a, oe) (List.mem_append_left _ List.mem_cons_self)
  obtain ⟨vs, hv⟩ := hf
  have hnc : PySem.W.notCls oe = true := by
    unfold PySem.W.notCls
    rw [hv]
  rcases hd with rfl | ⟨dd, fs, rfl, hx⟩
  · exact ⟨none, ⟨here, hz.1, hnc, by rw [hz.2]; trivial⟩, fun _ _ z => by cases z⟩
  · obtain ⟨mA, hns, rel⟩ : ∃ mA, s.heap.Ns1 dd mA ∧ ∀ f, RelO (fs.lookup f) (mA f) := I.hok dd _ hx
    obtain ⟨o, ho, _⟩ := lookIn_ns hns
    refine ⟨some o, ⟨here, hz.1, hnc, by rw [hz.2]; exact ho⟩, fun dd' fs' e1 e2 => ?_⟩
    cases e1
    rw [hx] at e2
    cases e2
    exact ⟨mA, o, hns, rel, rfl, ho⟩
/-- isinstance(e, c) -/
def rIsX (K : PySem.W.Frag) (Dc : Addr) (d : Option Addr) (a : Addr) : List V → Hp → VK → Prop := fun xs H Q => DicA H d ∧ rIsE K Dc a xs H Q
theorem call_isX {Dc : Addr} (C : ExcC X.K Dc) (hz : Zc (.ref Dc) d oe) (hf : ∃ vs, oe.data = .fields vs) : CallR (X.suite a ((a, oe) :: pn)) (.builtin "isinstance") (rIsX X.K Dc d a) := by
  intro pins s σ H xs us Q I r h
  obtain ⟨hd, c, cv, b, rfl, hcv, hk, q⟩ := h
  obtain ⟨od, J, _⟩ := excAt I hz hf hd
  cases r with
  | cons rx rr =>
    cases rr with
    | cons rt rr =>
      cases rr
      cases rx
      obtain rfl := hcv _ rt
      have hcl : (PySem.W.clsIn X.K Dc).isSome = true := by
        obtain ⟨cd, z, _⟩ := PySem.W.any_some C.hd
        rw [z]
        rfl
      exact PySem.W.kia_one (PySem.W.kitx_exc hcl C.hg C.hk C.hs C.ha C.hn C.ht C.hm) I.kIn J hk (fun z => nomatch z) fun tk => ⟨.bl b, H, I.kept (t' := tk) fun _ _ z => z, rfl, q⟩
/-- e.f -/
def tErrF (K : PySem.W.Frag) (Dc : Addr) (a : Addr) (d : Option Addr) (f : Str) (te : TE) : TE := fun σ H Q => te σ H fun x H1 => x = .ref a ∧ PySem.W.findIn K (.ref Dc) f = some none ∧ ∃ dd fs v, d = some dd ∧ H1 dd = some (.xd fs) ∧ fs.lookup f = some v ∧ Q v H1
theorem pe_errF {Dc : Addr} {e : Expr} {te : TE} {pos : Pos} {f : Str} (C : ExcC X.K Dc) (hz : Zc (.ref Dc) d oe) (hf : ∃ vs, oe.data = .fields vs) (he : PE (X.suite a ((a, oe) :: pn)) e te) (hb : attributeBase e f X.env (eval e X.env) = eval e X.env := by rfl) :
    PE (X.suite a ((a, oe) :: pn)) (.Attribute e f pos) (tErrF X.K Dc a d f te) := by
  refine ⟨fun pins s σ H Q I hq => ?_⟩
  refine attr_of hb (thn (he.run pins s σ H _ I hq) fun u s' got => ?_)
  obtain ⟨x, G, L, rx, rfl, hno, dd, fs, v, rfl, hx, hl, q⟩ := got
  cases rx
  obtain ⟨od, J, more⟩ := excAt L hz hf (.inr ⟨dd, fs, rfl, hx⟩)
  obtain ⟨mA, o, hns, rel, rfl, ho⟩ := more dd fs rfl hx
  obtain ⟨o', ho', hlk⟩ := lookIn_ns hns
  rw [ho] at ho'
  obtain rfl := Option.some.inj ho'
  obtain ⟨w, hw, rw_⟩ := RelO.some_of (v := v) (o := mA f) (by rw [← hl]; exact rel f)
  exact HandSPX.exc_get L.kIn J C.hg C.hk C.hs (PySem.W.findObj_own C.hd hno rfl (by rw [hlk, hw])) (handed_of rw_) ⟨v, G, L.tok _, rw_, q⟩
end
end G48
/-! match of a sequence of two names, a guard, then anything: values of any shape -/
namespace G48
open PySem PySem.Spec PyProof.Rows L2 Evl
section
variable {prog : Program} {w : World} {A : Around} {E : Value → Shared → Prop} {s : Shared}
theorem draw2L {it l : Addr} {u1 u2 : Value} {Q : List Value → Shared → Prop} (hne : l ≠ it) (hit : s.heap.IsListIter it l 0) (hl : s.heap.IsList l [u1, u2].toArray)
    (hQ : ∀ h', h'.IsListIter it l 2 → Heap.SameBut it s.heap h' → Q [u1, u2] { s with heap := h' }) : wpAny (model prog w) A (draw (.ref it) 2) Q E s := by
  show wpAny _ _ (pyNext (.ref it) >>= _) Q E s
  refine wpAny_bind (wpAny_pyNext_list_item hit hl (x := u1) rfl fun g1 i1 b1 => ?_)
  refine wpAny_bind (wpAny_holding ?_)
  show wpAny _ _ (pyNext (.ref it) >>= _) _ E _
  refine wpAny_bind (wpAny_pyNext_list_item (i := 1) i1 (hl.extBut b1.extBut hne) (x := u2) rfl fun g2 i2 b2 => ?_)
  refine wpAny_bind (wpAny_holding (wpAny_pure (wpAny_pure (wpAny_pure ?_))))
  exact hQ g2 i2 (b1.trans b2)
theorem unpack2L {a : Addr} {u1 u2 : Value} {Q : List Value → Shared → Prop} (hh : A.handled = none) (hl : s.heap.IsList a [u1, u2].toArray)
    (h : ∀ h', Heap.ExtBut s.heap.objs.size s.heap h' → Q [u1, u2] { s with heap := h' }) : wpAny (model prog w) A (unpackItems (.ref a) 2 none) Q E s := by
  have hlt : a ≠ s.heap.objs.size := by obtain ⟨o, ho, _⟩ := hl; exact Nat.ne_of_lt (Heap.lt_size ho)
  unfold unpackItems
  refine wpAny_bind ?_
  unfold notIterableAtAll
  refine wpAny_bind (wpAny_specialOf hl.typeIs slot_list_iter.lookup (wpAny_pure ?_))
  simp only [Bool.false_eq_true, if_false]
  refine wpAny_bind (wpAny_holding (wpAny_pyIter_list hl ?_))
  refine wpAny_bind (wpAny_holding (draw2L hlt ⟨_, Heap.get?_push_size _ rfl, rfl, rfl⟩ (hl.push _) fun g i b => ?_))
  rw [if_neg (by simp)]
  refine wpAny_bind (wpAny_holding (wpAny_pyNext_list_end hh i ((hl.push _).extBut b.extBut hlt) (by simp) fun g2 e2 => ?_))
  simp only [Option.isSome_none, Bool.false_eq_true, if_false]
  exact wpAny_pure (h g2 fun c o hc e => e2 c o hc (b.extBut c o hc (Heap.get?_push_of_some _ e)))
end
/-- match e: case [x, y] if g: .. case _: .. -/
def sM2X (K : PySem.W.Frag) (te : TE) (i j : Nat) (tt : TT) (t1 t2 : TS) : TS := fun D σ H => te σ H fun x H1 =>
  (∃ a v w, x = .ref a ∧ (SqT K H1 a [v, w] ∨ SqL K H1 a [v, w]) ∧ tt ((σ.set i (some v)).set j (some w)) H1 (kIfS t1 t2 D ((σ.set i (some v)).set j (some w)))) ∨
  ((x = .non ∨ ∃ a xs, x = .ref a ∧ SqT K H1 a xs ∧ xs.length ≠ 2 ∧ xs.length ≤ 1000) ∧ t2 D σ H1)
theorem ps_match2X {X : Cx} {i j : Nat} {x1 x2 : Str} {e g : Expr} {b1 b2 : List Stmt} {te : TE} {tt : TT} {t1 t2 : TS} {p1 p2 p3 p4 pos : Pos} (hc : X.calm = true) (hN : X.N.Nodup) (hi : X.N[i]? = some x1) (hj : X.N[j]? = some x2) (hx : Loc X.env.scope x1) (hy : Loc X.env.scope x2)
    (he : PE X e te) (hg : PT X g tt) (h1 : PSs X b1 t1) (h2 : PSs X b2 t2) (hf1 : X.fn x1 = true ∨ X.env.scope.names.lookup x1 = some .local := by first | exact .inl rfl | exact .inr rfl) (hf2 : X.fn x2 = true ∨ X.env.scope.names.lookup x2 = some .local := by first | exact .inl rfl | exact .inr rfl) :
    PS X (.Match e [⟨.MatchSequence [.MatchAs none (some x1) p1, .MatchAs none (some x2) p2] p3, some g, b1⟩, ⟨.MatchAs none none p4, none, b2⟩] pos) (sM2X X.K te i j tt t1 t2) := by
  refine ⟨fun pins s σ H D I h => ?_⟩
  refine wpAny_Match (thn (he.run pins s σ H _ I h) fun u s1 ⟨x, H1, I1, r1, hh⟩ => ?_)
  rcases hh with ⟨a, v, w, rfl, hq, q⟩ | ⟨hm, q⟩
  · cases r1
    rcases hq with hq | hq
    · obtain ⟨its, rv, ht, hz⟩ := I1.tuple hq
      cases rv with
      | cons rv1 rr =>
      cases rr with
      | cons rv2 rn =>
      cases rn
      refine wpAny_matchCases_cons (matchSeq_tuple_hit (show s1.heap.IsTuple a _ from ht) (by simp) rfl ?_)
      refine unpack2 (I1.ok.hd hc) (a := a) (s := { s1 with toks := s1.toks + 1 + 1 }) ht fun h' hx' => ?_
      have I2 : Inv X pins σ H1 { s1 with heap := h', toks := s1.toks + 1 + 1 } := I1.kept (t' := s1.toks + 1 + 1) fun b o e => hx' b o (Nat.ne_of_lt (Heap.lt_size e)) e
      refine wpAny_matchEach_cons (wpAny_matchPattern_Capture (wpAny_matchEach_cons (wpAny_matchPattern_Capture (wpAny_matchEach_nil ?_))))
      refine wpAny_assignInOrder_more (wpAny_bindName (store_ok I2 hN hi hx rv1 (fun s3 I3 => ?_) hf1))
      refine wpAny_assignInOrder_more (wpAny_bindName (store_ok I3 hN hj hy rv2 (fun s4 I4 => ?_) hf2))
      refine wpAny_assignInOrder_none ?_
      refine thn (hg.run pins s4 _ H1 _ I4 q) fun c s5 ⟨H5, I5, q5⟩ => ?_
      cases c with
      | true => exact h1.run pins s5 _ H5 D I5 q5
      | false =>
        refine wpAny_matchCases_cons (wpAny_matchPattern_Capture (wpAny_assignInOrder_none ?_))
        exact h2.run pins s5 _ H5 D I5 q5
    · obtain ⟨its, rv, hpl, hz⟩ := I1.list hq
      cases rv with
      | cons rv1 rr =>
      cases rr with
      | cons rv2 rn =>
      cases rn
      obtain ⟨ol, nl, g1, g2, g3, g4⟩ := hpl
      refine wpAny_matchCases_cons (matchSeq_list_hit ⟨ol, g1, g2, nl, g4⟩ (by simp) rfl ?_)
      refine unpack2L (I1.ok.hd hc) (a := a) (s := { s1 with toks := s1.toks + 1 + 1 }) ⟨ol, g1, g2, nl, g4⟩ fun h' hx' => ?_
      have I2 : Inv X pins σ H1 { s1 with heap := h', toks := s1.toks + 1 + 1 } := I1.kept (t' := s1.toks + 1 + 1) fun b o e => hx' b o (Nat.ne_of_lt (Heap.lt_size e)) e
      refine wpAny_matchEach_cons (wpAny_matchPattern_Capture (wpAny_matchEach_cons (wpAny_matchPattern_Capture (wpAny_matchEach_nil ?_))))
      refine wpAny_assignInOrder_more (wpAny_bindName (store_ok I2 hN hi hx rv1 (fun s3 I3 => ?_) hf1))
      refine wpAny_assignInOrder_more (wpAny_bindName (store_ok I3 hN hj hy rv2 (fun s4 I4 => ?_) hf2))
      refine wpAny_assignInOrder_none ?_
      refine thn (hg.run pins s4 _ H1 _ I4 q) fun c s5 ⟨H5, I5, q5⟩ => ?_
      cases c with
      | true => exact h1.run pins s5 _ H5 D I5 q5
      | false =>
        refine wpAny_matchCases_cons (wpAny_matchPattern_Capture (wpAny_assignInOrder_none ?_))
        exact h2.run pins s5 _ H5 D I5 q5
  · rcases hm with rfl | ⟨a, xs, rfl, hq, hne, hle⟩
    · cases r1
      refine wpAny_matchCases_cons (wpAny_matchPattern_Sequence (wpAny_collectionFlag (T := "NoneType") (b := false) (typeIs_none _) flag_seq_None ?_))
      refine wpAny_matchCases_cons (wpAny_matchPattern_Capture (wpAny_assignInOrder_none ?_))
      exact h2.run pins s1 _ H1 D I1 q
    · cases r1
      obtain ⟨its, rv, ht, hz⟩ := I1.tuple hq
      have hl := rv.length
      refine wpAny_matchCases_cons (matchSeq_tuple_miss (show s1.heap.IsTuple a _ from ht) (by simp; omega) (by simp; omega) ?_)
      refine wpAny_matchCases_cons (wpAny_matchPattern_Capture (wpAny_assignInOrder_none ?_))
      exact h2.run pins _ _ H1 D (I1.kept (t' := s1.toks + 1 + 1) fun _ _ z => z) q
end G48
namespace G48
open PySem PySem.Spec PyProof.Rows L2 Evl
open LamX (TabB)
/-! ### the end of a law that makes lambdas in several defs: all their tables are empty at the start -/
def startHs (K : PySem.W.Frag) (ts : List Addr) (a : Addr) (o : Obj) (xs : List V) : Hp := fun b => if b ∈ ts then some (.tbl #[]) else if b = a ∧ (K.lookup a).isNone = true then some (.frz o (.lst xs)) else none
section
variable {P : Program} {w : World} {K : PySem.W.Frag} {mg mb : Str → Option Value} {k : Nat} {fa a : Addr} {ts : List (Addr × Addr)} {fd : FuncData} {x : Str} {sp : Sp} {s : Shared} {vs : List Value} {ns : List Int}
theorem law_lams (KX : K.In s.heap) (hG : s.heap.Ns mainGlobals mg) (hB : s.heap.Ns builtinsNs mb) (hbb : ∀ x : Str, x ≠ "__name__" → mb x = bootBuiltins x) (hlim : s.heap.NoLimit) (hg : s.gens = #[])
    (hT : ∀ p ∈ ts, s.heap.get? p.2 = some { cls := .none, data := .fields #[] }) (nT : ∀ p ∈ ts, K.lookup p.2 = none) (C : ∀ p ∈ ts, PySem.W.CodeHd s.heap p.1 p.2)
    (hbm : ∃ (bm : Addr) (ob : Obj), mg "__builtins__" = some (.ref bm) ∧ bm ≠ builtinsNs ∧ s.heap.get? bm = some ob ∧ ob.cls = .type "module" ∧ ob.dict = some builtinsNs ∧ ob.data = .plain)
    (ha : s.heap.get? a = some { cls := .type "list", data := .seq vs.toArray }) (hi : IntsAre vs ns) (hl : ns.length ≤ sizeLine) (hr : Room k callerA)
    (F : ∀ base : Heap, K.In base → base.Ns mainGlobals mg → (∀ p ∈ ts, TabB base mg p.1 p.2) → FnOk P w K mg base L2.CX0 k fa fd [x] sp) (hbind : ∀ (s : Shared) (u : Value), BindsTo s fd ⟨[u], []⟩ [(x, u)])
    (hsp : ∀ H : Hp, (∀ p ∈ ts, H p.2 = some (.tbl #[])) → ScrF K H a (ns.map V.int) → sp [.ref a] H (fun v _ => v = .bl true) fun _ _ _ => False) :
    codeAny (model P w) callerA (.call (.ref fa) ⟨[.ref a], []⟩) (fun r s' => r = .ok (.ret (.bool true)) ∧ OldK s.heap s'.heap ∧ s'.os = s.os ∧ AllBare s'.gens) s := by
  have rv := vals_ints hi
  have lenV := hi.length
  have hl' : (ns.map V.int).length ≤ sizeLine := by rw [List.length_map]; exact hl
  have hTm : ∀ T ∈ ts.map (·.2), s.heap.get? T = some { cls := .none, data := .fields #[] } ∧ K.lookup T = none := fun T hm => by
    obtain ⟨p, hp, rfl⟩ := List.mem_map.mp hm
    exact ⟨hT p hp, nT p hp⟩
  have neq : a ∉ ts.map (·.2) := fun z => by
    rw [(hTm a z).1] at ha
    cases ha
  obtain ⟨H0, eH⟩ : ∃ H0 : Hp, startHs K (ts.map (·.2)) a { cls := .type "list", data := .seq vs.toArray } (ns.map V.int) = H0 := ⟨_, rfl⟩
  have atT : ∀ p ∈ ts, H0 p.2 = some (.tbl #[]) := fun p hp => by
    rw [← eH]
    exact if_pos (List.mem_map.mpr ⟨p, hp, rfl⟩)
  have atA : K.lookup a = none → H0 a = some (.frz { cls := .type "list", data := .seq vs.toArray } (.lst (ns.map V.int))) := fun z => by
    rw [← eH]
    exact (if_neg neq).trans (if_pos ⟨rfl, by rw [z]; rfl⟩)
  have only : ∀ b u, H0 b = some u → (b ∈ ts.map (·.2) ∧ u = .tbl #[]) ∨ (b = a ∧ K.lookup a = none ∧ u = .frz { cls := .type "list", data := .seq vs.toArray } (.lst (ns.map V.int))) := fun b u z => by
    rw [← eH] at z
    unfold startHs at z
    by_cases h1 : b ∈ ts.map (·.2)
    · rw [if_pos h1] at z
      exact .inl ⟨h1, (Option.some.inj z).symm⟩
    · rw [if_neg h1] at z
      by_cases h2 : b = a ∧ (K.lookup a).isNone = true
      · rw [if_pos h2] at z
        exact .inr ⟨h2.1, by simpa using h2.2, (Option.some.inj z).symm⟩
      · rw [if_neg h2] at z
        cases z
  have scr : ScrF K H0 a (ns.map V.int) := by
    cases hk : K.lookup a with
    | none => exact .inl ⟨_, atA hk⟩
    | some o =>
      have e := KX a o hk
      rw [ha] at e
      cases e
      exact .inr ⟨_, vs.toArray, _, hk, rfl, rfl, rfl, by rw [List.size_toArray, lenV]; exact hl, by simpa using rv⟩
  have hok : HOk P w H0 s.heap := fun b u z => by
    rcases only b u z with ⟨hb, rfl⟩ | ⟨rfl, _, rfl⟩
    · exact (hTm b hb).1
    · exact ⟨ha, hl', vs, _, rv, ha⟩
  have clear : ∀ {b : Addr} {o : Obj}, s.heap.get? b = some o → (∀ us n, o.data ≠ .seq us n) → o.data ≠ .fields #[] → H0 b = none := fun {b o} e d1 d2 => by
    cases z : H0 b with
    | none => rfl
    | some u =>
      rcases only b u z with ⟨hb, _⟩ | ⟨rfl, _, _⟩
      · rw [(hTm b hb).1] at e
        cases e
        exact absurd rfl d2
      · rw [ha] at e
        cases e
        exact absurd rfl (d1 _ _)
  have get : ∀ {b : Addr} {o : Obj}, s.heap.get? b = some o → H0 b = none → (hidT s.heap H0).get? b = some o := fun e n => hidT_get e n
  have nsUp : ∀ {b : Addr} {m : Str → Option Value}, s.heap.Ns b m → (hidT s.heap H0).Ns b m := fun {b m} ⟨o, es, ep, e, d, r⟩ => ⟨o, es, ep, get e (clear e (fun us n z => by rw [d] at z; cases z) fun z => by rw [d] at z; cases z), d, r⟩
  have kIn : K.In (hidT s.heap H0) := fun b o e => get (KX b o e) (by
    cases z : H0 b with
    | none => rfl
    | some u =>
      rcases only b u z with ⟨hb, _⟩ | ⟨rfl, n, _⟩
      · rw [(hTm b hb).2] at e; cases e
      · rw [n] at e; cases e)
  have md : L2.Mod K mg (hidT s.heap H0) := ⟨kIn, nsUp hG, ⟨mb, nsUp hB, hbb⟩, let ⟨mc, h1, h2⟩ := hlim; ⟨mc, nsUp h1, h2⟩⟩
  have tb : ∀ p ∈ ts, TabB (hidT s.heap H0) mg p.1 p.2 := fun p hp => by
    obtain ⟨o, us, file, tf, flags, tg, inF, text, tt, e1, r1, r2, r3, r4, r5, r6, r7, r8, hne⟩ := C p hp
    obtain ⟨bm, ob, b1, b2, b3, b4, b5, b6⟩ := hbm
    obtain ⟨og, es, ep, eg, dg, _⟩ := hG
    have ng : bm ≠ mainGlobals := fun q => by
      rw [q, eg] at b3
      cases b3
      rw [dg] at b6
      cases b6
    have nt : bm ≠ p.2 := fun q => by
      rw [q, hT p hp] at b3
      cases b3
      cases b6
    refine ⟨⟨o, us, file, tf, flags, tg, inF, text, tt, get e1 (clear e1 (fun us n z => ?_) fun z => ?_), r1, r2, r3, r4, r5, r6, r7, r8, hne⟩, ⟨bm, ob, b1, b2, ng, nt, get b3 (clear b3 (fun us n z => ?_) fun z => ?_), b4, b5, b6⟩, fun z => ?_⟩
    · rw [r2] at z
      cases z
    · rw [r2] at z
      cases z
      simp at r3
    · rw [b6] at z
      cases z
    · rw [b6] at z
      cases z
    · rw [z, hT p hp] at eg
      cases eg
      cases dg
  have e0 : Env0 P w K mg (hidT s.heap H0) callerA [] s H0 := ⟨rfl, md, fun b o e => of_hidT e, Nat.le_of_eq (hidT_size _ _), trivial, fun b z => absurd (show b ∈ ([] : List Addr) from z) (by simp), hok, .of_eq hg⟩
  refine codeAny_mono ((F _ kIn (nsUp hG) tb).run callerA [] s H0 ⟨[.ref a], []⟩ [.ref a] [.ref a] _ _ hr e0 (hbind s (.ref a)) (.cons rfl .nil) (hsp H0 atT scr)) fun r s' h => ?_
  cases r with
  | error e => exact False.elim h
  | ok fl =>
    cases fl with
    | next => exact False.elim h
    | brk => exact False.elim h
    | cont => exact False.elim h
    | ret u =>
      obtain ⟨v, H', os, bare, un, hok', r', rfl⟩ := h
      obtain rfl : u = Value.bool true := r'
      have kept : ∀ b o, b ∉ ts.map (·.2) → s.heap.get? b = some o → s'.heap.get? b = some o := fun b o nb e => by
        cases z : H0 b with
        | none => exact un.keep b o e z (fun z => absurd (show b ∈ ([] : List Addr) from z) (by simp)) (by simp)
        | some u =>
          rcases only b u z with ⟨q, _⟩ | ⟨rfl, n, rfl⟩
          · exact absurd q nb
          · obtain ⟨e2, _⟩ := hok' _ _ (un.frzs _ _ _ z)
            rw [ha] at e
            cases e
            exact e2
      have grown : ∀ b, b ∈ ts.map (·.2) → ∃ c more, (c, b) ∈ ts ∧ s'.heap.get? b = some { cls := .none, data := .fields (#[] ++ more) } := fun b hb => by
        obtain ⟨p, hp, rfl⟩ := List.mem_map.mp hb
        obtain ⟨more, hm⟩ := un.tbls p.2 #[] (atT p hp)
        exact ⟨p.1, more, hp, hok' p.2 _ hm⟩
      refine ⟨rfl, ⟨fun b o e => ?_, fun b o e => ?_⟩, os, bare⟩
      · by_cases hb : b ∈ ts.map (·.2)
        · obtain ⟨c, more, hp, hgr⟩ := grown b hb
          rw [(hTm b hb).1] at e
          cases e
          exact .inr (.inl ⟨((C _ hp).tab (hT _ hp)).isCodeTable, rfl, #[], more, rfl, hgr⟩)
        · exact .inl (kept b o hb e)
      · by_cases hb : b ∈ ts.map (·.2)
        · obtain ⟨c, more, hp, hgr⟩ := grown b hb
          exact ⟨_, hgr⟩
        · exact ⟨o, kept b o hb e⟩
/-- what is known of the law's promise at the head's heap h -/
def LawAtLs (l : PySem.W.OpenLaw) (w : World) (K : PySem.W.Frag) (k n : Nat) (x : Str) (mg : Str → Option Value) (fa : Addr) (h : Heap) : Prop :=
  ∃ (fd : FuncData) (ts : List (Addr × Addr)) (sp : Sp), (∀ p ∈ ts, h.get? p.2 = some { cls := .none, data := .fields #[] } ∧ K.lookup p.2 = none ∧ PySem.W.CodeHd h p.1 p.2) ∧ (∀ (s : Shared) (u : Value), BindsTo s fd ⟨[u], []⟩ [(x, u)]) ∧
    (∀ (H : Hp) (a : Addr) (ns : List Int), ns.length ≤ n → (∀ p ∈ ts, H p.2 = some (.tbl #[])) → ScrF K H a (ns.map V.int) → sp [.ref a] H (fun v _ => v = .bl true) fun _ _ _ => False) ∧
    ∀ base : Heap, K.In base → base.Ns mainGlobals mg → (∀ p ∈ ts, TabB base mg p.1 p.2) → FnOk l.prog w K mg base L2.CX0 k fa fd [x] sp
theorem walk_lams {l : PySem.W.OpenLaw} {n k : Nat} {q : Program} {loose : List Str} {XP : (Str → Option Value) → Heap → Prop} {YP : World → Heap → Prop} {d : DefRec} {x : Str}
    (hn : l.most = some n) (hn2 : n ≤ sizeLine) (hdf : d.params.defaults = []) (hr : Room k callerA)
    (F : ∀ (w : World) (mg : Str → Option Value) (fa : Addr) (h : Heap), YP w h → h.Ns mainGlobals mg → mg d.name = some (.ref fa) → ∃ K : PySem.W.Frag, K.In h ∧ LawAtLs l w K k n x mg fa h) :
    PySem.W.WalkO q loose XP YP l.row.toRowW d [] (fun f vs => PySem.call f vs) := by
  refine Att.attach_callB hn hdf fun w s₀ s₁ mg mb fa o pm cd doc a vs ns G Y ho hd hcd hmg hobj hints hlen hbits hg => ?_
  obtain ⟨K, KX, fd, ts, sp, hts, hb, hsp, hF⟩ := F w mg fa _ Y G.T.g hmg
  exact law_lams KX G.T.g G.T.b G.T.builtins G.T.nolimit hg (fun p hp => (hts p hp).1) (fun p hp => (hts p hp).2.1) (fun p hp => (hts p hp).2.2) G.T.bmain hobj hints (Nat.le_trans hlen hn2) hr hF hb fun H hH hS => hsp H a ns hlen hH hS
end
/-! ### the Hook: facts of the heap without empty tables, and the tables of these defs -/
def SaysLs (fas : List Gp.FB) (fn : List He5.DefA) (dfs : List He.Defn) (h : Heap) (K : PySem.W.Frag) : Prop := Gp.SaysP fas fn K ∧ ∀ d ∈ dfs, PySem.W.codeHdIn K (He.cT K d).1 (He.cT K d).2 = true ∧ K.lookup (He.cT K d).2 = none ∧ h.get? (He.cT K d).2 = some { cls := .none, data := .fields #[] }
def obsLs (n : Nat) (fas : List Gp.FB) (fn : List He5.DefA) (dfs : List He.Defn) (g : Addr → Option Obj) : AlL := (Gp.obsP fas fn (He.frT g (He5.asA g n)), He.tabsB g dfs (He.frT g (He5.asA g n)))
theorem saysLs_of {n : Nat} {fas : List Gp.FB} {fn : List He5.DefA} {dfs : List He.Defn} {h : Heap} (e : obsLs n fas fn dfs h.get? = (He5.valA fn, true)) : SaysLs fas fn dfs h (He.frT h.get? (He5.asA h.get? n)) := by
  have e1 : Gp.obsP fas fn (He.frT h.get? (He5.asA h.get? n)) = He5.valA fn := congrArg (fun z : AlL => z.1) e
  have e2 : He.tabsB h.get? dfs (He.frT h.get? (He5.asA h.get? n)) = true := congrArg (fun z : AlL => z.2) e
  refine ⟨e1, fun d hd => ?_⟩
  obtain ⟨h3, h4⟩ := He.ba (List.all_eq_true.mp e2 d hd)
  cases q : h.get? (He.cT (He.frT h.get? (He5.asA h.get? n)) d).2 with
  | none =>
    rw [q] at h4
    cases h4
  | some o =>
    rw [q] at h4
    exact ⟨h3, He.frT_none q h4, by rw [He.emptyTab_eq h4]⟩
def hookLs (n : Nat) (fas : List Gp.FB) (fn : List He5.DefA) (dfs : List He.Defn) : PySem.W.Hook where
  α := AlL
  obs := fun s => obsLs n fas fn dfs s.heap.get?
  val := fun _ => (He5.valA fn, true)
  says := fun _ h => ∃ K : PySem.W.Frag, K.In h ∧ SaysLs fas fn dfs h K
  of := fun _ _ e => ⟨_, He.frT_in, saysLs_of e⟩
  keeps := fun _ _ _ ⟨K, hK, c1, c2⟩ k => ⟨K, PySem.W.Frag.In.keeps hK k, c1, fun d hd => ⟨(c2 d hd).1, (c2 d hd).2.1, k _ _ (c2 d hd).2.2⟩⟩
theorem obsLs_eq {n : Nat} {fas : List Gp.FB} {fn : List He5.DefA} {dfs : List He.Defn} {g : Addr → Option Obj} {s : Shared} (h : ∀ a, g a = s.heap.get? a) : obsLs n fas fn dfs g = (hookLs n fas fn dfs).obs s := by
  have e : g = s.heap.get? := funext h
  rw [e] <;> rfl
/-! ### a def below the law whose own text makes lambdas -/
abbrev BodyTd (P : Program) (w : World) (K : PySem.W.Frag) (mg : Str → Option Value) (base : Heap) (x : Str) (N : List Str) (st : Stmt) (k : Nat) (sp : Sp) : Prop :=
  ∀ (f : Addr) (A : Around) (outer : List Env) (s : Shared) (H : Hp) (vs : List V) (Q : VK) (E : XK), TabB base mg (He.cT K (x, none)).1 (He.cT K (x, none)).2 → Room k (A.deeper (envOfC x (defScope st) s.heap.objs.size f (.ref (He.cT K (x, none)).1))) → sp vs H Q E →
      ∃ t, PSs (cxOf (L2.CX P w) P w K mg base N x (defScope st) f (.ref (He.cT K (x, none)).1) A outer s H E) (defBody st) t ∧ t { nx := fun _ H' => Q .non H', rt := Q } (start N vs) H
theorem Df.lam {P : Program} {w : World} {K : PySem.W.Frag} {mg : Str → Option Value} {base : Heap} {x : Str} {st : Stmt} {fd : FuncData} {N ps : List Str} {k : Nat} {sp : Sp} (hm : mg x = some (.ref (He.ga K x))) (F : Fun K x x st (He.ga K x) fd) (S : FnScope N ps (defScope st)) (hb : BindL x x st ps)
    (len : ∀ vs H Q E, sp vs H Q E → vs.length = ps.length) (body : BodyTd P w K mg base x N st k sp) (TB : TabB base mg (He.cT K (x, none)).1 (He.cT K (x, none)).2) : Df P w K mg base (k + 1) x ps sp := by
  refine ⟨_, fd, hm, F.kp, F.binds hb, ?_⟩
  obtain ⟨oc, od, kV, doc, pm, an, cdv, ct, osl, rfl, lk, hcd⟩ := F.ex
  obtain ⟨c0, rfl⟩ := He.codeIn_ref hcd
  have e : He.codeOf K (x, none) = c0 := He.codeOf_eq (p := (x, none)) lk rfl
  subst e
  exact fn_of lk hcd S len fun A outer s H vs Q E hr hsp => body _ A outer s H vs Q E TB hr hsp
/-! ### two tables, told side by side -/
abbrev tabOf (K : PySem.W.Frag) (x : Str) : Addr × Str := ((He.cT K (x, none)).2, (x ++ ".<locals>.") ++ "<lambda>")
abbrev twoTs (K : PySem.W.Frag) (x y : Str) : List (Addr × Str) := [tabOf K x, tabOf K y]
section
variable {K : PySem.W.Frag} {x y : Str} {H : Hp}
theorem two_m1 : ((He.cT K (x, none)).2, ((x ++ ".<locals>.") ++ "<lambda>" : Str)) ∈ twoTs K x y := List.mem_cons_self
theorem two_m2 : ((He.cT K (y, none)).2, ((y ++ ".<locals>.") ++ "<lambda>" : Str)) ∈ twoTs K x y := List.mem_cons_of_mem _ List.mem_cons_self
theorem two_u1 (ne : (He.cT K (x, none)).2 ≠ (He.cT K (y, none)).2) : ∀ p ∈ twoTs K x y, p.1 = (He.cT K (x, none)).2 → p.2 = ((x ++ ".<locals>.") ++ "<lambda>" : Str) := fun p hp e => by
  rcases List.mem_cons.mp hp with rfl | hp
  · rfl
  · rw [List.mem_singleton.mp hp] at e
    exact absurd e.symm ne
theorem two_u2 (ne : (He.cT K (x, none)).2 ≠ (He.cT K (y, none)).2) : ∀ p ∈ twoTs K x y, p.1 = (He.cT K (y, none)).2 → p.2 = ((y ++ ".<locals>.") ++ "<lambda>" : Str) := fun p hp e => by
  rcases List.mem_cons.mp hp with rfl | hp
  · exact absurd e ne
  · rw [List.mem_singleton.mp hp]
theorem twoTs_0 (h1 : H (He.cT K (x, none)).2 = some (.tbl #[])) (h2 : H (He.cT K (y, none)).2 = some (.tbl #[])) : LamX.Tabs (twoTs K x y) H := fun p hp => by
  rcases List.mem_cons.mp hp with rfl | hp
  · exact LamX.TabS.nil h1
  · rw [List.mem_singleton.mp hp]
    exact LamX.TabS.nil h2
end
/-! ### a tuple times an int of at least one -/
theorem tuple_mulW1 (l : Addr) (items : Array Value) (n : Nat) (sl : Array (Option Value)) (u : Tok) :
    Meets (Builtin.«tuple.__mul__» ⟨[.ref l, .int 1 u], []⟩) (fun _ R s => (∃ dd, s.heap.get? l = some { cls := .type "tuple", dict := dd, data := .seq items n, slots := sl }) ∧ R (.ok (.ret (Value.ref l))) s) :=
  .of_wp fun prog w A R s h => by
    obtain ⟨hp, g, d, tk, os⟩ := s
    obtain ⟨⟨dd, hl⟩, h⟩ := h
    have f1 := AutoSeq1.idx_int
    have c1 : (items.isEmpty || (1 : Int) == 1) = true := by rw [Bool.or_comm]; rfl
    wp_walk using wpAny_loadPart' hl
    repeat (first
      | (refine wpAny_ite_false (by decide) ?_; wp_walk using wpAny_loadPart' hl)
      | (refine wpAny_ite_true (decide_eq_true c1) ?_; wp_walk using wpAny_loadPart' hl))
    exact ⟨_, rfl, h⟩
def rRepU (K : PySem.W.Frag) : R2 := fun x y H Q => (∃ l xs, x = .ref l ∧ y = .int 1 ∧ SqT K H l xs ∧ Q (.ref l) H) ∨ rRepT K x y H Q
theorem op_repU {X : Cx} : OpR X (binaryOp .Mult) (rRepU X.K) := by
  intro pins s σ H x y v u Q I rx ry h
  rcases h with ⟨l, xs, rfl, rfl, hT, q⟩ | h
  · cases rx
    obtain ⟨t, rfl⟩ := ry
    obtain ⟨its, r, ⟨⟨cls, dd, data, sl⟩, ho, hc, n, hd⟩, hs⟩ := I.tuple hT
    simp only at hc hd
    subst hc hd
    exact wpAny_binaryOp_repeat_ref (T := "tuple") (U := "int") (by decide) ⟨_, ho, rfl⟩ (fun s' => typeIs_int s' 1 t) noFill_tuple_mul F.fills_int_mul F.slot_int_rmul repeat_tuple F.slot_int_index.lookup
      (call_meets F.slot_int_rmul (typeIs_int s 1 t) F.entry_int_rmul (F.args_int_rmul_2 _ _) (int_rmul_tuple 1 t l its.toArray n dd sl)
        ⟨ho, rfl, ⟨_, ho, rfl⟩, call_meets F.slot_tuple_mul ⟨_, ho, rfl⟩ F.entry_tuple_mul (F.args_tuple_mul_2 _ _) (tuple_mulW1 l its.toArray n sl t) ⟨⟨dd, ho⟩, .ref l, H, I, rfl, q⟩⟩)
  · exact op_repT pins s σ H x y v u Q I rx ry h
theorem g_repU {K : PySem.W.Frag} {H : Hp} {Q : VK} {l : Addr} {xs : List V} {k : Nat} (h : SqT K H l xs) (hn : xs ≠ []) (hl : xs.length ≤ 1000) (h1 : 1 ≤ k) (h2 : k ≤ 1000) (q : ∀ p H2, Ex H H2 → SqT K H2 p (List.replicate k xs).flatten → Q (.ref p) H2) : rRepU K (.ref l) (.int (k : Int)) H Q := by
  by_cases z : k = 1
  · subst z
    exact .inl ⟨l, xs, rfl, rfl, h, q l H (Ex.refl _) (by rw [show (List.replicate 1 xs).flatten = xs by simp]; exact h)⟩
  · exact .inr ⟨l, k, xs, rfl, rfl, h, hn, by omega, by omega, hl, fun p hp => q p _ (Ex.new hp) (SqT.of upd_same)⟩
/-! ### facts that a head tells of own classes -/
/-- what a head must tell of a class whose instances stand left of >> with an int -/
structure ShrC (K : PySem.W.Frag) (C : Addr) : Prop where
  hc : PySem.W.selfFirst K C = true
  hr : PySem.W.findIn K (.ref C) (dunderR (Operator.info .RShift).2) = some none
  h1 : ∃ fo, PySem.W.findIn K (.type "int") (PySem.dunder (Operator.info .RShift).2) = some fo
  h2 : ∃ ro, PySem.W.findIn K (.type "int") (dunderR (Operator.info .RShift).2) = some ro
  hsub : PySem.W.subIn K (.type "int") (.ref C) = some false
def shrB (K : PySem.W.Frag) (C : Addr) : Bool := PySem.W.selfFirst K C && (decide (PySem.W.findIn K (.ref C) (dunderR (Operator.info .RShift).2) = some none) && ((PySem.W.findIn K (.type "int") (PySem.dunder (Operator.info .RShift).2)).isSome &&
  ((PySem.W.findIn K (.type "int") (dunderR (Operator.info .RShift).2)).isSome && decide (PySem.W.subIn K (.type "int") (.ref C) = some false))))
theorem shr_ok {K : PySem.W.Frag} {C : Addr} (h : shrB K C = true) : ShrC K C := by
  obtain ⟨h1, h⟩ := He.ba h
  obtain ⟨h2, h⟩ := He.ba h
  obtain ⟨h3, h⟩ := He.ba h
  obtain ⟨h4, h5⟩ := He.ba h
  exact ⟨h1, of_decide_eq_true h2, Option.isSome_iff_exists.mp h3, Option.isSome_iff_exists.mp h4, of_decide_eq_true h5⟩
def shrT : List String := ["NoneType", "bool", "int", "str"]
structure ShrV (K : PySem.W.Frag) (C : Addr) : Prop where
  hc : PySem.W.selfFirst K C = true
  hr : PySem.W.findIn K (.ref C) (dunderR (Operator.info .RShift).2) = some none
  hT : ∀ T ∈ shrT, (∃ fo, PySem.W.findIn K (.type T) (PySem.dunder (Operator.info .RShift).2) = some fo) ∧ (∃ ro, PySem.W.findIn K (.type T) (dunderR (Operator.info .RShift).2) = some ro) ∧ PySem.W.subIn K (.type T) (.ref C) = some false
def shrvB (K : PySem.W.Frag) (C : Addr) : Bool := PySem.W.selfFirst K C && (decide (PySem.W.findIn K (.ref C) (dunderR (Operator.info .RShift).2) = some none) && shrT.all fun T => (PySem.W.findIn K (.type T) (PySem.dunder (Operator.info .RShift).2)).isSome &&
  ((PySem.W.findIn K (.type T) (dunderR (Operator.info .RShift).2)).isSome && decide (PySem.W.subIn K (.type T) (.ref C) = some false)))
theorem shrv_ok {K : PySem.W.Frag} {C : Addr} (h : shrvB K C = true) : ShrV K C := by
  obtain ⟨h1, h⟩ := He.ba h
  obtain ⟨h2, h⟩ := He.ba h
  refine ⟨h1, of_decide_eq_true h2, fun T hT => ?_⟩
  have := List.all_eq_true.mp h T hT
  obtain ⟨h3, h⟩ := He.ba this
  obtain ⟨h4, h5⟩ := He.ba h
  exact ⟨Option.isSome_iff_exists.mp h3, Option.isSome_iff_exists.mp h4, of_decide_eq_true h5⟩
structure EqtC (K : PySem.W.Frag) (C : Addr) : Prop where
  nf : PySem.W.notFirst K C (.type "tuple") = true
  ki : PySem.W.kitOne K (.type "tuple") (.ref C) = some false
def eqtB (K : PySem.W.Frag) (C : Addr) : Bool := PySem.W.notFirst K C (.type "tuple") && decide (PySem.W.kitOne K (.type "tuple") (.ref C) = some false)
theorem eqt_ok {K : PySem.W.Frag} {C : Addr} (h : eqtB K C = true) : EqtC K C := by
  obtain ⟨h1, h2⟩ := He.ba h
  exact ⟨h1, of_decide_eq_true h2⟩
/-- where the class method's def stands -/
abbrev cmA (K : PySem.W.Frag) (C : Addr) (m : Str) : Addr := He5.wf K C "classmethod" m
structure CmC (K : PySem.W.Frag) (C : Addr) (m : Str) : Prop where
  rd : ClX.CRead K C (.type "type")
  wr : PySem.W.findCls K (.ref C) (.type "type") m = some (.get (.builtin "classmethod.__get__") (.ref (He.ma K C m)) .none (.ref C)) ∧ ∃ rest, PySem.W.recIn K (He.ma K C m) "classmethod" = some (.ref (cmA K C m) :: rest)
def cmB (K : PySem.W.Frag) (C : Addr) (m : Str) : Bool := PySem.W.readsIn K C (.type "type") && He5.wrapB K C "classmethod" "classmethod.__get__" m
theorem cm_ok {K : PySem.W.Frag} {C : Addr} {m : Str} (h : cmB K C m = true) : CmC K C m := by
  obtain ⟨h0, hw⟩ := He.ba h
  refine ⟨⟨h0, ?_⟩, He5.wrapB_ok hw⟩
  have h := h0
  unfold PySem.W.readsIn at h
  obtain ⟨h, _⟩ := He.ba h
  obtain ⟨h, _⟩ := He.ba h
  obtain ⟨h, h3⟩ := He.ba h
  obtain ⟨_, h2⟩ := He.ba h
  unfold PySem.W.specialIn
  rw [beq_iff_eq.mp h2, Option.bind_some]
  exact beq_iff_eq.mp h3
end G48
/-! zip of two (lists, tuples in any mix) and of three tuples -/
namespace G48
open PySem PySem.Spec PyProof.Rows L2 Evl
def SqB (K : PySem.W.Frag) (b : Bool) (H : Hp) (a : Addr) (xs : List V) : Prop := if b = true then SqT K H a xs else SqL K H a xs
def IterB (b : Bool) (h : Heap) (it a : Addr) (i : Nat) : Prop := if b = true then h.IsTupleIter it a i else h.IsListIter it a i
def IsB (b : Bool) (h : Heap) (a : Addr) (items : Array Value) : Prop := if b = true then h.IsTuple a items else h.IsList a items
theorem IterB.obj {b : Bool} {h : Heap} {it a : Addr} {i : Nat} (z : IterB b h it a i) : ∃ o, h.get? it = some o ∧ ∀ v, o.data ≠ .cell v := by
  cases b with
  | true => obtain ⟨o, e, _, d⟩ := z; exact ⟨o, e, fun v q => by rw [d] at q; cases q⟩
  | false => obtain ⟨o, e, _, d⟩ := z; exact ⟨o, e, fun v q => by rw [d] at q; cases q⟩
theorem IterB.at {b : Bool} {h h' : Heap} {it a : Addr} {i : Nat} (z : IterB b h it a i) (k : ∀ o, h.get? it = some o → h'.get? it = some o) : IterB b h' it a i := by
  cases b with
  | true => exact Heap.IsTupleIter.at (show h.IsTupleIter it a i from z) k
  | false => exact Heap.IsListIter.at (show h.IsListIter it a i from z) k
theorem drawsB {prog : Program} {w : World} {A : Around} (hh : A.handled = none) (b : Bool) (it l : Addr) (hne : l ≠ it) (items : Array Value) :
    Draws prog w A it [it, l] items.size (fun i v => items[i]? = some v) (fun i h => IterB b h it l i ∧ IsB b h l items) := by
  cases b with
  | true => exact Draws.tuple hh it l hne items
  | false => exact Draws.list hh it l hne items
theorem invB {X : Cx} {pins : List (Addr × Obj)} {σ : L2.St} {H : Hp} {s : Shared} {b : Bool} {a : Addr} {xs : List V} (I : Inv X pins σ H s) (h : SqB X.K b H a xs) : ∃ its : List Value, Vals xs its ∧ IsB b s.heap a its.toArray ∧ a < s.heap.objs.size := by
  cases b with
  | true =>
    obtain ⟨its, rv, p, _⟩ := I.tuple (show SqT X.K H a xs from h)
    have p : s.heap.IsTuple a its.toArray := p
    obtain ⟨o, ho, _⟩ := id p
    exact ⟨its, rv, p, Heap.lt_size ho⟩
  | false =>
    obtain ⟨its, rv, p, _⟩ := I.list (show SqL X.K H a xs from h)
    exact ⟨its, rv, p.isList, p.lt⟩
theorem invB_inj {X : Cx} {pins : List (Addr × Obj)} {σ : L2.St} {H : Hp} {s : Shared} {b : Bool} {a : Addr} {xs ys : List V} (I : Inv X pins σ H s) (h : SqB X.K b H a xs) (h' : SqB X.K b H a ys) : xs = ys := by
  cases b with
  | true => exact I.tuple_inj (show SqT X.K H a xs from h) h'
  | false => exact I.list_inj (show SqL X.K H a xs from h) h'
theorem beginsB (b : Bool) (a : Addr) (items : Array Value) : ∃ o, Begins (.ref a) o (fun h => IsB b h a items) ∧ ∀ (h : Heap) (it : Addr), h.get? it = some o → IterB b h it a 0 := by
  cases b with
  | true => exact ⟨_, begins_tuple a items, fun h it e => ⟨_, e, rfl, rfl⟩⟩
  | false => exact ⟨_, begins_list a items, fun h it e => ⟨_, e, rfl, rfl⟩⟩
/-! ### two -/
def Itz2 (K : PySem.W.Frag) (b1 b2 : Bool) (a b : Addr) : It :=
  ⟨fun i H => ∃ (xs ys : List V) (x y : V), SqB K b1 H a xs ∧ SqB K b2 H b ys ∧ xs[i]? = some x ∧ ys[i]? = some y,
    fun i H v H' => ∃ T x y, v = .ref T ∧ H T = none ∧ H' = upd H T (.tup [x, y]) ∧ (∀ xs, SqB K b1 H a xs → xs[i]? = some x) ∧ ∀ ys, SqB K b2 H b ys → ys[i]? = some y,
    fun i H => ∃ xs ys : List V, SqB K b1 H a xs ∧ SqB K b2 H b ys ∧ xs.length = i ∧ ys.length = i⟩
theorem turn_z2 {P : Program} {w : World} {K : PySem.W.Frag} {elts : List Expr} {kk : Nat} {tpos : Pos} {b1 b2 : Bool} {a b z TI TO i1 i2 : Addr} (D : ZipSep2 z TI TO i1 i2 [i1, a] [i2, b]) (na : a ≠ i1) (nb : b ≠ i2) :
    Turn P w K (.Tuple elts kk tpos) (Itz2 K b1 b2 a b) [z, TI, TO, i1, i2] z (fun i h => IsZip h z TI TO .none ∧ IsTupOf2 h TI (.ref i1) (.ref i2) ∧ (∃ x y, IsTupOf2 h TO x y) ∧ IterB b1 h i1 a i ∧ IterB b2 h i2 b i) where
  mem := by simp
  obj := fun i h st c hc => by
    obtain ⟨hz, hTI, ⟨x, y, hTO⟩, h1, h2⟩ := st
    have e' : c = z ∨ c = TI ∨ c = TO ∨ c = i1 ∨ c = i2 := by simpa using hc
    rcases e' with q | q | q | q | q
    · rw [q]; exact ⟨_, hz, fun v q => nomatch q⟩
    · rw [q]; exact ⟨_, hTI, fun v q => nomatch q⟩
    · rw [q]; exact ⟨_, hTO, fun v q => nomatch q⟩
    · rw [q]; exact h1.obj
    · rw [q]; exact h2.obj
  keep := fun i h h' st k => by
    obtain ⟨hz, hTI, ⟨x, y, hTO⟩, h1, h2⟩ := st
    exact ⟨k z (by simp) _ hz, k TI (by simp) _ hTI, ⟨x, y, k TO (by simp) _ hTO⟩, h1.at fun o q => k i1 (by simp) o q, h2.at fun o q => k i2 (by simp) o q⟩
  item := by
    intro X hP hw hK hc i pins s σ H E I hf st hg
    subst hP hw hK
    obtain ⟨hz, hTI, ⟨x0, y0, hTO⟩, h1, h2⟩ := st
    obtain ⟨xs, ys, x, y, hqx, hqy, hx, hy⟩ := hg
    obtain ⟨its, rv, p, _⟩ := invB I hqx
    obtain ⟨its2, rv2, p2, _⟩ := invB I hqy
    obtain ⟨u, hu, ru⟩ := rv.get hx
    obtain ⟨u2, hu2, ru2⟩ := rv2.get hy
    have hh : X.A.in1.handled = none := I.ok.hd hc
    have hzl : z < s.heap.objs.size := Heap.lt_size hz
    have l1 := (List.getElem?_eq_some_iff.mp hu).1
    have l2 := (List.getElem?_eq_some_iff.mp hu2).1
    have W := GoesN.zip2 (prog := X.prog) (w := X.w) (A := X.A) (elts := elts) (x1 := kk) (pos := tpos) D (drawsB hh b1 i1 a na its.toArray) (drawsB hh b2 i2 b nb its2.toArray)
    refine W.goes i s _ E (by simp; omega) ⟨hz, hTI, ⟨x0, y0, hTO⟩, ⟨h1, p⟩, ⟨h2, p2⟩⟩ fun v h' tk hY hst hk htk => ?_
    obtain ⟨T, v1, v2, rfl, hT0, hv1, hv2, hT⟩ := hY
    obtain ⟨z', TI', TO', ⟨h1', _⟩, ⟨h2', _⟩⟩ := hst
    have e1 : v1 = u := by
      have q1 : its.toArray[i]? = some v1 := hv1
      have q2 : its.toArray[i]? = some u := by simpa using hu
      rw [q1] at q2; exact Option.some.inj q2
    have e2 : v2 = u2 := by
      have q1 : its2.toArray[i]? = some v2 := hv2
      have q2 : its2.toArray[i]? = some u2 := by simpa using hu2
      rw [q1] at q2; exact Option.some.inj q2
    subst e1 e2
    have new : ObjOk X.prog X.w (upd H T (.tup [x, y])) h' T (.tup [x, y]) :=
      ⟨by show 2 ≤ sizeLine; decide, [v1, v2], .cons ru (.cons ru2 .nil), hT⟩
    have I1 : Inv X pins σ (upd H T (.tup [x, y])) { s with heap := h', toks := tk } :=
      I.turnedNew (t' := tk) (ch := [z, TI, TO, i1, i2]) (fun c o hb q => hk c o (fun q' => hb (by
        rcases List.mem_cons.mp q' with q' | q'
        · simp [q']
        · rcases List.mem_cons.mp q' with q' | q'
          · simp [q']
          · rcases List.mem_cons.mp q' with q' | q'
            · simp [q']
            · simp [List.mem_singleton.mp q'])) q) hf hT0 new
    refine ⟨.ref T, _, I1, rfl, ⟨_, x, y, rfl, I.hok.fresh hT0, rfl, fun l hl => by rw [invB_inj I hl hqx]; exact hx, fun l hl => by rw [invB_inj I hl hqy]; exact hy⟩, ⟨z', TI', TO', h1', h2'⟩, fun c hcm => ?_⟩
    have hlt : c < s.heap.objs.size := by
      have e' : c = z ∨ c = TI ∨ c = TO ∨ c = i1 ∨ c = i2 := by simpa using hcm
      rcases e' with q | q | q | q | q
      · rw [q]; exact hzl
      · rw [q]; exact Heap.lt_size hTI
      · rw [q]; exact Heap.lt_size hTO
      · rw [q]; obtain ⟨_, e1, _⟩ := h1.obj; exact Heap.lt_size e1
      · rw [q]; obtain ⟨_, e2, _⟩ := h2.obj; exact Heap.lt_size e2
    rw [upd_ne (Nat.ne_of_lt (Nat.lt_of_lt_of_le hlt hT0))]
    exact (hf c hcm).1
  done := by
    intro X hP hw hK hc i pins s σ H E I hf st hg
    subst hP hw hK
    obtain ⟨hz, hTI, ⟨x0, y0, hTO⟩, h1, h2⟩ := st
    obtain ⟨xs, ys, hqx, hqy, l1, l2⟩ := hg
    obtain ⟨its, rv, p, _⟩ := invB I hqx
    obtain ⟨its2, rv2, p2, _⟩ := invB I hqy
    have hh : X.A.in1.handled = none := I.ok.hd hc
    have k1 := rv.length
    have k2 := rv2.length
    have W := GoesN.zip2 (prog := X.prog) (w := X.w) (A := X.A) (elts := elts) (x1 := kk) (pos := tpos) D (drawsB hh b1 i1 a na its.toArray) (drawsB hh b2 i2 b nb its2.toArray)
    have e : min its.toArray.size its2.toArray.size = i := by simp; omega
    rw [e] at W
    refine W.stops s _ E ⟨hz, hTI, ⟨x0, y0, hTO⟩, ⟨h1, p⟩, ⟨h2, p2⟩⟩ fun h' tk hk htk => ?_
    exact I.turnedL (t' := tk) (ch := [z, TI, TO, i1, i2]) (fun c o hb q => hk c o (fun q' => hb (by
        rcases List.mem_cons.mp q' with q' | q'
        · simp [q']
        · rcases List.mem_cons.mp q' with q' | q'
          · simp [q']
          · rcases List.mem_cons.mp q' with q' | q'
            · simp [q']
            · simp [List.mem_singleton.mp q'])) q) hf
  self := fun A i s Q E st h => wpAny_pyIter_zip st.1 h
def iZip2 (K : PySem.W.Frag) (b1 b2 : Bool) (ta : TA) : TI := fun σ H R => ta σ H fun vs H1 => ∃ a b xs ys, vs = [.ref a, .ref b] ∧ SqB K b1 H1 a xs ∧ SqB K b2 H1 b ys ∧ R (Itz2 K b1 b2 a b) H1
theorem pi_zip2 (b1 b2 : Bool) {X : Cx} {e e2 : Expr} {ta : TA} {p pos tpos : Pos} {elts : List Expr} {kk : Nat} (hg : Gl X "zip") (hm : X.mg "zip" = none) (ha : PA X [e, e2] ta)
    (hs : starEach [e, e2] X.env = (false, eval e X.env) :: starEach [e2] X.env := by rfl) (hpl : (backTo pos (starEach [e2] X.env)).any (·.1) = false := by rfl) :
    PI X (.Tuple elts kk tpos) (.Call (.Name "zip" p) [e, e2] [] pos) (iZip2 X.K b1 b2 ta) := by
  refine ⟨fun pins s σ H R I h => ?_⟩
  refine Call_ (ld_blt I hg hm PyProof.Rows.boot_zip (PyProof.Rows.callWith_type1 (thn (ha.run pos pins s σ H _ I h) fun us s1 ⟨vs, H1, I1, r1, q1⟩ => ?_) hs hpl))
  obtain ⟨a, b, xs, ys, ex, hqx, hqy, q⟩ := q1
  subst ex
  cases r1 with
  | cons r rr =>
    cases rr with
    | cons r' rr =>
      cases rr
      cases r
      cases r'
      obtain ⟨its, rv, p1, la⟩ := invB I1 hqx
      obtain ⟨its2, rv2, p2, lb⟩ := invB I1 hqy
      obtain ⟨o1, B1, t1⟩ := beginsB b1 a its.toArray
      obtain ⟨o2, B2, t2⟩ := beginsB b2 b its2.toArray
      refine zip_begins2 B1 B2 p1 p2 fun h' hz hTI hTO g1 g2 hsz hk => wpAny_pyIter_zip hz ?_
      have I2 : Inv X pins σ H1 { s1 with heap := h' } := I1.kept (t' := s1.toks) hk
      refine ⟨s1.heap.objs.size + 4, [s1.heap.objs.size + 4, s1.heap.objs.size + 2, s1.heap.objs.size + 3, s1.heap.objs.size, s1.heap.objs.size + 1], _, _, H1, rfl, I2,
        turn_z2 (zip_sep2 (N := s1.heap.objs.size) (fp1 := [a]) (fp2 := [b]) (fun c hc => by rw [List.mem_singleton.mp hc]; exact la) (fun c hc => by rw [List.mem_singleton.mp hc]; exact lb)) (Nat.ne_of_lt la) (Nat.ne_of_lt (Nat.lt_succ_of_lt lb)), ⟨hz, hTI, ⟨_, _, hTO⟩, t1 _ _ g1, t2 _ _ g2⟩, fun c hcm => ?_, q⟩
      have e' : c = s1.heap.objs.size + 4 ∨ c = s1.heap.objs.size + 2 ∨ c = s1.heap.objs.size + 3 ∨ c = s1.heap.objs.size ∨ c = s1.heap.objs.size + 1 := by simpa using hcm
      have hle : s1.heap.objs.size ≤ c := by rcases e' with z | z | z | z | z <;> rw [z] <;> first | exact Nat.le_add_right _ _ | exact Nat.le_refl _
      exact I1.fpOk hle (I1.hok.fresh hle)
theorem walk_z2 {K : PySem.W.Frag} {b1 b2 : Bool} {a b : Addr} {xs ys : List V} {n : Nat} (h1 : xs.length = n) (h2 : ys.length = n) : Walk (Itz2 K b1 b2 a b) n (fun H => SqB K b1 H a xs ∧ SqB K b2 H b ys) (YPair (fun i => xs[i]?) (fun i => ys[i]?)) := by
  refine ⟨fun i _ hi q => ?_, fun _ q => ⟨xs, ys, q.1, q.2, h1, h2⟩, fun i H v H' _ q y => ?_⟩
  · exact ⟨xs, ys, xs[i], ys[i], q.1, q.2, by simp [h1, hi], by simp [h2, hi]⟩
  · obtain ⟨T, x, z, h1, h2, h3, h4, h5⟩ := y
    exact ⟨T, x, z, h1, h2, h3, h4 xs q.1, h5 ys q.2⟩
/-! ### three tuples -/
def Itz3 (K : PySem.W.Frag) (a b c : Addr) : It :=
  ⟨fun i H => ∃ (xs ys us : List V) (x y u : V), SqT K H a xs ∧ SqT K H b ys ∧ SqT K H c us ∧ xs[i]? = some x ∧ ys[i]? = some y ∧ us[i]? = some u,
    fun i H v H' => ∃ T x y u, v = .ref T ∧ H T = none ∧ H' = upd H T (.tup [x, y, u]) ∧ (∀ xs, SqT K H a xs → xs[i]? = some x) ∧ (∀ ys, SqT K H b ys → ys[i]? = some y) ∧ ∀ us, SqT K H c us → us[i]? = some u,
    fun i H => ∃ xs ys us : List V, SqT K H a xs ∧ SqT K H b ys ∧ SqT K H c us ∧ xs.length = i ∧ ys.length = i ∧ us.length = i⟩
theorem turn_z3 {P : Program} {w : World} {K : PySem.W.Frag} {elts : List Expr} {kk : Nat} {tpos : Pos} {a b c z TI TO i1 i2 i3 : Addr} (D : ZipSep3 z TI TO i1 i2 i3 [i1, a] [i2, b] [i3, c]) (na : a ≠ i1) (nb : b ≠ i2) (nc : c ≠ i3) :
    Turn P w K (.Tuple elts kk tpos) (Itz3 K a b c) [z, TI, TO, i1, i2, i3] z (fun i h => IsZip h z TI TO .none ∧ IsTupOf3 h TI (.ref i1) (.ref i2) (.ref i3) ∧ (∃ x y u, IsTupOf3 h TO x y u) ∧ h.IsTupleIter i1 a i ∧ h.IsTupleIter i2 b i ∧ h.IsTupleIter i3 c i) where
  mem := by simp
  obj := fun i h st x hc => by
    obtain ⟨hz, hTI, ⟨_, _, _, hTO⟩, ⟨o1, e1, _, d1⟩, ⟨o2, e2, _, d2⟩, ⟨o3, e3, _, d3⟩⟩ := st
    have e' : x = z ∨ x = TI ∨ x = TO ∨ x = i1 ∨ x = i2 ∨ x = i3 := by simpa using hc
    rcases e' with q | q | q | q | q | q
    · rw [q]; exact ⟨_, hz, fun v q => nomatch q⟩
    · rw [q]; exact ⟨_, hTI, fun v q => nomatch q⟩
    · rw [q]; exact ⟨_, hTO, fun v q => nomatch q⟩
    · rw [q]; exact ⟨o1, e1, fun v q => by rw [d1] at q; cases q⟩
    · rw [q]; exact ⟨o2, e2, fun v q => by rw [d2] at q; cases q⟩
    · rw [q]; exact ⟨o3, e3, fun v q => by rw [d3] at q; cases q⟩
  keep := fun i h h' st k => by
    obtain ⟨hz, hTI, ⟨x, y, u, hTO⟩, h1, h2, h3⟩ := st
    exact ⟨k z (by simp) _ hz, k TI (by simp) _ hTI, ⟨x, y, u, k TO (by simp) _ hTO⟩, h1.at fun o q => k i1 (by simp) o q, h2.at fun o q => k i2 (by simp) o q, h3.at fun o q => k i3 (by simp) o q⟩
  item := by
    intro X hP hw hK hc i pins s σ H E I hf st hg
    subst hP hw hK
    obtain ⟨hz, hTI, ⟨x0, y0, u0, hTO⟩, h1, h2, h3⟩ := st
    obtain ⟨xs, ys, us, x, y, u, hqx, hqy, hqu, hx, hy, hu⟩ := hg
    obtain ⟨its, rv, p, _⟩ := I.tuple hqx
    obtain ⟨its2, rv2, p2, _⟩ := I.tuple hqy
    obtain ⟨its3, rv3, p3, _⟩ := I.tuple hqu
    obtain ⟨r1, hr1, ru1⟩ := rv.get hx
    obtain ⟨r2, hr2, ru2⟩ := rv2.get hy
    obtain ⟨r3, hr3, ru3⟩ := rv3.get hu
    have hh : X.A.in1.handled = none := I.ok.hd hc
    have hzl : z < s.heap.objs.size := Heap.lt_size hz
    have l1 := (List.getElem?_eq_some_iff.mp hr1).1
    have l2 := (List.getElem?_eq_some_iff.mp hr2).1
    have l3 := (List.getElem?_eq_some_iff.mp hr3).1
    have W := GoesN.zip3 (prog := X.prog) (w := X.w) (A := X.A) (elts := elts) (x1 := kk) (pos := tpos) D (Draws.tuple hh i1 a na its.toArray) (Draws.tuple hh i2 b nb its2.toArray) (Draws.tuple hh i3 c nc its3.toArray)
    refine W.goes i s _ E (by simp; omega) ⟨hz, hTI, ⟨x0, y0, u0, hTO⟩, ⟨h1, p⟩, ⟨h2, p2⟩, ⟨h3, p3⟩⟩ fun v h' tk hY hst hk htk => ?_
    obtain ⟨T, v1, v2, v3, rfl, hT0, hv1, hv2, hv3, hT⟩ := hY
    obtain ⟨z', TI', TO', ⟨h1', _⟩, ⟨h2', _⟩, ⟨h3', _⟩⟩ := hst
    have e1 : v1 = r1 := by
      have q1 : its.toArray[i]? = some v1 := hv1
      have q2 : its.toArray[i]? = some r1 := by simpa using hr1
      rw [q1] at q2; exact Option.some.inj q2
    have e2 : v2 = r2 := by
      have q1 : its2.toArray[i]? = some v2 := hv2
      have q2 : its2.toArray[i]? = some r2 := by simpa using hr2
      rw [q1] at q2; exact Option.some.inj q2
    have e3 : v3 = r3 := by
      have q1 : its3.toArray[i]? = some v3 := hv3
      have q2 : its3.toArray[i]? = some r3 := by simpa using hr3
      rw [q1] at q2; exact Option.some.inj q2
    subst e1 e2 e3
    have mm : ∀ {q}, q ∈ [z, TO, i1, i2, i3] → q ∈ [z, TI, TO, i1, i2, i3] := fun {q} hq => by
      have : q = z ∨ q = TO ∨ q = i1 ∨ q = i2 ∨ q = i3 := by simpa using hq
      rcases this with e | e | e | e | e <;> simp [e]
    have new : ObjOk X.prog X.w (upd H T (.tup [x, y, u])) h' T (.tup [x, y, u]) :=
      ⟨by show 3 ≤ sizeLine; decide, [v1, v2, v3], .cons ru1 (.cons ru2 (.cons ru3 .nil)), hT⟩
    have I1 : Inv X pins σ (upd H T (.tup [x, y, u])) { s with heap := h', toks := tk } :=
      I.turnedNew (t' := tk) (ch := [z, TI, TO, i1, i2, i3]) (fun q o hb e => hk q o (fun q' => hb (mm q')) e) hf hT0 new
    refine ⟨.ref T, _, I1, rfl, ⟨_, x, y, u, rfl, I.hok.fresh hT0, rfl, fun l hl => by rw [I.tuple_inj hl hqx]; exact hx, fun l hl => by rw [I.tuple_inj hl hqy]; exact hy, fun l hl => by rw [I.tuple_inj hl hqu]; exact hu⟩, ⟨z', TI', TO', h1', h2', h3'⟩, fun q hcm => ?_⟩
    have hlt : q < s.heap.objs.size := by
      have e' : q = z ∨ q = TI ∨ q = TO ∨ q = i1 ∨ q = i2 ∨ q = i3 := by simpa using hcm
      rcases e' with q | q | q | q | q | q
      · rw [q]; exact hzl
      · rw [q]; exact Heap.lt_size hTI
      · rw [q]; exact Heap.lt_size hTO
      · rw [q]; obtain ⟨_, e1, _⟩ := h1; exact Heap.lt_size e1
      · rw [q]; obtain ⟨_, e2, _⟩ := h2; exact Heap.lt_size e2
      · rw [q]; obtain ⟨_, e3, _⟩ := h3; exact Heap.lt_size e3
    rw [upd_ne (Nat.ne_of_lt (Nat.lt_of_lt_of_le hlt hT0))]
    exact (hf q hcm).1
  done := by
    intro X hP hw hK hc i pins s σ H E I hf st hg
    subst hP hw hK
    obtain ⟨hz, hTI, ⟨x0, y0, u0, hTO⟩, h1, h2, h3⟩ := st
    obtain ⟨xs, ys, us, hqx, hqy, hqu, l1, l2, l3⟩ := hg
    obtain ⟨its, rv, p, _⟩ := I.tuple hqx
    obtain ⟨its2, rv2, p2, _⟩ := I.tuple hqy
    obtain ⟨its3, rv3, p3, _⟩ := I.tuple hqu
    have hh : X.A.in1.handled = none := I.ok.hd hc
    have k1 := rv.length
    have k2 := rv2.length
    have k3 := rv3.length
    have W := GoesN.zip3 (prog := X.prog) (w := X.w) (A := X.A) (elts := elts) (x1 := kk) (pos := tpos) D (Draws.tuple hh i1 a na its.toArray) (Draws.tuple hh i2 b nb its2.toArray) (Draws.tuple hh i3 c nc its3.toArray)
    have e : min (min its.toArray.size its2.toArray.size) its3.toArray.size = i := by simp; omega
    rw [e] at W
    have mm : ∀ {q}, q ∈ [z, TO, i1, i2, i3] → q ∈ [z, TI, TO, i1, i2, i3] := fun {q} hq => by
      have : q = z ∨ q = TO ∨ q = i1 ∨ q = i2 ∨ q = i3 := by simpa using hq
      rcases this with e | e | e | e | e <;> simp [e]
    refine W.stops s _ E ⟨hz, hTI, ⟨x0, y0, u0, hTO⟩, ⟨h1, p⟩, ⟨h2, p2⟩, ⟨h3, p3⟩⟩ fun h' tk hk htk => ?_
    exact I.turnedL (t' := tk) (ch := [z, TI, TO, i1, i2, i3]) (fun q o hb e => hk q o (fun q' => hb (mm q')) e) hf
  self := fun A i s Q E st h => wpAny_pyIter_zip st.1 h
def iZip3 (K : PySem.W.Frag) (ta : TA) : TI := fun σ H R => ta σ H fun vs H1 => ∃ a b c xs ys us, vs = [.ref a, .ref b, .ref c] ∧ SqT K H1 a xs ∧ SqT K H1 b ys ∧ SqT K H1 c us ∧ R (Itz3 K a b c) H1
theorem pi_zip3 {X : Cx} {e e2 e3 : Expr} {ta : TA} {p pos tpos : Pos} {elts : List Expr} {kk : Nat} (hg : Gl X "zip") (hm : X.mg "zip" = none) (ha : PA X [e, e2, e3] ta)
    (hs : starEach [e, e2, e3] X.env = (false, eval e X.env) :: starEach [e2, e3] X.env := by rfl) (hpl : (backTo pos (starEach [e2, e3] X.env)).any (·.1) = false := by rfl) :
    PI X (.Tuple elts kk tpos) (.Call (.Name "zip" p) [e, e2, e3] [] pos) (iZip3 X.K ta) := by
  refine ⟨fun pins s σ H R I h => ?_⟩
  refine Call_ (ld_blt I hg hm PyProof.Rows.boot_zip (PyProof.Rows.callWith_type1 (thn (ha.run pos pins s σ H _ I h) fun us s1 ⟨vs, H1, I1, r1, q1⟩ => ?_) hs hpl))
  obtain ⟨a, b, c, xs, ys, us', ex, hqx, hqy, hqu, q⟩ := q1
  subst ex
  cases r1 with
  | cons r rr =>
    cases rr with
    | cons r' rr =>
      cases rr with
      | cons r'' rr =>
        cases rr
        cases r
        cases r'
        cases r''
        obtain ⟨its, rv, p1, _⟩ := I1.tuple hqx
        obtain ⟨its2, rv2, p2, _⟩ := I1.tuple hqy
        obtain ⟨its3, rv3, p3, _⟩ := I1.tuple hqu
        obtain ⟨w1, hw1, _⟩ := id p1
        obtain ⟨w2, hw2, _⟩ := id p2
        obtain ⟨w3, hw3, _⟩ := id p3
        have la : a < s1.heap.objs.size := Heap.lt_size hw1
        have lb : b < s1.heap.objs.size := Heap.lt_size hw2
        have lc : c < s1.heap.objs.size := Heap.lt_size hw3
        refine zip_begins3 (begins_tuple a its.toArray) (begins_tuple b its2.toArray) (begins_tuple c its3.toArray) p1 p2 p3 fun h' hz hTI hTO g1 g2 g3 hsz hk => wpAny_pyIter_zip hz ?_
        have I2 : Inv X pins σ H1 { s1 with heap := h' } := I1.kept (t' := s1.toks) hk
        refine ⟨s1.heap.objs.size + 5, [s1.heap.objs.size + 5, s1.heap.objs.size + 3, s1.heap.objs.size + 4, s1.heap.objs.size, s1.heap.objs.size + 1, s1.heap.objs.size + 2], _, _, H1, rfl, I2,
          turn_z3 (zip_sep3 (N := s1.heap.objs.size) (fp1 := [a]) (fp2 := [b]) (fp3 := [c]) (fun x hc => by rw [List.mem_singleton.mp hc]; exact la) (fun x hc => by rw [List.mem_singleton.mp hc]; exact lb) (fun x hc => by rw [List.mem_singleton.mp hc]; exact lc)) (Nat.ne_of_lt la) (Nat.ne_of_lt (Nat.lt_succ_of_lt lb)) (Nat.ne_of_lt (Nat.lt_succ_of_lt (Nat.lt_succ_of_lt lc))),
          ⟨hz, hTI, ⟨_, _, _, hTO⟩, ⟨_, g1, rfl, rfl⟩, ⟨_, g2, rfl, rfl⟩, ⟨_, g3, rfl, rfl⟩⟩, fun x hcm => ?_, q⟩
        have e' : x = s1.heap.objs.size + 5 ∨ x = s1.heap.objs.size + 3 ∨ x = s1.heap.objs.size + 4 ∨ x = s1.heap.objs.size ∨ x = s1.heap.objs.size + 1 ∨ x = s1.heap.objs.size + 2 := by simpa using hcm
        have hle : s1.heap.objs.size ≤ x := by rcases e' with z | z | z | z | z | z <;> rw [z] <;> first | exact Nat.le_add_right _ _ | exact Nat.le_refl _
        exact I1.fpOk hle (I1.hok.fresh hle)
def YTrip (xs ys us : Nat → Option V) : Nat → Hp → V → Hp → Prop := fun i H v H' => ∃ T x y u, v = .ref T ∧ H T = none ∧ H' = upd H T (.tup [x, y, u]) ∧ xs i = some x ∧ ys i = some y ∧ us i = some u
theorem walk_z3 {K : PySem.W.Frag} {a b c : Addr} {xs ys us : List V} {n : Nat} (h1 : xs.length = n) (h2 : ys.length = n) (h3 : us.length = n) : Walk (Itz3 K a b c) n (fun H => SqT K H a xs ∧ SqT K H b ys ∧ SqT K H c us) (YTrip (fun i => xs[i]?) (fun i => ys[i]?) (fun i => us[i]?)) := by
  refine ⟨fun i _ hi q => ?_, fun _ q => ⟨xs, ys, us, q.1, q.2.1, q.2.2, h1, h2, h3⟩, fun i H v H' _ q y => ?_⟩
  · exact ⟨xs, ys, us, xs[i], ys[i], us[i], q.1, q.2.1, q.2.2, by simp [h1, hi], by simp [h2, hi], by simp [h3, hi]⟩
  · obtain ⟨T, x, z, u, h1, h2, h3, h4, h5, h6⟩ := y
    exact ⟨T, x, z, u, h1, h2, h3, h4 xs q.1, h5 ys q.2.1, h6 us q.2.2⟩
/-! ### stepping -/
section
variable {K : PySem.W.Frag} {σ : L2.St} {H : Hp} {tr : TA} {D : Ends} {t1 : TS} {g : TG} {a b c : Addr} {xs ys us : List V} {b1 b2 : Bool} {n : Nat}
def kForZ2 (K : PySem.W.Frag) (b1 b2 : Bool) (g : TG) (tb : TS) (D : Ends) (σ : L2.St) (vs : List V) (H1 : Hp) : Prop := tFor (iZip2 K b1 b2 (fun _ H Q => Q vs H)) g tb D σ H1
theorem g_forZ2 (q : tr σ H (kForZ2 K b1 b2 g t1 D σ)) : tFor (iZip2 K b1 b2 tr) g t1 D σ H := q
theorem g_kForZ2 (n : Nat) (hx : SqB K b1 H a xs) (hy : SqB K b2 H b ys) (l1 : xs.length = n) (l2 : ys.length = n) (Pv : Nat → L2.St → Hp → Prop) (h0 : Pv 0 σ H) (hl : ∀ i σ H, i ≤ n → Pv i σ H → SqB K b1 H a xs ∧ SqB K b2 H b ys)
    (hs : ∀ i x y σ H T H', i < n → xs[i]? = some x → ys[i]? = some y → Pv i σ H → Ex H H' → H T = none → H' T = some (.tup [x, y]) → g (.ref T) σ H' fun σ2 H2 => t1 { D with nx := Pv (i + 1), ct := Pv (i + 1), bk := D.nx } σ2 H2) (hd : ∀ σ H, Pv n σ H → D.nx σ H) : kForZ2 K b1 b2 g t1 D σ [.ref a, .ref b] H :=
  ⟨a, b, xs, ys, rfl, hx, hy, for_it (walk_z2 l1 l2) Pv h0 hl (fun i x σ H H' hi p y => by
    obtain ⟨T, u, v, rfl, hT, rfl, e1, e2⟩ := y
    exact hs i u v σ H T _ hi e1 e2 p (Ex.new hT) hT upd_same) hd⟩
def kForZ3 (K : PySem.W.Frag) (g : TG) (tb : TS) (D : Ends) (σ : L2.St) (vs : List V) (H1 : Hp) : Prop := tFor (iZip3 K (fun _ H Q => Q vs H)) g tb D σ H1
theorem g_forZ3 (q : tr σ H (kForZ3 K g t1 D σ)) : tFor (iZip3 K tr) g t1 D σ H := q
theorem g_kForZ3 (n : Nat) (hx : SqT K H a xs) (hy : SqT K H b ys) (hu : SqT K H c us) (l1 : xs.length = n) (l2 : ys.length = n) (l3 : us.length = n) (Pv : Nat → L2.St → Hp → Prop) (h0 : Pv 0 σ H) (hl : ∀ i σ H, i ≤ n → Pv i σ H → SqT K H a xs ∧ SqT K H b ys ∧ SqT K H c us)
    (hs : ∀ i x y u σ H T H', i < n → xs[i]? = some x → ys[i]? = some y → us[i]? = some u → Pv i σ H → Ex H H' → H T = none → H' T = some (.tup [x, y, u]) → g (.ref T) σ H' fun σ2 H2 => t1 { D with nx := Pv (i + 1), ct := Pv (i + 1), bk := D.nx } σ2 H2) (hd : ∀ σ H, Pv n σ H → D.nx σ H) : kForZ3 K g t1 D σ [.ref a, .ref b, .ref c] H :=
  ⟨a, b, c, xs, ys, us, rfl, hx, hy, hu, for_it (walk_z3 l1 l2 l3) Pv h0 hl (fun i x σ H H' hi p y => by
    obtain ⟨T, x, y, u, rfl, hT, rfl, e1, e2, e3⟩ := y
    exact hs i x y u σ H T _ hi e1 e2 e3 p (Ex.new hT) hT upd_same) hd⟩
end
/-! ### bytes, three stores -/
def rBix : V → V → Hp → VK → Prop := fun x y H Q => ∃ (z : List UInt8) (i : Int), x = .byt z.toArray ∧ y = .int i ∧ z.length ≤ sizeLine ∧ 0 ≤ i ∧ i < z.length ∧ Q (.int ((z.getD i.toNat 0).toNat : Nat)) H
theorem pe_bix {X : Cx} {a b : Expr} {ta tb : TE} {pos : Pos} (ha : PE X a ta) (hb : PE X b tb) (hs : PlainIxT b) : PE X (.Subscript a b pos) (tOp rBix ta tb) := pe_item_byt ha hb hs
section
variable {K : PySem.W.Frag} {H : Hp} {Q : VK}
theorem g_bix {ns : List Int} {j : Nat} {n : Int} (h8 : ∀ v ∈ ns, 0 ≤ v ∧ v < 256) (hz : ns.length ≤ 1000) (h : ns[j]? = some n) (q : Q (.int n) H) : rBix (.byt (byteArr ns)) (.int (j : Int)) H Q := by
  have hj := (List.getElem?_eq_some_iff.mp h).1
  refine ⟨ns.map fun n => n.toNat.toUInt8, j, rfl, rfl, sz1000 (by rw [List.length_map]; exact hz), by omega, by rw [List.length_map]; omega, ?_⟩
  rw [Int.toNat_natCast, byte_at (ns := ns) (fun v hv => h8 v hv) h]
  exact q
theorem g_lenB {ns : List Int} (hz : ns.length ≤ 1000) (q : Q (.int (ns.length : Int)) H) : rLen K [.byt (byteArr ns)] H Q := ⟨.byt (byteArr ns), ns.length, rfl, ⟨sz1000 (by rw [byteArr_size]; exact hz), (byteArr_size ns).symm⟩, q⟩
theorem g_extendL {l p : Addr} {xs ys : List V} (h : H l = some (.lst xs)) (hp : H p = some (.lst ys)) (z : xs.length + ys.length < sizeLine) (q : ∀ H', Exb l H H' → H' l = some (.lst (xs ++ ys)) → Q .non H') : rExtend (.ref l) [.ref p] H Q := ⟨l, p, xs, ys, rfl, rfl, h, hp, Nat.le_of_lt z, q _ Exb.upd upd_same⟩
def kPar3 (i j l : Nat) (D : Ends) (σ : L2.St) (vs : List V) (H1 : Hp) : Prop := ∃ v1 v2 v3, vs = [v1, v2, v3] ∧ D.nx (((σ.set i (some v1)).set j (some v2)).set l (some v3)) H1
theorem g_par3 {i j l : Nat} {tr : TA} {D : Ends} {σ : L2.St} (q : tr σ H (kPar3 i j l D σ)) : tPar3 i j l tr D σ H := q
theorem g_kPar3 {i j l : Nat} {D : Ends} {σ : L2.St} {x y z : V} (q : D.nx (((σ.set i (some x)).set j (some y)).set l (some z)) H) : kPar3 i j l D σ [x, y, z] H := ⟨x, y, z, rfl, q⟩
/-- bytes(list), list(bytes) -/
def rBytL (K : PySem.W.Frag) : List V → Hp → VK → Prop := fun xs H Q => ∃ p ns, xs = [.ref p] ∧ SqL K H p (ns.map V.int) ∧ B8 ns ∧ Q (.byt (byteArr ns)) H
theorem c_bytes {X : Cx} (hc : X.calm = true) : CallR X (.type "bytes") (rBytL X.K) := call_bytes_list hc
def rLstB : List V → Hp → VK → Prop := r1 kLstB
theorem c_listB {X : Cx} (hc : X.calm = true) : CallR X (.type "list") rLstB := call_r1 (rl_listB hc)
theorem g_bytL {p : Addr} {ns : List Int} (h : SqL K H p (ns.map V.int)) (h8 : ∀ v ∈ ns, 0 ≤ v ∧ v < 256) (q : Q (.byt (byteArr ns)) H) : rBytL K [.ref p] H Q := ⟨p, ns, rfl, h, fun v hv => h8 v hv, q⟩
theorem g_lstB {ns : List Int} (h8 : ∀ v ∈ ns, 0 ≤ v ∧ v < 256) (hz : ns.length ≤ 1000) (q : ∀ p H2, H p = none → Ex H H2 → H2 p = some (.lst (ns.map V.int)) → Q (.ref p) H2) : rLstB [.byt (byteArr ns)] H Q :=
  ⟨byteArr ns, rfl, sz1000 (by rw [byteArr_size]; exact hz), fun p hp => q p _ hp (Ex.new hp) (by rw [upd_same, bi_make h8])⟩
/-- data[:k] -/
theorem g_slB {ns : List Int} {k : Nat} (hk : k ≤ ns.length) (hz : ns.length ≤ 1000) (q : Q (.byt (byteArr (ns.take k))) H) : rSlB (.byt (byteArr ns)) none (some (k : Int)) H Q := by
  refine ⟨byteArr ns, rfl, by rw [byteArr_size]; omega, ?_⟩
  have : PySem.W.KBy.picked (byteArr ns) none (some (k : Int)) = byteArr (ns.take k) := by
    rw [PySem.W.KBc.picked_eq]
    show (((byteArr ns).toList.drop 0).take (clipAt (byteArr ns).size (k : Int) - 0)).toArray = _
    rw [clipAt_nat, byteArr_size, Nat.min_eq_left hk]
    unfold byteArr
    show (((ns.map _).drop 0).take (k - 0)).toArray = ((ns.take k).map _).toArray
    rw [List.drop_zero, Nat.sub_zero, List.map_take]
  rw [this]
  exact q
end
end G48
/-! texts: join, split, f-strings, signs; comprehensions over texts, zip, enumerate(list) -/
namespace G48
open PySem PySem.Spec PyProof.Rows L2 Evl
theorem len_cat (a b : PySem.Str) : (a ++ b).length = a.length + b.length := by
  have := SX.S_cat a.cps.toList b.cps.toList
  rw [SX.S_tl, SX.S_tl] at this
  rw [this, SX.S_len, List.length_append]
  rfl
def rJoin (K : PySem.W.Frag) : V → List V → Hp → VK → Prop := fun x xs H Q => ∃ a p, ∃ ys : List PySem.Str, x = .str a ∧ xs = [.ref p] ∧ (SqL K H p (ys.map V.str) ∨ SqT K H p (ys.map V.str)) ∧ (ys.map (·.length)).sum + ys.length * a.length ≤ 16777216 ∧ Q (.str (Txt.join a ys)) H
def rSplit : V → List V → Hp → VK → Prop := fun x xs H Q => ∃ a b, x = .str a ∧ xs = [.str b] ∧ (b.length == 0) = false ∧ a.length + 2 ≤ sizeLine ∧ rNewStrs (Txt.split a b) H Q
def rAddS : R2 := fun x y H Q => ∃ i j, x = .str i ∧ y = .str j ∧ i.length + j.length ≤ sizeLine ∧ Q (.str (i ++ j)) H
def rInS : R2 := fun x y H Q => ∃ i j, x = .str i ∧ y = .str j ∧ Q (.bl (!(Builtin.Str.occurrences j i 0 j.length 1).isEmpty)) H
def rIntS : List V → Hp → VK → Prop := fun xs H Q => ∃ a n, xs = [.str a] ∧ PySem.intText? a = some n ∧ a.length ≤ 640 ∧ Q (.int n) H
def tJoined (ts : List TE) : TE := fun σ H Q => tJs ts PySem.Str.empty σ H fun out H1 => Q (.str out) H1
section
variable {X : Cx}
theorem pe_joinW {o e : Expr} {to te : TE} {apos pos : Pos} (ho : PE X o to) (he : PE X e te) (hs : starEach [e] X.env = [(false, eval e X.env)] := by rfl)
    (hbase : attributeBase o "join" X.env (eval o X.env) = eval o X.env := by rfl) (hline : (apos.endLine == pos.line) = true := by rfl) : PE X (.Call (.Attribute o "join" apos) [e] [] pos) (tM1 (rJoin X.K) to te) := pe_join ho he hs hbase hline
theorem pe_splitW {o e : Expr} {to te : TE} {apos pos : Pos} (ho : PE X o to) (he : PE X e te) (hs : starEach [e] X.env = [(false, eval e X.env)] := by rfl)
    (hbase : attributeBase o "split" X.env (eval o X.env) = eval o X.env := by rfl) (hline : (apos.endLine == pos.line) = true := by rfl) : PE X (.Call (.Attribute o "split" apos) [e] [] pos) (tM1 rSplit to te) := pe_split ho he hs hbase hline
theorem op_addS : OpR X (binaryOp .Add) rAddS := op_add_str
theorem op_inS : OpR X (compareOp .In) rInS := op_in_str
theorem c_intS : CallR X (.type "int") rIntS := call_int_str
theorem pe_joinedW {v1 v2 : Expr} {rest : List Expr} {ts : List TE} {pos : Pos} (h : PJ X (v1 :: v2 :: rest) ts) : PE X (.JoinedStr (v1 :: v2 :: rest) pos) (tJoined ts) := pe_joined h
end
def kM1 (r : V → List V → Hp → VK → Prop) (te : TE) (σ : L2.St) (Q : VK) : VK := fun x H1 => (∃ a, x = .str a) ∧ te σ H1 fun y H2 => r x [y] H2 Q
def kOut (Q : VK) : PySem.Str → Hp → Prop := fun out H1 => Q (.str out) H1
def kJ (ts : List TE) (acc : PySem.Str) (σ : L2.St) (R : PySem.Str → Hp → Prop) : VK := fun x H1 => ∃ y : PySem.Str, x = .str y ∧ (acc ++ y).length ≤ sizeLine ∧ tJs ts (acc ++ y) σ H1 R
def kFmt (Q : VK) : VK := fun x H1 => (∃ y : PySem.Str, x = .str y ∧ y.length ≤ sizeLine ∧ Q (.str y) H1) ∨ ∃ i : Int, x = .int i ∧ i.natAbs.log2 < 1920 ∧ Q (.str (toString i)) H1
section
variable {K : PySem.W.Frag} {σ σ2 : L2.St} {H : Hp} {Q : VK} {to te : TE} {t : TE} {ts : List TE} {r : V → List V → Hp → VK → Prop} {a b acc y : PySem.Str} {R : PySem.Str → Hp → Prop} {p : Addr} {ys : List PySem.Str}
theorem g_m1 (q : to σ H (kM1 r te σ Q)) : tM1 r to te σ H Q := q
theorem g_kM1 (q : te σ H fun y H2 => r (.str a) [y] H2 Q) : kM1 r te σ Q (.str a) H := ⟨⟨a, rfl⟩, q⟩
theorem g_join (h : SqL K H p (ys.map V.str)) (z : (ys.map (·.length)).sum + ys.length * a.length ≤ 16777216) (q : Q (.str (Txt.join a ys)) H) : rJoin K (.str a) [.ref p] H Q := ⟨a, p, ys, rfl, rfl, .inl h, z, q⟩
theorem g_split (hb : (b.length == 0) = false) (z : a.length ≤ 900) (q : ∀ p H2, H p = none → Ex H H2 → H2 p = some (.lst ((Txt.split a b).map V.str)) → Q (.ref p) H2) : rSplit (.str a) [.str b] H Q :=
  ⟨a, b, rfl, rfl, hb, sz1000 (by omega), fun p hp => q p _ hp (Ex.new hp) upd_same⟩
theorem g_addS (z : a.length + b.length ≤ 1000) (q : Q (.str (a ++ b)) H) : rAddS (.str a) (.str b) H Q := ⟨a, b, rfl, rfl, sz1000 z, q⟩
theorem g_inS (q : Q (.bl (!(Builtin.Str.occurrences b a 0 b.length 1).isEmpty)) H) : rInS (.str a) (.str b) H Q := ⟨a, b, rfl, rfl, q⟩
theorem g_intS {n : Int} (h : PySem.intText? a = some n) (z : a.length ≤ 640) (q : Q (.int n) H) : rIntS [.str a] H Q := ⟨a, n, rfl, h, z, q⟩
theorem g_joined (q : tJs ts PySem.Str.empty σ H (kOut Q)) : tJoined ts σ H Q := q
theorem g_jcons (q : t σ H (kJ ts acc σ R)) : tJs (t :: ts) acc σ H R := q
theorem g_jnil (q : R acc H) : tJs [] acc σ H R := q
theorem g_kOut (q : Q (.str acc) H) : kOut Q acc H := q
theorem g_kJ (z : acc.length + y.length ≤ 1000) (q : tJs ts (acc ++ y) σ H R) : kJ ts acc σ R (.str y) H := ⟨y, rfl, sz1000 (by rw [len_cat]; exact z), q⟩
theorem g_fmt (q : te σ H (kFmt Q)) : tFmt te σ H Q := q
theorem g_kFmtS (z : y.length ≤ 1000) (q : Q (.str y) H) : kFmt Q (.str y) H := .inl ⟨y, rfl, sz1000 z, q⟩
theorem g_kFmtI {i : Int} (h : 0 ≤ i ∧ i < 1000) (q : Q (.str (toString i)) H) : kFmt Q (.int i) H := .inr ⟨i, rfl, by
  have h1 : i.natAbs < 2 ^ 10 := by omega
  by_cases z : i.natAbs = 0
  · rw [z]; decide
  · have := (Nat.log2_lt z).mpr h1
    omega, q⟩
end
/-! ### comprehensions -/
section
variable {K : PySem.W.Frag} {σ σ2 : L2.St} {H : Hp} {N : Hp → Prop} {te : TE} {tt : TT} {vs : List Nat} {Q : VK} {g : TG} {tr : TA} {tl : TE} {a b : Addr} {xs ys : List V} {b1 b2 : Bool}
/-- over a text -/
def kLcTx (g : TG) (tt : TT) (te : TE) (vs : List Nat) (σ : L2.St) (Q : VK) : VK := fun x H1 => tLc (iStr (tC x)) g tt te vs σ H1 Q
theorem g_lcTx (q : tl σ H (kLcTx g tt te vs σ Q)) : tLc (iStr tl) g tt te vs σ H Q := q
theorem g_kLcTx {z : PySem.Str} (Pv : Addr → Nat → Hp → Prop) (h0 : ∀ D H1, H D = none → Ex H H1 → H1 D = some (.lst []) → Pv D 0 H1)
    (hs : ∀ D (i : Nat) c H2, H D = none → z.cps[i]? = some c → Pv D i H2 → g (.str ⟨#[c]⟩) (wipe σ vs) H2 (kLcG tt te vs σ D (Pv D (i + 1))))
    (hd : ∀ D H2, H D = none → Pv D z.cps.size H2 → Q (.ref D) H2) : kLcTx g tt te vs σ Q (.str z) H :=
  ⟨z, rfl, fun D hD => lc_it walk_str (Pv D) (h0 D _ hD (Ex.new hD) upd_same) (fun i H2 hi p => trivial) (fun i x H2 H3 hi p y => by
    obtain ⟨rfl, c, hc, rfl⟩ := y
    exact hs D i c H3 hD hc p) (fun H2 p => hd D H2 hD p)⟩
/-- over zip of two -/
def kLcZ (K : PySem.W.Frag) (b1 b2 : Bool) (g : TG) (tt : TT) (te : TE) (vs : List Nat) (σ : L2.St) (Q : VK) (ws : List V) (H1 : Hp) : Prop := tLc (iZip2 K b1 b2 (fun _ H Q => Q ws H)) g tt te vs σ H1 Q
theorem g_lcZ (q : tr σ H (kLcZ K b1 b2 g tt te vs σ Q)) : tLc (iZip2 K b1 b2 tr) g tt te vs σ H Q := q
theorem g_kLcZ (n : Nat) (hx : SqB K b1 H a xs) (hy : SqB K b2 H b ys) (l1 : xs.length = n) (l2 : ys.length = n) (Pv : Addr → Nat → Hp → Prop) (h0 : ∀ D H1, H D = none → Ex H H1 → H1 D = some (.lst []) → Pv D 0 H1)
    (hl : ∀ D i H2, H D = none → i ≤ n → Pv D i H2 → SqB K b1 H2 a xs ∧ SqB K b2 H2 b ys)
    (hs : ∀ D (i : Nat) x y H2 T H3, H D = none → i < n → xs[i]? = some x → ys[i]? = some y → Pv D i H2 → Ex H2 H3 → H2 T = none → H3 T = some (.tup [x, y]) → g (.ref T) (wipe σ vs) H3 (kLcG tt te vs σ D (Pv D (i + 1))))
    (hd : ∀ D H2, H D = none → Pv D n H2 → Q (.ref D) H2) : kLcZ K b1 b2 g tt te vs σ Q [.ref a, .ref b] H :=
  ⟨a, b, xs, ys, rfl, hx, hy, fun D hD => lc_it (walk_z2 l1 l2) (Pv D) (h0 D _ hD (Ex.new hD) upd_same) (fun i H2 hi p => hl D i H2 hD hi p) (fun i x H2 H3 hi p y => by
    obtain ⟨T, u, v, rfl, hT, rfl, e1, e2⟩ := y
    exact hs D i u v H2 T _ hD hi e1 e2 p (Ex.new hT) hT upd_same) (fun H2 p => hd D H2 hD p)⟩
/-- over enumerate(list) -/
def kLcNL (K : PySem.W.Frag) (g : TG) (tt : TT) (te : TE) (vs : List Nat) (σ : L2.St) (Q : VK) (ws : List V) (H1 : Hp) : Prop := tLc (iEnum K (fun _ H Q => Q ws H)) g tt te vs σ H1 Q
theorem g_lcNL (q : tr σ H (kLcNL K g tt te vs σ Q)) : tLc (iEnum K tr) g tt te vs σ H Q := q
theorem g_kLcNL (h : SqL K H a xs) (Pv : Addr → Nat → Hp → Prop) (h0 : ∀ D H1, H D = none → Ex H H1 → H1 D = some (.lst []) → Pv D 0 H1) (hl : ∀ D i H2, H D = none → i ≤ xs.length → Pv D i H2 → SqL K H2 a xs)
    (hs : ∀ D (i : Nat) x H2 T H3, H D = none → xs[i]? = some x → Pv D i H2 → Ex H2 H3 → H2 T = none → H3 T = some (.tup [.int (i : Int), x]) → g (.ref T) (wipe σ vs) H3 (kLcG tt te vs σ D (Pv D (i + 1))))
    (hd : ∀ D H2, H D = none → Pv D xs.length H2 → Q (.ref D) H2) : kLcNL K g tt te vs σ Q [.ref a] H :=
  ⟨a, xs, rfl, h, fun D hD => lc_it walk_enum (Pv D) (h0 D _ hD (Ex.new hD) upd_same) (fun i H2 hi p => hl D i H2 hD hi p) (fun i x H2 H3 hi p y => by
    obtain ⟨T, u, v, rfl, hT, rfl, e1, e2⟩ := y
    cases e1
    exact hs D i v H2 T _ hD e2 p (Ex.new hT) hT upd_same) (fun H2 p => hd D H2 hD p)⟩
end
end G48
set_option Elab.async false
set_option linter.all false
set_option maxRecDepth 100000
set_option maxHeartbeats 4000000
/-! enumerate(zip(v, w)) -/
namespace PySem
open Sem (wp)
abbrev ZipAt (h : Heap) (z TI TO : Addr) (f0 : Value) (f1 : Bool) : Prop :=
  h.get? z = some { cls := .type "zip", dict := none, data := .fields #[f0, .bool f1, .bool false, .ref TI, .ref TO], slots := #[] }
section
variable {prog : Program} {w : World} {A : Around} {E : Value → Shared → Prop} {s : Shared} {z TI TO i1 i2 : Addr} {fp1 fp2 : List Addr} {n1 n2 i : Nat} {P1 P2 : Nat → Value → Prop} {St1 St2 : Nat → Heap → Prop} {a1 a2 : Value}
theorem g48_zip_free {f0 : Value} {f1 : Bool} {Q : Bool → Shared → Prop} (hz : ZipAt s.heap z TI TO f0 f1) (hf : f0 = .none ∨ ∃ T : Nat, f0 = rawInt T) (h1 : Q true s)
    (h2 : ∀ h', ZipAt h' z TI TO f0 true → Heap.SameBut z s.heap h' → Q false { s with heap := h' }) : wpAny (model prog w) A (Builtin.SmallTypes.ownedTupleIsFree (.ref z)) Q E s := by
  unfold Builtin.SmallTypes.ownedTupleIsFree
  rcases hf with rfl | ⟨T, rfl⟩
  · exact wpAny_bind (wpAny_field hz rfl (x := .none) rfl (wpAny_pure h1))
  · refine wpAny_bind (wpAny_field hz rfl (x := rawInt T) rfl ?_)
    show wpAny _ _ (loadIfAlive ((T : Int).toNat) >>= _) _ _ _
    rw [Int.toNat_natCast]
    have al : wpAny (model prog w) A (loadIfAlive T) (fun o s' => o = s.heap.get? T ∧ s' = s) E s := fun _ _ _ => ⟨rfl, rfl⟩
    refine wpAny_bind (wpAny_mono al (fun o s' ho => ?_) fun _ _ e => e)
    obtain ⟨rfl, rfl⟩ := ho
    cases hT : s'.heap.get? T with
    | none =>
      simp only [Option.isNone_none, if_true]
      exact wpAny_pure h1
    | some oT =>
      simp only [Option.isNone_some, Bool.false_eq_true, if_false]
      refine wpAny_bind (wpAny_field hz rfl (x := .bool f1) rfl ?_)
      cases f1 with
      | true =>
        rw [if_neg (show ¬ ((Value.bool true != Value.bool true) = true) from Bool.false_ne_true)]
        exact wpAny_pure (h2 s'.heap hz (Heap.SameBut.refl _ _))
      | false =>
        rw [if_pos (show (Value.bool false != Value.bool true) = true from rfl)]
        exact wpAny_bind (wpAny_setField_rec hz (by simp) fun h₁ hz₁ hs₁ => wpAny_pure (h2 h₁ hz₁ hs₁))
/-- next of a zip, whatever became of the tuple that it gave -/
theorem g48_zip_next {f0 : Value} {f1 : Bool} {Q : Value → Shared → Prop} (S : ZipSep2 z TI TO i1 i2 fp1 fp2) (D1 : Draws prog w A i1 fp1 n1 P1 St1) (D2 : Draws prog w A i2 fp2 n2 P2 St2)
    (hz : ZipAt s.heap z TI TO f0 f1) (hf : f0 = .none ∨ ∃ T : Nat, f0 = rawInt T) (hTI : IsTupOf2 s.heap TI (.ref i1) (.ref i2)) (hTO : IsTupOf2 s.heap TO a1 a2) (st1 : St1 i s.heap) (st2 : St2 i s.heap) (hlt1 : i < n1) (hlt2 : i < n2)
    (hQ : ∀ x1 x2 h' tk f0' f1' b1 b2, P1 i x1 → P2 i x2 → ZipAt h' z TI TO f0' f1' → (f0' = .none ∨ ∃ T : Nat, f0' = rawInt T) → IsTupOf2 h' TO b1 b2 → St1 (i + 1) h' → St2 (i + 1) h' → IsTupOf2 h' s.heap.objs.size x1 x2 → h'.objs.size = s.heap.objs.size + 1 →
      (∀ c o, c ≠ z → c ≠ TO → c ≠ i1 → c ≠ i2 → s.heap.get? c = some o → h'.get? c = some o) → Q (.ref s.heap.objs.size) { s with heap := h', toks := tk }) :
    wpAny (model prog w) A (Builtin.«zip.__next__» ⟨[.ref z], []⟩) (fun fin s' => ∃ v, fin = .done (.ret v) ∧ Q v s') E s := by
  obtain ⟨hp, g, d, tk0, os⟩ := s
  show wpAny _ _ (field (.ref z) 2 >>= _) _ _ _
  refine wpAny_bind (wpAny_field hz rfl (x := .bool false) rfl ?_)
  show wpAny _ _ (field (.ref z) 3 >>= _) _ _ _
  refine wpAny_bind (wpAny_field hz rfl (x := .ref TI) rfl ?_)
  refine wpAny_bind (wpAny_seqItems hTI rfl ?_)
  show wpAny _ _ (Builtin.SmallTypes.ownedTupleIsFree (.ref z) >>= _) _ _ _
  refine wpAny_bind (g48_zip_free hz hf ?_ fun h₁ hz₁ hs₁ => ?_)
  · simp only [if_true]
    refine wpAny_bind (wpAny_rule ?_)
    refine wpAny_bind (wpAny_field hz rfl (x := .ref TO) rfl ?_)
    refine wpAny_bind (wpAny_setField_rec hz (by simp) fun g0 hz0 hs0 => ?_)
    replace hz0 : ZipAt g0 z TI TO .ellipsis f1 := hz0
    replace hs0 : Heap.SameBut z hp g0 := hs0
    refine wpAny_bind ?_
    simp only [List.zipIdx_cons, List.zipIdx_nil, List.forIn_cons, List.forIn_nil]
    refine wpAny_bind (wpAny_bind (wpAny_onRaise ?_))
    show wpAny _ _ (Builtin.SmallTypes.nextOf (.ref i1) >>= _) _ _ ⟨g0, g, d, tk0, os⟩
    refine wpAny_bind (D1.item i _ _ _ hlt1 (D1.over st1 hs0 S.zf1) fun x1 p1 tk1 hx1 sn1 hp1 => wpAny_pure ?_)
    replace hp1 : Heap.SameBut i1 g0 p1 := hp1
    have hU1 : IsTupOf2 p1 TO a1 a2 := hp1.extBut _ _ S.Ti1 (hs0.extBut _ _ S.TOz hTO)
    refine wpAny_bind (wpAny_seqItems (s := ⟨p1, g, d, tk1, os⟩) hU1 rfl ?_)
    refine wpAny_bind (updateSeq_IsTupOf2 (s := ⟨p1, g, d, tk1, os⟩) hU1 fun g1 hT1 hs1 => ?_)
    replace hT1 : IsTupOf2 g1 TO x1 a2 := hT1
    replace hs1 : Heap.SameBut TO p1 g1 := hs1
    refine wpAny_bind (wpAny_letGo (wpAny_pure ?_))
    refine wpAny_bind (wpAny_bind (wpAny_onRaise ?_))
    show wpAny _ _ (Builtin.SmallTypes.nextOf (.ref i2) >>= _) _ _ ⟨g1, g, d, tk1, os⟩
    refine wpAny_bind (D2.item i _ _ _ hlt2 (D2.over (D2.over (D2.over st2 hs0 S.zf2) hp1 S.sep1_2) hs1 S.Tf2) fun x2 p2 tk2 hx2 sn2 hp2 => wpAny_pure ?_)
    replace hp2 : Heap.SameBut i2 g1 p2 := hp2
    have hU2 : IsTupOf2 p2 TO x1 a2 := hp2.extBut _ _ S.Ti2 hT1
    refine wpAny_bind (wpAny_seqItems (s := ⟨p2, g, d, tk2, os⟩) hU2 rfl ?_)
    refine wpAny_bind (updateSeq_IsTupOf2 (s := ⟨p2, g, d, tk2, os⟩) hU2 fun g2 hT2 hs2 => ?_)
    replace hT2 : IsTupOf2 g2 TO x1 x2 := hT2
    replace hs2 : Heap.SameBut TO p2 g2 := hs2
    refine wpAny_bind (wpAny_letGo (wpAny_pure (wpAny_pure ?_)))
    refine wpAny_bind (wpAny_seqItems (s := ⟨g2, g, d, tk2, os⟩) hT2 rfl ?_)
    refine wpAny_bind (wpAny_newTuple ?_)
    have hsz : g2.objs.size = hp.objs.size := by rw [hs2.1, hp2.1, hs1.1, hp1.1, hs0.1]
    have hzz : ZipAt g2 z TI TO .ellipsis f1 := (hs2.extBut _ _ S.TOz.symm (hp2.extBut _ _ S.zi2 (hs1.extBut _ _ S.TOz.symm (hp1.extBut _ _ S.zi1 hz0))))
    have hkk : ∀ c o, c ≠ z → c ≠ TO → c ≠ i1 → c ≠ i2 → hp.get? c = some o → g2.get? c = some o := fun c o cz cT c1 c2 e =>
      (hs2.extBut _ _ cT (hp2.extBut _ _ c2 (hs1.extBut _ _ cT (hp1.extBut _ _ c1 (hs0.extBut _ _ cz e)))))
    have hj1 : St1 (i + 1) g2 := (D1.over (D1.over (D1.over sn1 hs1 S.Tf1) hp2 S.sep2_1) hs2 S.Tf1)
    have hj2 : St2 (i + 1) g2 := (D2.over sn2 hs2 S.Tf2)
    have hzlt : z < g2.objs.size := Heap.lt_size hzz
    show wpAny _ _ (Builtin.SmallTypes.ownedTupleHandOut (.ref z) (.ref g2.objs.size) >>= _) _ _ ⟨g2.push { cls := .type "tuple", data := .seq #[x1, x2] }, g, d, tk2, os⟩
    refine wpAny_bind ?_
    unfold Builtin.SmallTypes.ownedTupleHandOut
    have hz₆ : ZipAt (g2.push { cls := .type "tuple", data := .seq #[x1, x2] }) z TI TO .ellipsis f1 := Heap.get?_push_of_some _ hzz
    refine wpAny_bind (wpAny_setField_rec hz₆ (by simp) fun h₇ hz₇ hs₇ => ?_)
    replace hz₇ : ZipAt h₇ z TI TO (rawInt g2.objs.size) f1 := hz₇
    refine wpAny_setField_rec hz₇ (by simp) fun h₈ hz₈ hs₈ => ?_
    replace hz₈ : ZipAt h₈ z TI TO (rawInt g2.objs.size) false := hz₈
    replace hs₇ : Heap.SameBut z (g2.push { cls := .type "tuple", data := .seq #[x1, x2] }) h₇ := hs₇
    replace hs₈ : Heap.SameBut z h₇ h₈ := hs₈
    have up : ∀ c o, c ≠ z → g2.get? c = some o → h₈.get? c = some o := fun c o c1 e => hs₈.extBut _ _ c1 (hs₇.extBut _ _ c1 (Heap.get?_push_of_some _ e))
    have hT₈ : IsTupOf2 h₈ g2.objs.size x1 x2 := hs₈.extBut _ _ (Nat.ne_of_gt hzlt) (hs₇.extBut _ _ (Nat.ne_of_gt hzlt) (Heap.get?_push_size _ rfl))
    have hz8 : h₈.objs.size = g2.objs.size + 1 := by rw [hs₈.1, hs₇.1, Heap.size_push]
    rw [hsz] at hz₈ hT₈ hz8
    refine wpAny_pure ⟨_, rfl, ?_⟩
    show Q (.ref g2.objs.size) ⟨h₈, g, d, tk2, os⟩
    rw [hsz]
    exact hQ x1 x2 h₈ tk2 _ _ _ _ hx1 hx2 hz₈ (.inr ⟨_, rfl⟩) (up _ _ S.TOz hT2) (D1.frame _ _ _ hj1 fun b hb o e => up b o (fun q => S.zf1 (q ▸ hb)) e) (D2.frame _ _ _ hj2 fun b hb o e => up b o (fun q => S.zf2 (q ▸ hb)) e) hT₈ hz8 fun c o cz cT c1 c2 e => up c o cz (hkk c o cz cT c1 c2 e)
  · simp only [Bool.false_eq_true, if_false]
    refine wpAny_bind ?_
    rw [← Array.forIn_toList]
    simp only [List.forIn_cons, List.forIn_nil]
    refine wpAny_bind (wpAny_bind (wpAny_holding ?_))
    show wpAny _ _ (Builtin.SmallTypes.nextOf (.ref i1) >>= _) _ _ _
    refine wpAny_bind (D1.item i _ _ _ hlt1 (D1.over st1 hs₁ S.zf1) fun x1 p1 tk1 hx1 sn1 hp1 => wpAny_pure ?_)
    replace hp1 : Heap.SameBut i1 h₁ p1 := hp1
    refine wpAny_pure ?_
    refine wpAny_bind (wpAny_bind (wpAny_holding ?_))
    show wpAny _ _ (Builtin.SmallTypes.nextOf (.ref i2) >>= _) _ _ _
    refine wpAny_bind (D2.item i _ _ _ hlt2 (D2.over (D2.over st2 hs₁ S.zf2) hp1 S.sep1_2) fun x2 p2 tk2 hx2 sn2 hp2 => wpAny_pure ?_)
    replace hp2 : Heap.SameBut i2 p1 p2 := hp2
    refine wpAny_pure (wpAny_pure ?_)
    show wpAny _ _ (newTuple [x1, x2] >>= _) _ _ _
    refine wpAny_bind (wpAny_newTuple ?_)
    have hsz : p2.objs.size = hp.objs.size := by rw [hp2.1, hp1.1, hs₁.1]
    have hzz : ZipAt p2 z TI TO f0 true := hp2.extBut _ _ S.zi2 (hp1.extBut _ _ S.zi1 hz₁)
    have hTO2 : IsTupOf2 p2 TO a1 a2 := hp2.extBut _ _ S.Ti2 (hp1.extBut _ _ S.Ti1 (hs₁.extBut _ _ S.TOz hTO))
    have hkk : ∀ c o, c ≠ z → c ≠ i1 → c ≠ i2 → hp.get? c = some o → p2.get? c = some o := fun c o c1 c2 c3 e => hp2.extBut _ _ c3 (hp1.extBut _ _ c2 (hs₁.extBut _ _ c1 e))
    have up : ∀ c o, p2.get? c = some o → (p2.push { cls := .type "tuple", data := .seq #[x1, x2] }).get? c = some o := fun c o e => Heap.get?_push_of_some _ e
    have hp5 : IsTupOf2 (p2.push { cls := .type "tuple", data := .seq #[x1, x2] }) p2.objs.size x1 x2 := Heap.get?_push_size _ rfl
    have hz4 : (p2.push { cls := .type "tuple", data := .seq #[x1, x2] }).objs.size = p2.objs.size + 1 := Heap.size_push ..
    have hj1 : St1 (i + 1) p2 := D1.over sn1 hp2 S.sep2_1
    refine wpAny_pure ⟨_, rfl, ?_⟩
    show Q (.ref p2.objs.size) _
    rw [hsz] at hp5 hz4 ⊢
    exact hQ x1 x2 _ tk2 _ _ _ _ hx1 hx2 (up _ _ hzz) hf (up _ _ hTO2) (D1.frame _ _ _ hj1 fun b _ o e => up b o e) (D2.frame _ _ _ sn2 fun b _ o e => up b o e) hp5 hz4 fun c o c1 _ c3 c4 e => up _ _ (hkk c o c1 c3 c4 e)
theorem g48_zip_end {f0 : Value} {f1 : Bool} {Q : Fin → Shared → Prop} (S : ZipSep2 z TI TO i1 i2 fp1 fp2) (D1 : Draws prog w A i1 fp1 n1 P1 St1) (D2 : Draws prog w A i2 fp2 n2 P2 St2)
    (hz : ZipAt s.heap z TI TO f0 f1) (hf : f0 = .none ∨ ∃ T : Nat, f0 = rawInt T) (hTI : IsTupOf2 s.heap TI (.ref i1) (.ref i2)) (hTO : IsTupOf2 s.heap TO a1 a2) (st1 : St1 n1 s.heap)
    (hE : ∀ h' tk e, (∀ c o, c ≠ z → c ≠ TO → c ≠ i1 → c ≠ i2 → s.heap.get? c = some o → h'.get? c = some o) → (∃ o, h'.get? e = some o ∧ o.cls = .type "StopIteration") → E (.ref e) { s with heap := h', toks := tk }) :
    wpAny (model prog w) A (Builtin.«zip.__next__» ⟨[.ref z], []⟩) Q E s := by
  obtain ⟨hp, g, d, tk0, os⟩ := s
  show wpAny _ _ (field (.ref z) 2 >>= _) _ _ _
  refine wpAny_bind (wpAny_field hz rfl (x := .bool false) rfl ?_)
  show wpAny _ _ (field (.ref z) 3 >>= _) _ _ _
  refine wpAny_bind (wpAny_field hz rfl (x := .ref TI) rfl ?_)
  refine wpAny_bind (wpAny_seqItems hTI rfl ?_)
  show wpAny _ _ (Builtin.SmallTypes.ownedTupleIsFree (.ref z) >>= _) _ _ _
  refine wpAny_bind (g48_zip_free hz hf ?_ fun h₁ hz₁ hs₁ => ?_)
  · simp only [if_true]
    refine wpAny_bind (wpAny_rule ?_)
    refine wpAny_bind (wpAny_field hz rfl (x := .ref TO) rfl ?_)
    refine wpAny_bind (wpAny_setField_rec hz (by simp) fun g0 hz0 hs0 => ?_)
    replace hz0 : ZipAt g0 z TI TO .ellipsis f1 := hz0
    replace hs0 : Heap.SameBut z hp g0 := hs0
    refine wpAny_bind ?_
    simp only [List.zipIdx_cons, List.zipIdx_nil, List.forIn_cons, List.forIn_nil]
    refine wpAny_bind (wpAny_bind (wpAny_onRaise ?_))
    show wpAny _ _ (Builtin.SmallTypes.nextOf (.ref i1) >>= _) _ _ ⟨g0, g, d, tk0, os⟩
    refine wpAny_bind (D1.done ⟨g0, g, d, tk0, os⟩ _ _ (D1.over st1 hs0 S.zf1) fun q e hq he => ?_)
    replace hq : Heap.ExtBut i1 g0 q := hq
    obtain ⟨oe, hoe, hce⟩ := he
    replace hoe : q.get? e = some oe := hoe
    have hzq : ZipAt q z TI TO .ellipsis f1 := hq _ _ S.zi1 hz0
    have hez : e ≠ z := fun x => by subst x; rw [hzq] at hoe; cases hoe; simp at hce
    refine wpAny_setField_rec (s := ⟨q, g, d, tk0, os⟩) hzq (by simp) fun q' _ hq' => ?_
    replace hq' : Heap.SameBut z q q' := hq'
    exact hE q' tk0 e (fun c o cz cT c1 c2 x => hq'.extBut _ _ cz (hq _ _ c1 (hs0.extBut _ _ cz x))) ⟨oe, hq'.extBut _ _ hez hoe, hce⟩
  · simp only [Bool.false_eq_true, if_false]
    refine wpAny_bind ?_
    rw [← Array.forIn_toList]
    simp only [List.forIn_cons, List.forIn_nil]
    refine wpAny_bind (wpAny_bind (wpAny_holding ?_))
    show wpAny _ _ (Builtin.SmallTypes.nextOf (.ref i1) >>= _) _ _ _
    refine wpAny_bind (D1.done _ _ _ (D1.over st1 hs₁ S.zf1) fun q e hq he => ?_)
    exact hE q _ e (fun c o cz _ c1 _ x => hq _ _ c1 (hs₁.extBut _ _ cz x)) he
end
end PySem
namespace PySem
section
variable {prog : Program} {w : World} {A : Around} {E : Value → Shared → Prop} {s : Shared} {e z TI TO i1 i2 : Addr} {fp1 fp2 : List Addr} {n1 n2 i : Nat} {P1 P2 : Nat → Value → Prop} {St1 St2 : Nat → Heap → Prop} {a1 a2 : Value}
theorem g48_nextOf_zip {f0 : Value} {f1 : Bool} {Q : Value → Shared → Prop} (hz : ZipAt s.heap z TI TO f0 f1)
    (h : wpAny (model prog w) A.in1 (Builtin.«zip.__next__» ⟨[.ref z], []⟩) (fun fin s' => ∃ v, fin = .done (.ret v) ∧ Q v s') E s) : wpAny (model prog w) A (Builtin.SmallTypes.nextOf (.ref z)) Q E s := by
  have hT : s.TypeIs (.ref z) "zip" := ⟨_, hz, rfl⟩
  unfold Builtin.SmallTypes.nextOf
  refine wpAny_bind (wpAny_callSpecial?_slot (name := Str.ofString "__next__") hT F.slot_zip_next (wpAny_call_entry F.slot_zip_next hT F.entry_zip_next ?_ (F.args_zip_next_1 _)))
  exact wpAny_mono h (fun fin s' ⟨v, e, q⟩ => ⟨v, e, wpAny_pure q⟩) fun _ _ x => x
theorem g48_enumz_next {c : Int} {old : Value} {f0 : Value} {f1 : Bool} {Q : Value → Shared → Prop} (S : ZipSep2 z TI TO i1 i2 fp1 fp2) (D1 : Draws prog w A.in1 i1 fp1 n1 P1 St1) (D2 : Draws prog w A.in1 i2 fp2 n2 P2 St2)
    (he : IsEnum s.heap e z c old) (nez : e ≠ z) (neT : e ≠ TO) (ne1 : e ∉ fp1) (ne2 : e ∉ fp2)
    (hz : ZipAt s.heap z TI TO f0 f1) (hf : f0 = .none ∨ ∃ T : Nat, f0 = rawInt T) (hTI : IsTupOf2 s.heap TI (.ref i1) (.ref i2)) (neI : TI ≠ e) (hTO : IsTupOf2 s.heap TO a1 a2) (st1 : St1 i s.heap) (st2 : St2 i s.heap) (hlt1 : i < n1) (hlt2 : i < n2)
    (hQ : ∀ x1 x2 h' tk f0' f1' b1 b2, P1 i x1 → P2 i x2 → IsEnumOut h' e z (c + 1) (.ref s.heap.objs.size) (s.heap.objs.size + 1) → ZipAt h' z TI TO f0' f1' → (f0' = .none ∨ ∃ T : Nat, f0' = rawInt T) → IsTupOf2 h' TO b1 b2 → St1 (i + 1) h' → St2 (i + 1) h' →
      IsTupOf2 h' s.heap.objs.size x1 x2 → h'.get? (s.heap.objs.size + 1) = some { cls := .type "tuple", data := .seq #[.int c tk, .ref s.heap.objs.size] } →
      (∀ b o, b ≠ e → b ≠ z → b ≠ TO → b ≠ i1 → b ≠ i2 → s.heap.get? b = some o → h'.get? b = some o) → Q (.ref (s.heap.objs.size + 1)) { s with heap := h', toks := tk + 1 }) :
    wpAny (model prog w) A (Builtin.«enumerate.__next__» ⟨[.ref e], []⟩) (fun fin s' => ∃ v, fin = .done (.ret v) ∧ Q v s') E s := by
  obtain ⟨hp, g, d, tk0, os⟩ := s
  show wpAny _ _ (field (.ref e) 2 >>= _) _ _ _
  refine wpAny_bind (wpAny_field he rfl (x := .ref z) rfl ?_)
  refine wpAny_bind (g48_nextOf_zip hz (g48_zip_next S D1 D2 hz hf hTI hTO st1 st2 hlt1 hlt2 fun x1 x2 h₁ tk f0' f1' b1 b2 hx1 hx2 hz₁ hf₁ hTO₁ hs1 hs2 hT₁ hsz₁ hk₁ => ?_))
  have hel : e < hp.objs.size := Heap.lt_size he
  have nei1 : e ≠ i1 := fun q => ne1 (q ▸ S.mem1)
  have nei2 : e ≠ i2 := fun q => ne2 (q ▸ S.mem2)
  have hzl : z < hp.objs.size := Heap.lt_size hz
  have hTl : TO < hp.objs.size := Heap.lt_size hTO
  have he₁ : IsEnum h₁ e z c old := hk₁ _ _ nez neT nei1 nei2 he
  show wpAny _ _ (field (.ref e) 3 >>= _) _ _ ⟨h₁, g, d, tk, os⟩
  refine wpAny_bind (wpAny_field he₁ rfl (x := rawInt c) rfl ?_)
  show wpAny _ _ (field (.ref e) 4 >>= _) _ _ ⟨h₁, g, d, tk, os⟩
  refine wpAny_bind (wpAny_field he₁ rfl (x := .none) rfl ?_)
  show wpAny _ _ (mkInt c >>= _) _ _ ⟨h₁, g, d, tk, os⟩
  refine wpAny_bind (wpAny_mkInt ?_)
  show wpAny _ _ (setField (.ref e) 3 (rawInt (c + 1)) >>= _) _ _ ⟨h₁, g, d, tk + 1, os⟩
  refine wpAny_bind (wpAny_setField_rec he₁ (by simp) fun h₂ he₂ hs₂ => ?_)
  replace hs₂ : Heap.SameBut e h₁ h₂ := hs₂
  replace he₂ : IsEnum h₂ e z (c + 1) old := he₂
  show wpAny _ _ (setField (.ref e) 4 .none >>= _) _ _ ⟨h₂, g, d, tk + 1, os⟩
  refine wpAny_bind (wpAny_setField_rec he₂ (by simp) fun h₃ he₃ hs₃ => ?_)
  replace hs₃ : Heap.SameBut e h₂ h₃ := hs₃
  replace he₃ : IsEnum h₃ e z (c + 1) old := he₃
  show wpAny _ _ (newTuple [.int c tk, .ref hp.objs.size] >>= _) _ _ ⟨h₃, g, d, tk + 1, os⟩
  refine wpAny_bind (wpAny_newTuple ?_)
  have he₄ : IsEnum (h₃.push { cls := .type "tuple", data := .seq #[.int c tk, .ref hp.objs.size] }) e z (c + 1) old := Heap.get?_push_of_some _ he₃
  generalize hh₄ : h₃.push { cls := .type "tuple", data := .seq #[.int c tk, .ref hp.objs.size] } = h₄ at he₄
  have hsz : h₃.objs.size = hp.objs.size + 1 := by rw [hs₃.1, hs₂.1]; exact hsz₁
  have ht₄ : h₄.get? (hp.objs.size + 1) = some { cls := .type "tuple", data := .seq #[.int c tk, .ref hp.objs.size] } := by rw [← hh₄, ← hsz]; exact Heap.get?_push_size _ rfl
  have up₄ : ∀ b o, b ≠ e → h₁.get? b = some o → h₄.get? b = some o := fun b o hbe hb => by
    rw [← hh₄]; exact Heap.get?_push_of_some _ (hs₃.extBut b o hbe (hs₂.extBut b o hbe hb))
  show wpAny _ _ (Builtin.SmallTypes.ownedTupleIsFree (.ref e) >>= _) _ _ ⟨h₄, g, d, tk + 1, os⟩
  rw [hsz]
  refine wpAny_bind ?_
  · unfold Builtin.SmallTypes.ownedTupleIsFree
    refine wpAny_bind (wpAny_field he₄ rfl (x := .none) rfl (wpAny_pure ?_))
    simp only [if_true]
    refine wpAny_bind (wpAny_rule ?_)
    refine wpAny_bind (wpAny_field he₄ rfl (x := old) rfl ?_)
    refine wpAny_bind (wpAny_setField_rec he₄ (by simp) fun h₅ he₅ hs₅ => ?_)
    replace hs₅ : Heap.SameBut e h₄ h₅ := hs₅
    replace he₅ : IsEnum h₅ e z (c + 1) (.ref hp.objs.size) := he₅
    show wpAny _ _ (Builtin.SmallTypes.ownedTupleHandOut (.ref e) (.ref (hp.objs.size + 1)) >>= _) _ _ ⟨h₅, g, d, tk + 1, os⟩
    refine wpAny_bind ?_
    · unfold Builtin.SmallTypes.ownedTupleHandOut
      refine wpAny_bind (wpAny_setField_rec he₅ (by simp) fun h₆ he₆ hs₆ => ?_)
      replace hs₆ : Heap.SameBut e h₅ h₆ := hs₆
      replace he₆ : IsEnumOut h₆ e z (c + 1) (.ref hp.objs.size) (hp.objs.size + 1) := he₆
      refine wpAny_setField_rec he₆ (by simp) fun h₇ he₇ hs₇ => ?_
      replace hs₇ : Heap.SameBut e h₆ h₇ := hs₇
      replace he₇ : IsEnumOut h₇ e z (c + 1) (.ref hp.objs.size) (hp.objs.size + 1) := he₇
      have up : ∀ b o, b ≠ e → h₄.get? b = some o → h₇.get? b = some o := fun b o hbe hb => hs₇.extBut b o hbe (hs₆.extBut b o hbe (hs₅.extBut b o hbe hb))
      have up1 : ∀ b o, b ≠ e → h₁.get? b = some o → h₇.get? b = some o := fun b o hbe hb => up b o hbe (up₄ b o hbe hb)
      exact wpAny_bind (wpAny_letGo (wpAny_pure ⟨_, rfl, hQ x1 x2 h₇ tk f0' f1' b1 b2 hx1 hx2 he₇ (up1 _ _ (Ne.symm nez) hz₁) hf₁ (up1 _ _ (Ne.symm neT) hTO₁)
        (D1.frame _ _ _ hs1 fun b hb o y => up1 b o (fun q => ne1 (q ▸ hb)) y) (D2.frame _ _ _ hs2 fun b hb o y => up1 b o (fun q => ne2 (q ▸ hb)) y)
        (up1 _ _ (Nat.ne_of_gt hel) hT₁) (up _ _ (Nat.ne_of_gt (Nat.lt_succ_of_lt hel)) ht₄) fun b o b1 b2 b3 b4 b5 y => up1 b o b1 (hk₁ b o b2 b3 b4 b5 y)⟩))
end
end PySem
namespace PySem
section
variable {prog : Program} {w : World} {A : Around} {E : Value → Shared → Prop} {s : Shared} {e z TI TO i1 i2 : Addr} {fp1 fp2 : List Addr} {n1 n2 i : Nat} {P1 P2 : Nat → Value → Prop} {St1 St2 : Nat → Heap → Prop} {a1 a2 : Value}
theorem g48_enumz_pyNext {c : Int} {old : Value} {f0 : Value} {f1 : Bool} {Q : Option Value → Shared → Prop} (S : ZipSep2 z TI TO i1 i2 fp1 fp2) (D1 : Draws prog w A.in1.in1 i1 fp1 n1 P1 St1) (D2 : Draws prog w A.in1.in1 i2 fp2 n2 P2 St2)
    (he : IsEnum s.heap e z c old) (nez : e ≠ z) (neT : e ≠ TO) (ne1 : e ∉ fp1) (ne2 : e ∉ fp2)
    (hz : ZipAt s.heap z TI TO f0 f1) (hf : f0 = .none ∨ ∃ T : Nat, f0 = rawInt T) (hTI : IsTupOf2 s.heap TI (.ref i1) (.ref i2)) (neI : TI ≠ e) (hTO : IsTupOf2 s.heap TO a1 a2) (st1 : St1 i s.heap) (st2 : St2 i s.heap) (hlt1 : i < n1) (hlt2 : i < n2)
    (hQ : ∀ x1 x2 h' tk f0' f1' b1 b2, P1 i x1 → P2 i x2 → IsEnumOut h' e z (c + 1) (.ref s.heap.objs.size) (s.heap.objs.size + 1) → ZipAt h' z TI TO f0' f1' → (f0' = .none ∨ ∃ T : Nat, f0' = rawInt T) → IsTupOf2 h' TO b1 b2 → St1 (i + 1) h' → St2 (i + 1) h' →
      IsTupOf2 h' s.heap.objs.size x1 x2 → h'.get? (s.heap.objs.size + 1) = some { cls := .type "tuple", data := .seq #[.int c tk, .ref s.heap.objs.size] } →
      (∀ b o, b ≠ e → b ≠ z → b ≠ TO → b ≠ i1 → b ≠ i2 → s.heap.get? b = some o → h'.get? b = some o) → Q (some (.ref (s.heap.objs.size + 1))) { s with heap := h', toks := tk + 1 }) :
    wpAny (model prog w) A (pyNext (.ref e)) Q E s := by
  have hT : s.TypeIs (.ref e) "enumerate" := ⟨_, he, rfl⟩
  unfold pyNext
  exact wpAny_bind (wpAny_attempt (wpAny_callSpecial?_slot (name := Str.ofString "__next__") hT F.slot_enumerate_next
    (wpAny_call_entry F.slot_enumerate_next hT F.entry_enumerate_next
      (g48_enumz_next S D1 D2 he nez neT ne1 ne2 hz hf hTI neI hTO st1 st2 hlt1 hlt2 fun x1 x2 h' tk f0' f1' b1 b2 q1 q2 q3 q4 q5 q6 q7 q8 q9 q10 q11 => wpAny_pure (hQ x1 x2 h' tk f0' f1' b1 b2 q1 q2 q3 q4 q5 q6 q7 q8 q9 q10 q11)) (F.args_enumerate_next_1 _))))
theorem g48_enumz_pyEnd {c : Int} {old : Value} {f0 : Value} {f1 : Bool} {Q : Option Value → Shared → Prop} (S : ZipSep2 z TI TO i1 i2 fp1 fp2) (D1 : Draws prog w A.in1.in1 i1 fp1 n1 P1 St1) (D2 : Draws prog w A.in1.in1 i2 fp2 n2 P2 St2)
    (he : IsEnum s.heap e z c old) (hz : ZipAt s.heap z TI TO f0 f1) (hf : f0 = .none ∨ ∃ T : Nat, f0 = rawInt T) (hTI : IsTupOf2 s.heap TI (.ref i1) (.ref i2)) (hTO : IsTupOf2 s.heap TO a1 a2) (st1 : St1 n1 s.heap)
    (hQ : ∀ h' tk, (∀ c o, c ≠ z → c ≠ TO → c ≠ i1 → c ≠ i2 → s.heap.get? c = some o → h'.get? c = some o) → Q none { s with heap := h', toks := tk }) :
    wpAny (model prog w) A (pyNext (.ref e)) Q E s := by
  have hT : s.TypeIs (.ref e) "enumerate" := ⟨_, he, rfl⟩
  have hTz : s.TypeIs (.ref z) "zip" := ⟨_, hz, rfl⟩
  unfold pyNext
  refine wpAny_bind (wpAny_attempt (wpAny_callSpecial?_slot (name := Str.ofString "__next__") hT F.slot_enumerate_next
    (wpAny_call_entry F.slot_enumerate_next hT F.entry_enumerate_next ?_ (F.args_enumerate_next_1 _))))
  show wpAny _ _ (field (.ref e) 2 >>= _) _ _ _
  refine wpAny_bind (wpAny_field he rfl (x := .ref z) rfl ?_)
  refine wpAny_bind ?_
  unfold Builtin.SmallTypes.nextOf
  refine wpAny_bind (wpAny_callSpecial?_slot (name := Str.ofString "__next__") hTz F.slot_zip_next (wpAny_call_entry F.slot_zip_next hTz F.entry_zip_next ?_ (F.args_zip_next_1 _)))
  refine g48_zip_end S D1 D2 hz hf hTI hTO st1 fun h' tk x hk hx => ?_
  obtain ⟨o, ho, hc⟩ := hx
  refine wpAny_bind (wpAny_isInstance (T := "StopIteration") (b := true) ⟨o, ho, hc⟩ isSubtype_stop ?_)
  exact wpAny_pure (hQ _ _ hk)
end
open AutoSeq1 (wpAny_loadPart')
set_option maxHeartbeats 8000000 in
theorem g48_enum_newS {z : Addr} {H : Heap → Prop} (B : ∀ (prog : Program) (w : World) (A : Around) (E : Value → Shared → Prop) (s : Shared) (Q : Value → Shared → Prop), H s.heap → Q (.ref z) s → wpAny (model prog w) A (pyIter (.ref z)) Q E s) :
    Meets (Builtin.«enumerate.__new__» ⟨[.type "enumerate", .ref z], []⟩) (fun _ R s => H s.heap ∧
      R (.ok (.ret (.ref s.heap.objs.size))) { s with heap := s.heap.push { cls := .type "enumerate", data := .fields #[.none, .bool false, .ref z, rawInt 0, .none, .none] } }) :=
  .of_wp fun prog w A R s h => by
    obtain ⟨hp, g, d, tk, os⟩ := s; obtain ⟨h1, h⟩ := h
    have hsub := sub_enumerate
    have q1 : ∀ {A' : Around} {E : Value → Shared → Prop} {Q : Value → Shared → Prop}, Q (.ref z) ⟨hp, g, d, tk, os⟩ → wpAny (model prog w) A' (pyIter (.ref z)) Q E ⟨hp, g, d, tk, os⟩ :=
      fun q => B prog w _ _ ⟨hp, g, d, tk, os⟩ _ h1 q
    wp_walk using q1
    refine wpAny_stack_any fun st => wpAny_pure ?_
    split
    · rename_i c _ _ _ _ _
      cases (c == Value.type "enumerate")
      · wp_walk using q1
        exact ⟨_, rfl, h⟩
      · wp_walk using q1
        exact ⟨_, rfl, h⟩
    · wp_walk using q1
      exact ⟨_, rfl, h⟩
section
variable {prog : Program} {w : World} {A : Around} {E : Value → Shared → Prop} {s : Shared}
theorem g48_call_enumS {z : Addr} {H : Heap → Prop} {Q : Value → Shared → Prop} (B : ∀ (prog : Program) (w : World) (A : Around) (E : Value → Shared → Prop) (s : Shared) (Q : Value → Shared → Prop), H s.heap → Q (.ref z) s → wpAny (model prog w) A (pyIter (.ref z)) Q E s) (h1 : H s.heap)
    (h : ∀ h', IsEnum h' s.heap.objs.size z 0 .none → h'.objs.size = s.heap.objs.size + 1 → (∀ b o, s.heap.get? b = some o → h'.get? b = some o) → Q (.ref s.heap.objs.size) { s with heap := h' }) :
    wpAny (model prog w) A (call (.type "enumerate") [.ref z]) Q E s := by
  refine callType_new F.called_enumerate (by decide) (F.typeCall_enumerate_1 _) (F.newCall_enumerate_1 _) (fun obj => F.args_object_init_2 obj _) F.entry_enumerate_new
    (g48_enum_newS B) ⟨h1, ?_⟩
  have he : IsEnum (s.heap.push { cls := .type "enumerate", data := .fields #[.none, .bool false, .ref z, rawInt 0, .none, .none] }) s.heap.objs.size z 0 .none := Heap.get?_push_size _ rfl
  exact ⟨⟨_, he, rfl⟩, h _ he (Heap.size_push ..) fun b o x => Heap.get?_push_of_some _ x⟩
end
end PySem
namespace L2
open PySem PySem.Spec PyProof.Rows
theorem Inv.turnedNew2 {X : Cx} {pins : List (Addr × Obj)} {σ : L2.St} {H : Hp} {s : Shared} {h' : Heap} {t' : Nat} {ch : List Addr} {T0 T : Addr} {o0 ob : HO} (I : Inv X pins σ H s) (k : ∀ b o, b ∉ ch → s.heap.get? b = some o → h'.get? b = some o) (hf : ∀ b ∈ ch, FpOk X pins H b)
    (hT0 : s.heap.objs.size ≤ T0) (hT : s.heap.objs.size ≤ T) (ne : T ≠ T0) (new0 : ObjOk X.prog X.w (upd (upd H T0 o0) T ob) h' T0 o0) (new : ObjOk X.prog X.w (upd (upd H T0 o0) T ob) h' T ob) : Inv X pins σ (upd (upd H T0 o0) T ob) { s with heap := h', toks := t' } := by
  have hn : H T = none := I.hok.fresh hT
  have hn0 : H T0 = none := I.hok.fresh hT0
  have nit : ∀ b u, H b = some u → b ∉ ch := fun b u e z => by
    have q := (hf b z).1
    rw [q] at e; cases e
  have un : ∀ b, b ≠ T → b ≠ T0 → (upd (upd H T0 o0) T ob) b = H b := fun b h1 h2 => by rw [upd_ne h1, upd_ne h2]
  refine I.step (g' := s.gens) (d' := s.drawn) (ch := ch) (fun b hb => ⟨(hf b hb).2.2.2.1, (hf b hb).2.1, (hf b hb).2.2.2.2.1, (hf b hb).2.2.2.2.2⟩) (fun b o _ _ hc e _ => k b o hc e) (fun b o _ _ hc e _ => ⟨o.slots, k b o hc e⟩)
    (fun b o _ e n => ?_) (fun b o hc e => ⟨o, k b o hc e⟩) (fun b xs e => ?_) (fun b o u e => ?_) (fun b ps e => ⟨#[], ?_⟩) (fun m hm => ?_) (fun b u e => ?_) I.bare
  · rw [un b (Nat.ne_of_lt (Nat.lt_of_lt_of_le (Heap.lt_size e) hT)) (Nat.ne_of_lt (Nat.lt_of_lt_of_le (Heap.lt_size e) hT0))]; exact n
  · rw [un b (ne_of_none e hn) (ne_of_none e hn0)]; exact e
  · rw [un b (ne_of_none e hn) (ne_of_none e hn0)]; exact e
  · rw [un b (ne_of_none e hn) (ne_of_none e hn0), e]; simp
  · obtain ⟨o, es, ep, ho, r⟩ := hm
    exact ⟨o, es, ep, k _ o (fun z => (hf _ z).2.1 rfl) ho, r⟩
  · by_cases hb : b = T
    · subst hb
      rw [upd_same] at e
      cases e
      exact new
    · rw [upd_ne hb] at e
      by_cases hb0 : b = T0
      · subst hb0
        rw [upd_same] at e
        cases e
        exact new0
      · rw [upd_ne hb0] at e
        refine (I.hok b u e).stay (fun c v hc q => k c v ?_ q) (fun c q => by rw [un c (ne_of_none q hn) (ne_of_none q hn0)]; exact q) fun c xs q => by rw [un c (ne_of_none q hn) (ne_of_none q hn0)]; exact q
        rcases hc with z | z
        · rw [z]; exact nit b u e
        · exact nit c _ z
end L2
namespace G48
open PySem PySem.Spec PyProof.Rows L2 Evl
def Itez (K : PySem.W.Frag) (b1 b2 : Bool) (a b : Addr) : It :=
  ⟨fun i H => ∃ (xs ys : List V) (x y : V), SqB K b1 H a xs ∧ SqB K b2 H b ys ∧ xs[i]? = some x ∧ ys[i]? = some y,
    fun i H v H' => ∃ T T0 x y, v = .ref T ∧ H T = none ∧ H T0 = none ∧ T ≠ T0 ∧ H' = upd (upd H T0 (.tup [x, y])) T (.tup [.int (i : Nat), .ref T0]) ∧ (∀ xs, SqB K b1 H a xs → xs[i]? = some x) ∧ ∀ ys, SqB K b2 H b ys → ys[i]? = some y,
    fun i H => ∃ xs ys : List V, SqB K b1 H a xs ∧ SqB K b2 H b ys ∧ xs.length = i ∧ ys.length = i⟩
set_option maxHeartbeats 8000000 in
theorem turn_ez {P : Program} {w : World} {K : PySem.W.Frag} {elts : List Expr} {kk : Nat} {tpos : Pos} {b1 b2 : Bool} {a b e z TI TO i1 i2 : Addr} (D : ZipSep2 z TI TO i1 i2 [i1, a] [i2, b]) (na : a ≠ i1) (nb : b ≠ i2)
    (nez : e ≠ z) (neT : e ≠ TO) (neI : TI ≠ e) (ne1 : e ∉ [i1, a]) (ne2 : e ∉ [i2, b]) :
    Turn P w K (.Tuple elts kk tpos) (Itez K b1 b2 a b) [e, z, TI, TO, i1, i2] e (fun i h => (∃ old, IsEnum h e z ((i : Nat) : Int) old) ∧ (∃ f0 f1, ZipAt h z TI TO f0 f1 ∧ (f0 = .none ∨ ∃ T : Nat, f0 = rawInt T)) ∧ IsTupOf2 h TI (.ref i1) (.ref i2) ∧ (∃ x y, IsTupOf2 h TO x y) ∧ IterB b1 h i1 a i ∧ IterB b2 h i2 b i) where
  mem := by simp
  obj := fun i h st c hc => by
    obtain ⟨⟨_, he⟩, ⟨_, _, hz, _⟩, hTI, ⟨x, y, hTO⟩, h1, h2⟩ := st
    have e' : c = e ∨ c = z ∨ c = TI ∨ c = TO ∨ c = i1 ∨ c = i2 := by simpa using hc
    rcases e' with q | q | q | q | q | q
    · rw [q]; exact ⟨_, he, fun v q => nomatch q⟩
    · rw [q]; exact ⟨_, hz, fun v q => nomatch q⟩
    · rw [q]; exact ⟨_, hTI, fun v q => nomatch q⟩
    · rw [q]; exact ⟨_, hTO, fun v q => nomatch q⟩
    · rw [q]; exact h1.obj
    · rw [q]; exact h2.obj
  keep := fun i h h' st k => by
    obtain ⟨⟨old, he⟩, ⟨f0, f1, hz, hf⟩, hTI, ⟨x, y, hTO⟩, h1, h2⟩ := st
    exact ⟨⟨old, k e (by simp) _ he⟩, ⟨f0, f1, k z (by simp) _ hz, hf⟩, k TI (by simp) _ hTI, ⟨x, y, k TO (by simp) _ hTO⟩, h1.at fun o q => k i1 (by simp) o q, h2.at fun o q => k i2 (by simp) o q⟩
  item := by
    intro X hP hw hK hc i pins s σ H E I hf st hg
    subst hP hw hK
    obtain ⟨⟨old, he⟩, ⟨f0, f1, hz, hzf⟩, hTI, ⟨x0, y0, hTO⟩, h1, h2⟩ := st
    obtain ⟨xs, ys, x, y, hqx, hqy, hx, hy⟩ := hg
    obtain ⟨its, rv, p, _⟩ := invB I hqx
    obtain ⟨its2, rv2, p2, _⟩ := invB I hqy
    obtain ⟨u, hu, ru⟩ := rv.get hx
    obtain ⟨u2, hu2, ru2⟩ := rv2.get hy
    have hh : X.A.in1.in1.handled = none := I.ok.hd hc
    have l1 := (List.getElem?_eq_some_iff.mp hu).1
    have l2 := (List.getElem?_eq_some_iff.mp hu2).1
    refine g48_enumz_pyNext D (drawsB hh b1 i1 a na its.toArray) (drawsB hh b2 i2 b nb its2.toArray) he nez neT ne1 ne2 hz hzf hTI neI hTO ⟨h1, p⟩ ⟨h2, p2⟩ (by simp; omega) (by simp; omega)
      fun v1 v2 h' tk f0' f1' c1 c2 hv1 hv2 he' hz' hzf' hTO' hst1 hst2 hT0 hT hk => ?_
    have e1 : v1 = u := by
      have q1 : its.toArray[i]? = some v1 := hv1
      have q2 : its.toArray[i]? = some u := by simpa using hu
      rw [q1] at q2; exact Option.some.inj q2
    have e2 : v2 = u2 := by
      have q1 : its2.toArray[i]? = some v2 := hv2
      have q2 : its2.toArray[i]? = some u2 := by simpa using hu2
      rw [q1] at q2; exact Option.some.inj q2
    subst e1 e2
    refine ⟨_, rfl, wpAny_letOwnedTupleGo_enum (s := { s with heap := h', toks := tk + 1 }) he' fun h'' he'' sb => ?_⟩
    have hel : e < s.heap.objs.size := Heap.lt_size he
    have sb2 : ∀ c o, c ≠ e → h'.get? c = some o → h''.get? c = some o := fun c o hc q => (sb.2 c hc).trans q
    have hT0' := sb2 _ _ (Nat.ne_of_gt hel) hT0
    have hT' := sb2 _ _ (Nat.ne_of_gt (Nat.lt_succ_of_lt hel)) hT
    have ne : s.heap.objs.size + 1 ≠ s.heap.objs.size := Nat.succ_ne_self _
    have kk2 : ∀ c o, c ∉ [e, z, TI, TO, i1, i2] → s.heap.get? c = some o → h''.get? c = some o := fun c o hb q => by
      have m : ∀ {y}, y ∈ [e, z, TI, TO, i1, i2] → c ≠ y := fun hy z => hb (z ▸ hy)
      exact sb2 c o (m (by simp)) (hk c o (m (by simp)) (m (by simp)) (m (by simp)) (m (by simp)) (m (by simp)) q)
    have new0 : ObjOk X.prog X.w (upd (upd H s.heap.objs.size (.tup [x, y])) (s.heap.objs.size + 1) (.tup [.int (i : Nat), .ref s.heap.objs.size])) h'' s.heap.objs.size (.tup [x, y]) :=
      ⟨by show 2 ≤ sizeLine; decide, [v1, v2], .cons ru (.cons ru2 .nil), ⟨_, hT0', rfl, _, rfl⟩⟩
    have new : ObjOk X.prog X.w (upd (upd H s.heap.objs.size (.tup [x, y])) (s.heap.objs.size + 1) (.tup [.int (i : Nat), .ref s.heap.objs.size])) h'' (s.heap.objs.size + 1) (.tup [.int (i : Nat), .ref s.heap.objs.size]) :=
      ⟨by show 2 ≤ sizeLine; decide, [.int i tk, .ref s.heap.objs.size], .cons ⟨_, rfl⟩ (.cons rfl .nil), ⟨_, hT', rfl, _, rfl⟩⟩
    have I1 := I.turnedNew2 (t' := tk + 1) (ch := [e, z, TI, TO, i1, i2]) kk2 hf (Nat.le_refl _) (Nat.le_succ _) ne new0 new
    refine ⟨.ref (s.heap.objs.size + 1), _, I1, rfl, ⟨_, _, x, y, rfl, I.hok.fresh (Nat.le_succ _), I.hok.fresh (Nat.le_refl _), ne, rfl, fun l hl => by rw [invB_inj I hl hqx]; exact hx, fun l hl => by rw [invB_inj I hl hqy]; exact hy⟩,
      ⟨⟨_, by rw [show ((i + 1 : Nat) : Int) = (i : Int) + 1 by omega]; exact he''⟩, ⟨f0', f1', sb2 _ _ (Ne.symm nez) hz', hzf'⟩, sb2 _ _ neI (hk _ _ neI D.TIz D.TITO D.TIi1 D.TIi2 hTI), ⟨c1, c2, sb2 _ _ (Ne.symm neT) hTO'⟩, hst1.1.at fun o q => sb2 _ _ (fun z => ne1 (by simp [z])) q, hst2.1.at fun o q => sb2 _ _ (fun z => ne2 (by simp [z])) q⟩, fun c hcm => ?_⟩
    have hlt : c < s.heap.objs.size := by
      have e' : c = e ∨ c = z ∨ c = TI ∨ c = TO ∨ c = i1 ∨ c = i2 := by simpa using hcm
      rcases e' with q | q | q | q | q | q
      · rw [q]; exact hel
      · rw [q]; exact Heap.lt_size hz
      · rw [q]; exact Heap.lt_size hTI
      · rw [q]; exact Heap.lt_size hTO
      · rw [q]; obtain ⟨_, e1, _⟩ := h1.obj; exact Heap.lt_size e1
      · rw [q]; obtain ⟨_, e2, _⟩ := h2.obj; exact Heap.lt_size e2
    rw [upd_ne (Nat.ne_of_lt (Nat.lt_succ_of_lt hlt)), upd_ne (Nat.ne_of_lt hlt)]
    exact (hf c hcm).1
  done := by
    intro X hP hw hK hc i pins s σ H E I hf st hg
    subst hP hw hK
    obtain ⟨⟨old, he⟩, ⟨f0, f1, hz, hzf⟩, hTI, ⟨x0, y0, hTO⟩, h1, h2⟩ := st
    obtain ⟨xs, ys, hqx, hqy, l1, l2⟩ := hg
    obtain ⟨its, rv, p, _⟩ := invB I hqx
    obtain ⟨its2, rv2, p2, _⟩ := invB I hqy
    have hh : X.A.in1.in1.handled = none := I.ok.hd hc
    have k1 := rv.length
    have ei : its.toArray.size = i := by simp; omega
    have D1 := drawsB (prog := X.prog) (w := X.w) hh b1 i1 a na its.toArray
    rw [ei] at D1
    refine g48_enumz_pyEnd D D1 (drawsB (prog := X.prog) (w := X.w) hh b2 i2 b nb its2.toArray) he hz hzf hTI hTO ⟨h1, p⟩ fun h' tk hk => ⟨rfl, ?_⟩
    refine I.turnedL (t' := tk) (ch := [e, z, TI, TO, i1, i2]) (fun c o hb q => ?_) hf
    have m : ∀ {y}, y ∈ [e, z, TI, TO, i1, i2] → c ≠ y := fun hy z => hb (z ▸ hy)
    exact hk c o (m (by simp)) (m (by simp)) (m (by simp)) (m (by simp)) q
  self := fun A i s Q E st h => let ⟨⟨_, he⟩, _⟩ := st; wpAny_pyIter_enum he h
def iEz (K : PySem.W.Frag) (b1 b2 : Bool) (ta : TA) : TI := fun σ H R => ta σ H fun vs H1 => ∃ a b xs ys, vs = [.ref a, .ref b] ∧ SqB K b1 H1 a xs ∧ SqB K b2 H1 b ys ∧ R (Itez K b1 b2 a b) H1
theorem pi_enumz (b1 b2 : Bool) {X : Cx} {e e2 : Expr} {ta : TA} {p p0 pos pos0 tpos : Pos} {elts : List Expr} {kk : Nat} (hge : Gl X "enumerate") (hme : X.mg "enumerate" = none) (hg : Gl X "zip") (hm : X.mg "zip" = none) (ha : PA X [e, e2] ta)
    (hs : starEach [e, e2] X.env = (false, eval e X.env) :: starEach [e2] X.env := by rfl) (hpl : (backTo pos (starEach [e2] X.env)).any (·.1) = false := by rfl)
    (na : starEach [.Call (.Name "zip" p) [e, e2] [] pos] X.env = (false, eval (.Call (.Name "zip" p) [e, e2] [] pos) X.env) :: starEach [] X.env := by rfl) :
    PI X (.Tuple elts kk tpos) (.Call (.Name "enumerate" p0) [.Call (.Name "zip" p) [e, e2] [] pos] [] pos0) (iEz X.K b1 b2 ta) := by
  refine ⟨fun pins s σ H R I h => ?_⟩
  refine Call_ (ld_blt I hge hme PyProof.Rows.boot_enumerate (PyProof.Rows.callWith_type1 (args_cons (Call_ (ld_blt I hg hm PyProof.Rows.boot_zip (PyProof.Rows.callWith_type1 (thn (ha.run pos pins s σ H _ I h) fun us s1 ⟨vs, H1, I1, r1, q1⟩ => ?_) hs hpl))) na) na))
  obtain ⟨a, b, xs, ys, ex, hqx, hqy, q⟩ := q1
  subst ex
  cases r1 with
  | cons r rr =>
    cases rr with
    | cons r' rr =>
      cases rr
      cases r
      cases r'
      obtain ⟨its, rv, p1, la⟩ := invB I1 hqx
      obtain ⟨its2, rv2, p2, lb⟩ := invB I1 hqy
      obtain ⟨o1, B1, t1⟩ := beginsB b1 a its.toArray
      obtain ⟨o2, B2, t2⟩ := beginsB b2 b its2.toArray
      refine zip_begins2 B1 B2 p1 p2 fun h' hz hTI hTO g1 g2 hsz hk => args_nil ?_
      refine g48_call_enumS (s := { s1 with heap := h' }) (H := fun h => IsZip h (s1.heap.objs.size + 4) (s1.heap.objs.size + 2) (s1.heap.objs.size + 3) .none) (fun _ _ _ _ _ _ hz q => wpAny_pyIter_zip hz q) hz fun h'' he hsz2 hk2 => wpAny_pyIter_enum he ?_
      have hsz3 : h'.objs.size = s1.heap.objs.size + 5 := hsz
      have I2 : Inv X pins σ H1 { s1 with heap := h'' } := I1.kept (t' := s1.toks) fun c o x => hk2 c o (hk c o x)
      have he : IsEnum h'' (s1.heap.objs.size + 5) (s1.heap.objs.size + 4) 0 .none := by
        have := he
        rw [show ({ s1 with heap := h' } : Shared).heap.objs.size = s1.heap.objs.size + 5 from hsz3] at this
        exact this
      have ee : Value.ref ({ s1 with heap := h' } : Shared).heap.objs.size = .ref (s1.heap.objs.size + 5) := by
        rw [show ({ s1 with heap := h' } : Shared).heap.objs.size = s1.heap.objs.size + 5 from hsz3]
      rw [ee]
      refine ⟨s1.heap.objs.size + 5, [s1.heap.objs.size + 5, s1.heap.objs.size + 4, s1.heap.objs.size + 2, s1.heap.objs.size + 3, s1.heap.objs.size, s1.heap.objs.size + 1], _, _, H1, rfl, I2,
        turn_ez (e := s1.heap.objs.size + 5) (zip_sep2 (N := s1.heap.objs.size) (fp1 := [a]) (fp2 := [b]) (fun c hc => by rw [List.mem_singleton.mp hc]; exact la) (fun c hc => by rw [List.mem_singleton.mp hc]; exact lb)) (Nat.ne_of_lt la) (Nat.ne_of_lt (Nat.lt_succ_of_lt lb))
          (Nat.succ_ne_self _) (Nat.ne_of_gt (Nat.lt_succ_of_lt (Nat.lt_succ_self _))) (Nat.ne_of_lt (Nat.lt_succ_of_lt (Nat.lt_succ_of_lt (Nat.lt_succ_self _)))) ?_ ?_,
        ⟨⟨.none, he⟩, ⟨.none, false, hk2 _ _ hz, .inl rfl⟩, hk2 _ _ hTI, ⟨_, _, hk2 _ _ hTO⟩, t1 _ _ (hk2 _ _ g1), t2 _ _ (hk2 _ _ g2)⟩, fun c hcm => ?_, q⟩
      · intro z
        rcases List.mem_cons.mp z with z | z
        · exact absurd z (Nat.ne_of_gt (Nat.lt_add_of_pos_right (by decide)))
        · exact absurd (List.mem_singleton.mp z) (Nat.ne_of_gt (Nat.lt_of_lt_of_le la (Nat.le_add_right _ _)))
      · intro z
        rcases List.mem_cons.mp z with z | z
        · exact absurd z (Nat.ne_of_gt (Nat.add_lt_add_left (by decide) _))
        · exact absurd (List.mem_singleton.mp z) (Nat.ne_of_gt (Nat.lt_of_lt_of_le lb (Nat.le_add_right _ _)))
      · have e' : c = s1.heap.objs.size + 5 ∨ c = s1.heap.objs.size + 4 ∨ c = s1.heap.objs.size + 2 ∨ c = s1.heap.objs.size + 3 ∨ c = s1.heap.objs.size ∨ c = s1.heap.objs.size + 1 := by simpa using hcm
        have hle : s1.heap.objs.size ≤ c := by rcases e' with z | z | z | z | z | z <;> rw [z] <;> first | exact Nat.le_add_right _ _ | exact Nat.le_refl _
        exact I1.fpOk hle (I1.hok.fresh hle)
def YEz (xs ys : Nat → Option V) : Nat → Hp → V → Hp → Prop := fun i H v H' => ∃ T T0 x y, v = .ref T ∧ H T = none ∧ H T0 = none ∧ T ≠ T0 ∧ H' = upd (upd H T0 (.tup [x, y])) T (.tup [.int (i : Nat), .ref T0]) ∧ xs i = some x ∧ ys i = some y
theorem walk_ez {K : PySem.W.Frag} {b1 b2 : Bool} {a b : Addr} {xs ys : List V} {n : Nat} (h1 : xs.length = n) (h2 : ys.length = n) : Walk (Itez K b1 b2 a b) n (fun H => SqB K b1 H a xs ∧ SqB K b2 H b ys) (YEz (fun i => xs[i]?) (fun i => ys[i]?)) := by
  refine ⟨fun i _ hi q => ?_, fun _ q => ⟨xs, ys, q.1, q.2, h1, h2⟩, fun i H v H' _ q y => ?_⟩
  · exact ⟨xs, ys, xs[i], ys[i], q.1, q.2, by simp [h1, hi], by simp [h2, hi]⟩
  · obtain ⟨T, T0, x, z, h1, h2, h3, h4, h5, h6, h7⟩ := y
    exact ⟨T, T0, x, z, h1, h2, h3, h4, h5, h6 xs q.1, h7 ys q.2⟩
section
variable {K : PySem.W.Frag} {σ : L2.St} {H : Hp} {tr : TA} {D : Ends} {t1 : TS} {g : TG} {a b : Addr} {xs ys : List V} {b1 b2 : Bool}
def kForEz (K : PySem.W.Frag) (b1 b2 : Bool) (g : TG) (tb : TS) (D : Ends) (σ : L2.St) (vs : List V) (H1 : Hp) : Prop := tFor (iEz K b1 b2 (fun _ H Q => Q vs H)) g tb D σ H1
theorem g_forEz (q : tr σ H (kForEz K b1 b2 g t1 D σ)) : tFor (iEz K b1 b2 tr) g t1 D σ H := q
theorem g_kForEz (n : Nat) (hx : SqB K b1 H a xs) (hy : SqB K b2 H b ys) (l1 : xs.length = n) (l2 : ys.length = n) (Pv : Nat → L2.St → Hp → Prop) (h0 : Pv 0 σ H) (hl : ∀ i σ H, i ≤ n → Pv i σ H → SqB K b1 H a xs ∧ SqB K b2 H b ys)
    (hs : ∀ i x y σ H T T0 H', i < n → xs[i]? = some x → ys[i]? = some y → Pv i σ H → Ex H H' → H' T0 = some (.tup [x, y]) → H' T = some (.tup [.int (i : Nat), .ref T0]) → g (.ref T) σ H' fun σ2 H2 => t1 { D with nx := Pv (i + 1), ct := Pv (i + 1), bk := D.nx } σ2 H2) (hd : ∀ σ H, Pv n σ H → D.nx σ H) : kForEz K b1 b2 g t1 D σ [.ref a, .ref b] H :=
  ⟨a, b, xs, ys, rfl, hx, hy, for_it (walk_ez l1 l2) Pv h0 hl (fun i x σ H H' hi p y => by
    obtain ⟨T, T0, u, v, rfl, hT, hT0, ne, rfl, e1, e2⟩ := y
    exact hs i u v σ H T T0 _ hi e1 e2 p (fun c o h => by rw [upd_ne (ne_of_none h hT), upd_ne (ne_of_none h hT0)]; exact h) (by rw [upd_ne (Ne.symm ne), upd_same]) upd_same) hd⟩
end
end G48
namespace PySem.W
open Lean Elab Tactic Meta PySem PySem.Calls PyProof.Rows
open Builtin Builtin.Str Builtin.Int Builtin.Float
theorem g48_fmt0 (t : Tok) : ∀ u, Meets («int.__format__» ⟨[.int 0 t, .str ">2" u], []⟩) (fun _ R s => ∀ t' k, R (.ok (.ret (.str ⟨#[32, 48]⟩ t'))) { s with toks := k }) := by kxf_run_i
theorem g48_fmt1 (t : Tok) : ∀ u, Meets («int.__format__» ⟨[.int 1 t, .str ">2" u], []⟩) (fun _ R s => ∀ t' k, R (.ok (.ret (.str ⟨#[32, 49]⟩ t'))) { s with toks := k }) := by kxf_run_i
theorem g48_fmt2 (t : Tok) : ∀ u, Meets («int.__format__» ⟨[.int 2 t, .str ">2" u], []⟩) (fun _ R s => ∀ t' k, R (.ok (.ret (.str ⟨#[32, 50]⟩ t'))) { s with toks := k }) := by kxf_run_i
theorem g48_fmt3 (t : Tok) : ∀ u, Meets («int.__format__» ⟨[.int 3 t, .str ">2" u], []⟩) (fun _ R s => ∀ t' k, R (.ok (.ret (.str ⟨#[32, 51]⟩ t'))) { s with toks := k }) := by kxf_run_i
theorem g48_fmt4 (t : Tok) : ∀ u, Meets («int.__format__» ⟨[.int 4 t, .str ">2" u], []⟩) (fun _ R s => ∀ t' k, R (.ok (.ret (.str ⟨#[32, 52]⟩ t'))) { s with toks := k }) := by kxf_run_i
theorem g48_fmt5 (t : Tok) : ∀ u, Meets («int.__format__» ⟨[.int 5 t, .str ">2" u], []⟩) (fun _ R s => ∀ t' k, R (.ok (.ret (.str ⟨#[32, 53]⟩ t'))) { s with toks := k }) := by kxf_run_i
theorem g48_fmt6 (t : Tok) : ∀ u, Meets («int.__format__» ⟨[.int 6 t, .str ">2" u], []⟩) (fun _ R s => ∀ t' k, R (.ok (.ret (.str ⟨#[32, 54]⟩ t'))) { s with toks := k }) := by kxf_run_i
theorem g48_fmt7 (t : Tok) : ∀ u, Meets («int.__format__» ⟨[.int 7 t, .str ">2" u], []⟩) (fun _ R s => ∀ t' k, R (.ok (.ret (.str ⟨#[32, 55]⟩ t'))) { s with toks := k }) := by kxf_run_i
theorem g48_fmt8 (t : Tok) : ∀ u, Meets («int.__format__» ⟨[.int 8 t, .str ">2" u], []⟩) (fun _ R s => ∀ t' k, R (.ok (.ret (.str ⟨#[32, 56]⟩ t'))) { s with toks := k }) := by kxf_run_i
theorem g48_fmt9 (t : Tok) : ∀ u, Meets («int.__format__» ⟨[.int 9 t, .str ">2" u], []⟩) (fun _ R s => ∀ t' k, R (.ok (.ret (.str ⟨#[32, 57]⟩ t'))) { s with toks := k }) := by kxf_run_i
theorem g48_fmt10 (t : Tok) : ∀ u, Meets («int.__format__» ⟨[.int 10 t, .str ">2" u], []⟩) (fun _ R s => ∀ t' k, R (.ok (.ret (.str ⟨#[49, 48]⟩ t'))) { s with toks := k }) := by kxf_run_i
theorem g48_fmt11 (t : Tok) : ∀ u, Meets («int.__format__» ⟨[.int 11 t, .str ">2" u], []⟩) (fun _ R s => ∀ t' k, R (.ok (.ret (.str ⟨#[49, 49]⟩ t'))) { s with toks := k }) := by kxf_run_i
theorem g48_fmt12 (t : Tok) : ∀ u, Meets («int.__format__» ⟨[.int 12 t, .str ">2" u], []⟩) (fun _ R s => ∀ t' k, R (.ok (.ret (.str ⟨#[49, 50]⟩ t'))) { s with toks := k }) := by kxf_run_i
/-- a small number, filled up to two signs -/
def padN (n : Nat) : PySem.Str := if n < 10 then ⟨#[32, 48 + n]⟩ else ⟨#[48 + n / 10, 48 + n % 10]⟩
theorem g48_fmt (t : Tok) : ∀ n : Nat, n < 13 → ∀ u, Meets («int.__format__» ⟨[.int (n : Int) t, .str ">2" u], []⟩) (fun _ R s => ∀ t' k, R (.ok (.ret (.str (padN n) t'))) { s with toks := k })
  | 0, _ => g48_fmt0 t
  | 1, _ => g48_fmt1 t
  | 2, _ => g48_fmt2 t
  | 3, _ => g48_fmt3 t
  | 4, _ => g48_fmt4 t
  | 5, _ => g48_fmt5 t
  | 6, _ => g48_fmt6 t
  | 7, _ => g48_fmt7 t
  | 8, _ => g48_fmt8 t
  | 9, _ => g48_fmt9 t
  | 10, _ => g48_fmt10 t
  | 11, _ => g48_fmt11 t
  | 12, _ => g48_fmt12 t
  | n + 13, h => absurd h (by omega)
theorem g48_field {prog : Program} {w : World} {A : Around} {E : Value → Shared → Prop} {s : Shared} {t : Tok} {n : Nat} {Q : Value → Shared → Prop} (hn : n < 13) (h : ∀ t' k, Q (.str (padN n) t') { s with toks := k }) : wpAny (model prog w) A (formatField (.int (n : Int) t) ">2") Q E s :=
  KXf.field_int rfl (by decide +kernel) (by decide +kernel) (g48_fmt t n hn) h
end PySem.W
namespace G48
open PySem PySem.Spec PyProof.Rows L2 Evl
def tFmtP (te : TE) : TE := fun σ H Q => te σ H fun x H1 => ∃ n : Nat, n < 13 ∧ x = .int (n : Int) ∧ Q (.str (PySem.W.padN n)) H1
theorem pe_fmtP {X : Cx} {e : Expr} {te : TE} {k : Nat} {p1 p2 pos : Pos} (he : PE X e te) : PE X (.FormattedValue e (-1) (some (.JoinedStr [.Constant (.str ">2") k p1] p2)) pos) (tFmtP te) := by
  refine ⟨fun pins s σ H Q I h => ?_⟩
  refine PySem.wpAny_FormattedValue_spec (thn (he.run pins s σ H _ I h) fun v s1 hv => ?_)
  obtain ⟨x, Ha, I1, r1, n, hn, ex, q⟩ := hv
  subst ex
  obtain ⟨t, rfl⟩ := r1
  have sp := (pe_joined1 (pos := p2) (pe_str (X := X) (x := ">2") (j := k) (pos := p1))).run pins s1 σ Ha (fun y H2 => y = .str ">2" ∧ H2 = Ha) I1 ⟨rfl, rfl⟩
  refine thn sp fun r s2 hv2 => ?_
  obtain ⟨y, H2, I2, r2, ey, eh⟩ := hv2
  subst ey eh
  obtain ⟨t2, rfl⟩ := r2
  exact ⟨_, _, rfl, PySem.W.g48_field hn fun t' k => ⟨.str (PySem.W.padN n), _, I2.tok _, ⟨_, rfl⟩, q⟩⟩
def kFmtP (Q : VK) : VK := fun x H1 => ∃ n : Nat, n < 13 ∧ x = .int (n : Int) ∧ Q (.str (PySem.W.padN n)) H1
theorem g_fmtP {te : TE} {σ : L2.St} {H : Hp} {Q : VK} (q : te σ H (kFmtP Q)) : tFmtP te σ H Q := q
theorem g_kFmtP {H : Hp} {Q : VK} {n : Nat} (hn : n < 13) (q : Q (.str (PySem.W.padN n)) H) : kFmtP Q (.int (n : Int)) H := ⟨n, hn, rfl, q⟩
end G48
namespace G48
open PySem PySem.Spec PyProof.Rows L2 Evl
/-! ### an error without fields, told by `_law_raised` -/
def eqNames : List Str := ["InvalidOperation", "InvalidRing", "DecodeError", "NotationError", "BeingRead", "DiaryError", "InvalidNumber", "UnknownReader", "UnknownBook", "Contradiction", "InvalidCount"]
def eqNm (j : Nat) : Str := eqNames.getD j "other"
def eqWord (j : Nat) : Str := (["number", "reader", "nobook", "contradiction", "count"] : List Str).getD (j - 6) "other"
structure ExcQ (K : PySem.W.Frag) (D : Addr) (j : Nat) : Prop where
  ex : PySem.W.excIn K D He.veBase "ValueError.__new__" = true
  kp : PySem.W.keepIn K (.ref D) = true
  sb : PySem.W.subIn K (.ref D) (.type "BaseException") = some true
  ty : PySem.W.typeIn K (.ref D) = some (.type "type")
  c : ExcC K D
  is_ : ∀ i, i < 11 → PySem.W.kitOne K (.ref D) (.ref (He.ga K (eqNm i))) = some (decide (i = j))
  ve : PySem.W.kitOne K (.ref D) (.type "ValueError") = some true
  re : PySem.W.exmOne K (.ref D) (.ref (He.ga K "ReadingError")) = some true
def excQB (K : PySem.W.Frag) (D : Addr) (j : Nat) : Bool := PySem.W.excIn K D He.veBase "ValueError.__new__" && (PySem.W.keepIn K (.ref D) && (decide (PySem.W.subIn K (.ref D) (.type "BaseException") = some true) && (decide (PySem.W.typeIn K (.ref D) = some (.type "type")) && (excCB K D &&
  ((List.range 11).all (fun i => decide (PySem.W.kitOne K (.ref D) (.ref (He.ga K (eqNm i))) = some (decide (i = j)))) && (decide (PySem.W.kitOne K (.ref D) (.type "ValueError") = some true) && decide (PySem.W.exmOne K (.ref D) (.ref (He.ga K "ReadingError")) = some true)))))))
theorem excQ_ok {K : PySem.W.Frag} {D : Addr} {j : Nat} (h : excQB K D j = true) : ExcQ K D j := by
  obtain ⟨h1, h⟩ := He.ba h
  obtain ⟨h2, h⟩ := He.ba h
  obtain ⟨h3, h⟩ := He.ba h
  obtain ⟨h4, h⟩ := He.ba h
  obtain ⟨h5, h⟩ := He.ba h
  obtain ⟨h6, h⟩ := He.ba h
  obtain ⟨h7, h8⟩ := He.ba h
  exact ⟨h1, h2, of_decide_eq_true h3, of_decide_eq_true h4, excC_ok h5, fun i hi => of_decide_eq_true (List.all_eq_true.mp h6 i (List.mem_range.mpr hi)), of_decide_eq_true h7, of_decide_eq_true h8⟩
theorem psr_ownQ {X : Cx} {C : Addr} {W : WX} {x m : Str} {j n : Nat} {p p2 pos pos' : Pos} (T : ExcQ X.K C n) (gC : X.mg x = some (.ref C)) (hc : X.calm = true) (tk : Takes X W) (hg : Gl X x := by rfl) (hdb : (x == ("__debug__" : Str)) = false := by decide) :
    PS X (.Raise (some (.Call (.Name x p) [.Constant (.str m) j p2] [] pos)) none pos') (fun _ σ H => W (.ref C) none σ H) :=
  ps_raise hc tk (pmk_own PySem.F.excBase_ValueError T.ex gC T.kp (raises_own T.sb T.ty) hg hdb)
end G48
namespace G48
open PySem PySem.Spec PyProof.Rows L2 Evl
def top (i : Nat) : Stmt := PySem.Challenge.pw_readingring_k45_text_and_bytes.main.body.getD i (.Pass ⟨0, 0, 0, 0⟩)

end G48
namespace G48
open PySem PySem.Spec PyProof.Rows L2 Evl
def gd (x : Str) (st : Stmt) : He5.DefA := ⟨fun K => He.ga K x, x, x, defArgs st, defBody st, defScope st, [], []⟩
def md (C x q : Str) (st : Stmt) : He5.DefA := ⟨fun K => He.ma K (He.ga K C) x, x, q, defArgs st, defBody st, defScope st, [], []⟩
def prd (C x q : Str) (st : Stmt) : He5.DefA := ⟨fun K => Gp.pga K (He.ga K C) x, x, q, defArgs st, defBody st, defScope st, [], []⟩
abbrev s_is_integer : Stmt := top 19
abbrev s_check_number : Stmt := top 20
abbrev s_check_days : Stmt := top 21
abbrev s_check_starts : Stmt := top 22
abbrev s_Ring___init__ : Stmt := inClass (top 23) 0
abbrev s_Ring_books : Stmt := inClass (top 23) 4
abbrev s_Ring___len__ : Stmt := inClass (top 23) 6
abbrev s_Ring_need_reader : Stmt := inClass (top 23) 12
abbrev s__law_taken : Stmt := top 54
abbrev s__law_pair : Stmt := top 57
abbrev s_Scene___init__ : Stmt := inClass (top 26) 0
abbrev s_Scene_begun : Stmt := inClass (top 26) 1
abbrev s_Scene_following : Stmt := inClass (top 26) 2
abbrev s_first_scene : Stmt := top 27
abbrev s__law_begun : Stmt := top 58
abbrev s__law_first : Stmt := top 59
abbrev s__law_next : Stmt := top 60
abbrev s_checksum_of : Stmt := top 49
abbrev s_encode_ring : Stmt := top 50
abbrev s_check_byte : Stmt := top 51
abbrev s_decode_ring : Stmt := top 52
abbrev s_is_numeral : Stmt := top 36
abbrev s_numbers_of : Stmt := top 38
abbrev s_format_ring : Stmt := top 37
abbrev s_parse_ring : Stmt := top 39
abbrev s_chart : Stmt := top 40
abbrev s__law_chart : Stmt := top 61
abbrev s__law_alike : Stmt := top 55
abbrev s__law_raised : Stmt := top 56
abbrev s_Ring___eq__ : Stmt := inClass (top 23) 9
abbrev s_pack_bytes : Stmt := top 47
abbrev s_unpack_bytes : Stmt := top 48
abbrev s_law : Stmt := top 62
def fnL : List He5.DefA := [gd "is_integer" s_is_integer, gd "check_number" s_check_number, gd "check_days" s_check_days, gd "check_starts" s_check_starts, md "Ring" "__init__" "Ring.__init__" s_Ring___init__, prd "Ring" "books" "Ring.books" s_Ring_books, md "Ring" "__len__" "Ring.__len__" s_Ring___len__, md "Ring" "need_reader" "Ring.need_reader" s_Ring_need_reader, gd "_law_taken" s__law_taken, gd "_law_pair" s__law_pair, md "Scene" "__init__" "Scene.__init__" s_Scene___init__, md "Scene" "begun" "Scene.begun" s_Scene_begun, md "Scene" "following" "Scene.following" s_Scene_following, gd "first_scene" s_first_scene, gd "_law_begun" s__law_begun, gd "_law_first" s__law_first, gd "_law_next" s__law_next, gd "checksum_of" s_checksum_of, gd "encode_ring" s_encode_ring, gd "check_byte" s_check_byte, gd "decode_ring" s_decode_ring, gd "is_numeral" s_is_numeral, gd "numbers_of" s_numbers_of, gd "format_ring" s_format_ring, gd "parse_ring" s_parse_ring, gd "chart" s_chart, gd "_law_chart" s__law_chart, gd "_law_alike" s__law_alike, gd "_law_raised" s__law_raised, md "Ring" "__eq__" "Ring.__eq__" s_Ring___eq__, gd "pack_bytes" s_pack_bytes, gd "unpack_bytes" s_unpack_bytes, gd "law" s_law]
def fasL : List Gp.FB := [fun K => (He.Fa.free "len").ok K,
  fun K => (He.Fa.free "isinstance").ok K,
  fun K => (He.Fa.free "int").ok K,
  fun K => (He.Fa.free "bool").ok K,
  fun K => (He.Fa.free "tuple").ok K,
  fun K => (He.Fa.free "list").ok K,
  fun K => (He.Fa.free "max").ok K,
  fun K => (He.Fa.free "min").ok K,
  fun K => (He.Fa.free "sum").ok K,
  fun K => (He.Fa.free "range").ok K,
  fun K => (He.Fa.free "enumerate").ok K,
  fun K => (He.Fa.free "zip").ok K,
  fun K => (He.Fa.free "all").ok K,
  fun K => (He.Fa.free "any").ok K,
  fun K => (He.Fa.free "sorted").ok K,
  fun K => (He.Fa.free "str").ok K,
  fun K => (He.Fa.free "set").ok K,
  fun K => (He.Fa.free "abs").ok K,
  fun K => (He.Fa.free "divmod").ok K,
  fun K => (He.Fa.free "bytes").ok K,
  fun K => (He.Fa.free "dict").ok K,
  fun K => (He.Fa.free "ValueError").ok K,
  fun K => (He.Fa.glo "is_integer").ok K,
  fun K => (He.Fa.glo "check_number").ok K,
  fun K => (He.Fa.glo "check_days").ok K,
  fun K => (He.Fa.glo "check_starts").ok K,
  fun K => (He.Fa.mkr "Ring").ok K,
  fun K => (He.Fa.glo "Ring").ok K,
  fun K => Gp.ppB K (He.ga K "Ring") "books",
  fun K => (He.Fa.meth "Ring" "__len__").ok K,
  fun K => (He.Fa.meth "Ring" "need_reader").ok K,
  fun K => (He.Fa.glo "_law_taken").ok K,
  fun K => (He.Fa.glo "_law_pair").ok K,
  fun K => (He.Fa.mkr "Scene").ok K,
  fun K => (He.Fa.glo "Scene").ok K,
  fun K => (He.Fa.meth "Scene" "begun").ok K,
  fun K => (He.Fa.meth "Scene" "following").ok K,
  fun K => (He.Fa.glo "first_scene").ok K,
  fun K => (He.Fa.glo "_law_begun").ok K,
  fun K => (He.Fa.glo "_law_first").ok K,
  fun K => (He.Fa.glo "_law_next").ok K,
  fun K => (He.Fa.glo "checksum_of").ok K,
  fun K => (He.Fa.glo "encode_ring").ok K,
  fun K => (He.Fa.glo "check_byte").ok K,
  fun K => (He.Fa.glo "decode_ring").ok K,
  fun K => (He.Fa.glo "is_numeral").ok K,
  fun K => (He.Fa.glo "numbers_of").ok K,
  fun K => (He.Fa.glo "format_ring").ok K,
  fun K => (He.Fa.glo "parse_ring").ok K,
  fun K => (He.Fa.glo "chart").ok K,
  fun K => (He.Fa.glo "_law_chart").ok K,
  fun K => (He.Fa.glo "_law_alike").ok K,
  fun K => (He.Fa.glo "_law_raised").ok K,
  fun K => (He.Fa.meth "Ring" "__eq__").ok K,
  fun K => (He.Fa.glo "pack_bytes").ok K,
  fun K => (He.Fa.glo "unpack_bytes").ok K,
  fun K => (He.Fa.glo "law").ok K,
  fun K => (He.Fa.cls "Ring").ok K,
  fun K => (He.Fa.noat "Ring" "spans").ok K,
  fun K => (He.Fa.noat "Ring" "heaps").ok K,
  fun K => (He.Fa.noat "Ring" "total").ok K,
  fun K => (He.Fa.cls "Scene").ok K,
  fun K => (He.Fa.noat "Scene" "day").ok K,
  fun K => (He.Fa.noat "Scene" "stacks").ok K,
  fun K => (He.Fa.noat "Scene" "ends").ok K,
  fun K => (He.Fa.noat "Scene" "spans_now").ok K,
  fun K => (He.Fa.noat "Scene" "number").ok K,
  fun K => (He.Fa.int "MAX_READERS" 8).ok K,
  fun K => (He.Fa.int "MAX_DAYS" 30).ok K,
  fun K => (He.Fa.int "MAX_BOOKS" 12).ok K,
  fun K => (He.Fa.int "CHECKSUM_FACTOR" 7).ok K,
  fun K => (He.Fa.int "CHECKSUM_MODULUS" 251).ok K,
  fun K => (He.Fa.int "FIRST_BYTE" 82).ok K,
  fun K => (He.Fa.int "LEAST_READERS" 2).ok K,
  fun K => (He.Fa.int "MAX_DIGITS" 2).ok K,
  fun K => (He.Fa.str "DIGITS" "0123456789").ok K,
  fun K => (He.Fa.str "READER" "reader").ok K,
  fun K => (He.Fa.int "WORDS" 3).ok K,
  fun K => (He.Fa.int "MAX_CHARTED" 100).ok K,
  fun K => (He.Fa.str "BUSY" "#").ok K,
  fun K => (He.Fa.str "FREE" ".").ok K,
  fun K => (He.Fa.glo "ReadingError").ok K,
  fun K => (He.Fa.glo "InvalidOperation").ok K,
  fun K => (He.Fa.glo "InvalidRing").ok K,
  fun K => (He.Fa.glo "DecodeError").ok K,
  fun K => (He.Fa.glo "NotationError").ok K,
  fun K => (He.Fa.glo "BeingRead").ok K,
  fun K => (He.Fa.glo "DiaryError").ok K,
  fun K => (He.Fa.glo "InvalidNumber").ok K,
  fun K => (He.Fa.glo "UnknownReader").ok K,
  fun K => (He.Fa.glo "UnknownBook").ok K,
  fun K => (He.Fa.glo "Contradiction").ok K,
  fun K => (He.Fa.glo "InvalidCount").ok K,
  fun K => isiB K (He.ga K "Ring"),
  fun K => excQB K (He.ga K "InvalidNumber") 6,
  fun K => (He.Fa.int "BYTE" 256).ok K,
  fun K => excQB K (He.ga K "InvalidCount") 10,
  fun K => decide (PySem.W.findIn K (.ref (He.ga K "Ring")) "__ne__" = some (some (.builtin "object.__ne__"))),
  fun K => decide (PySem.W.subIn K (.ref (He.ga K "Ring")) (.type "object") = some true)]
abbrev RW := PySem.Challenge.rw_readingring_k45_text_and_bytes
abbrev hk : PySem.W.Hook := hookL 6 fasL fnL
def ob (s : PySem.W.SharedT) : AlL := obsL 6 fasL fnL (HandSHeadRun.getT s)
theorem ob_eq (s : PySem.W.SharedT) : ob s = hk.obs s.abs := obsL_eq (HandSHeadRun.getT_eq s)
abbrev RR : PySem.W.OpenRow := PySem.W.OpenLaw.row RW
def loose : List Str := [("_wall" : Str), ("ReadingError" : Str), ("InvalidRing" : Str), ("UnknownReader" : Str), ("UnknownBook" : Str), ("InvalidNumber" : Str), ("BeingRead" : Str), ("InvalidOperation" : Str), ("DiaryError" : Str), ("Contradiction" : Str), ("NotationError" : Str), ("InvalidCount" : Str), ("DecodeError" : Str), ("MAX_READERS" : Str), ("MAX_DAYS" : Str), ("MAX_BOOKS" : Str), ("MAX_NUMBER" : Str), ("is_integer" : Str), ("check_number" : Str), ("check_days" : Str), ("check_starts" : Str), ("Ring" : Str), ("Course" : Str), ("Scene" : Str), ("first_scene" : Str), ("READER" : Str), ("DIGITS" : Str), ("MAX_DIGITS" : Str), ("WORDS" : Str), ("MAX_CHARTED" : Str), ("BUSY" : Str), ("FREE" : Str), ("is_numeral" : Str), ("format_ring" : Str), ("numbers_of" : Str), ("parse_ring" : Str), ("chart" : Str), ("FIRST_BYTE" : Str), ("BYTE" : Str), ("LEAST_READERS" : Str), ("CHECKSUM_FACTOR" : Str), ("CHECKSUM_MODULUS" : Str), ("pack_bytes" : Str), ("unpack_bytes" : Str), ("checksum_of" : Str), ("encode_ring" : Str), ("check_byte" : Str), ("decode_ring" : Str), ("_law_taken" : Str), ("_law_alike" : Str), ("_law_raised" : Str), ("_law_pair" : Str), ("_law_begun" : Str), ("_law_first" : Str), ("_law_next" : Str), ("_law_chart" : Str)]
set_option maxHeartbeats 0 in
theorem run (w : World) : HandSHeadRun.RunEq RR (PySem.W.view RR.prog [62]) hk ob 40000 loose w := by
  intro os
  kernel_rfl
end G48
namespace G48
open PySem PySem.Spec PyProof.Rows L2 Evl
abbrev N_is_integer : List Str := ["value", "low", "high"]
theorem sc_is_integer : FnScope N_is_integer ["value", "low", "high"] (defScope s_is_integer) := ⟨rfl, rfl, rfl, by decide +kernel, rfl, by decide +kernel, by decide +kernel⟩
theorem b_is_integer : BindL "is_integer" "is_integer" s_is_integer ["value", "low", "high"] := fun _ _ _ _ _ _ us hl => match us, hl with | [_, _, _], _ => rfl
abbrev N_check_number : List Str := ["number", "low", "high"]
theorem sc_check_number : FnScope N_check_number ["number", "low", "high"] (defScope s_check_number) := ⟨rfl, rfl, rfl, by decide +kernel, rfl, by decide +kernel, by decide +kernel⟩
theorem b_check_number : BindL "check_number" "check_number" s_check_number ["number", "low", "high"] := fun _ _ _ _ _ _ us hl => match us, hl with | [_, _, _], _ => rfl
abbrev N_check_days : List Str := ["days", "index", "number"]
theorem sc_check_days : FnScope N_check_days ["days"] (defScope s_check_days) := ⟨rfl, rfl, rfl, by decide +kernel, rfl, by decide +kernel, by decide +kernel⟩
theorem b_check_days : BindL "check_days" "check_days" s_check_days ["days"] := fun _ _ _ _ _ _ us hl => match us, hl with | [_], _ => rfl
abbrev N_check_starts : List Str := ["days", "starts", "index", "number"]
theorem sc_check_starts : FnScope N_check_starts ["days", "starts"] (defScope s_check_starts) := ⟨rfl, rfl, rfl, by decide +kernel, rfl, by decide +kernel, by decide +kernel⟩
theorem b_check_starts : BindL "check_starts" "check_starts" s_check_starts ["days", "starts"] := fun _ _ _ _ _ _ us hl => match us, hl with | [_, _], _ => rfl
abbrev N_Ring___init__ : List Str := ["self", "days", "starts"]
theorem sc_Ring___init__ : FnScope N_Ring___init__ ["self", "days", "starts"] (defScope s_Ring___init__) := ⟨rfl, rfl, rfl, by decide +kernel, rfl, by decide +kernel, by decide +kernel⟩
theorem b_Ring___init__ : BindL "Ring.__init__" "__init__" s_Ring___init__ ["self", "days", "starts"] := fun _ _ _ _ _ _ us hl => match us, hl with | [_, _, _], _ => rfl
abbrev N_Ring_books : List Str := ["self"]
theorem sc_Ring_books : FnScope N_Ring_books ["self"] (defScope s_Ring_books) := ⟨rfl, rfl, rfl, by decide +kernel, rfl, by decide +kernel, by decide +kernel⟩
theorem b_Ring_books : BindL "Ring.books" "books" s_Ring_books ["self"] := fun _ _ _ _ _ _ us hl => match us, hl with | [_], _ => rfl
abbrev N_Ring___len__ : List Str := ["self"]
theorem sc_Ring___len__ : FnScope N_Ring___len__ ["self"] (defScope s_Ring___len__) := ⟨rfl, rfl, rfl, by decide +kernel, rfl, by decide +kernel, by decide +kernel⟩
theorem b_Ring___len__ : BindL "Ring.__len__" "__len__" s_Ring___len__ ["self"] := fun _ _ _ _ _ _ us hl => match us, hl with | [_], _ => rfl
abbrev N_Ring_need_reader : List Str := ["self", "reader"]
theorem sc_Ring_need_reader : FnScope N_Ring_need_reader ["self", "reader"] (defScope s_Ring_need_reader) := ⟨rfl, rfl, rfl, by decide +kernel, rfl, by decide +kernel, by decide +kernel⟩
theorem b_Ring_need_reader : BindL "Ring.need_reader" "need_reader" s_Ring_need_reader ["self", "reader"] := fun _ _ _ _ _ _ us hl => match us, hl with | [_, _], _ => rfl
end G48
/-! the ring's own defs -/
namespace G48
open PySem PySem.Spec PyProof.Rows L2 Evl
/-! the steps -/
local macro_rules | `(tactic| walk_at "as") => `(tactic| with_reducible assumption)
local macro_rules | `(tactic| walk_at "hp") => `(tactic| first
  | with_reducible assumption
  | ((with_reducible apply SqT.of); walk_at "as")
  | ((with_reducible apply SqL.of); walk_at "as")
  | ((with_reducible apply ex_at); (focus walk_at "as"); walk_at "hp")
  | ((with_reducible apply ex_t); (focus walk_at "as"); walk_at "hp")
  | ((with_reducible apply ex_l); (focus walk_at "as"); walk_at "hp")
  | ((with_reducible apply exb_ins); (focus walk_at "as"); (focus walk_at "hp"); walk_at "hp")
  | ((with_reducible apply exb_t); (focus walk_at "as"); (focus walk_at "hp"); walk_at "hp")
  | ((with_reducible apply exb_at); (focus walk_at "as"); (focus walk_at "ne"); walk_at "hp")
  | ((with_reducible apply exb_l); (focus walk_at "as"); (focus walk_at "ne"); walk_at "hp"))
local macro_rules | `(tactic| walk_at "ne") => `(tactic| first
  | with_reducible assumption
  | exact Ne.symm (by with_reducible assumption)
  | exact ne_of_none (by with_reducible assumption) (by with_reducible assumption)
  | exact Ne.symm (ne_of_none (by with_reducible assumption) (by with_reducible assumption)))
local macro_rules | `(tactic| walk_at "tr") => `(tactic| first
  | rfl
  | with_reducible assumption
  | exact decide_eq_true (by first | with_reducible assumption | omega)
  | exact decide_eq_false (by first | with_reducible assumption | omega)
  | (rw [Bool.not_eq_true']; exact decide_eq_false (by first | with_reducible assumption | omega))
  | (rw [Bool.not_eq_false']; exact decide_eq_true (by first | with_reducible assumption | omega)))
local macro_rules | `(tactic| walk_at "nn") => `(tactic| first | with_reducible assumption | (exact List.cons_ne_nil _ _))
local macro_rules | `(tactic| walk_at "sz") => `(tactic| first | (exact sz1000 (Nat.le_of_ble_eq_true rfl)) | (refine sz1000 ?_; simp only [List.length_map, List.length_cons, List.length_nil, List.length_append]; omega) | with_reducible assumption)
local macro_rules | `(tactic| walk_at "sl") => `(tactic| first | with_reducible assumption | (refine lt1000 ?_; simp only [List.length_map, List.length_cons, List.length_nil, List.length_append]; omega) | (refine lt1000 ?_; omega))
local macro_rules | `(tactic| walk_at "ix") => `(tactic| first | rfl | with_reducible assumption)
local macro_rules | `(tactic| walk_at "rg") => `(tactic| exact RgOk.of_le (by omega) (by omega) (by omega) (by omega))
local macro_rules | `(tactic| walk_at "sp") => `(tactic| fail "sp")
local macro_rules | `(tactic| walk_at "cl") => `(tactic| with_reducible assumption)
local macro_rules | `(tactic| walk_at "lk") => `(tactic| with_reducible assumption)
local macro_rules | `(tactic| walk_at "it") => `(tactic| first | rfl | with_reducible assumption | exact atI_nat (by with_reducible assumption))
local macro_rules | `(tactic| walk_at "g1") => `(tactic| first
  | (with_reducible apply g_var); (focus rfl)
  | with_reducible apply g_c
  | with_reducible apply g_seq
  | with_reducible apply g_asg
  | with_reducible apply gg_name
  | with_reducible apply g_op
  | with_reducible apply g_cons
  | with_reducible apply g_nil
  | with_reducible apply g_cb
  | with_reducible apply g_fld
  | ((with_reducible apply g_kFld); (focus walk_at "hp"); (focus walk_at "cl"); (focus walk_at "cl"); (focus walk_at "lk"))
  | with_reducible apply g_call
  | walk_at "sp"
  | with_reducible apply g_ret
  | with_reducible apply g_drop
  | with_reducible apply g_test
  | with_reducible apply g_B
  | with_reducible apply g_kTest
  | with_reducible apply g_ifS
  | with_reducible apply g_kIfST
  | with_reducible apply g_kIfSF
  | with_reducible apply g_add
  | with_reducible apply g_sub
  | with_reducible apply g_lt
  | with_reducible apply g_le
  | with_reducible apply g_gt
  | with_reducible apply g_ge
  | with_reducible apply g_eqI
  | with_reducible apply g_neI
  | ((with_reducible apply g_mod); (focus first | decide | omega))
  | ((with_reducible apply g_mul); (focus first | (left; constructor <;> omega) | (right; constructor <;> omega)))
  | ((with_reducible apply g_fdiv); (focus (constructor <;> omega)))
  | ((with_reducible apply g_ixT); (focus walk_at "hp"); (focus walk_at "it"))
  | ((with_reducible apply g_ixL); (focus walk_at "hp"); (focus walk_at "it"))
  | with_reducible apply g_and
  | with_reducible apply g_or
  | with_reducible apply g_not
  | with_reducible apply g_kNotT
  | with_reducible apply g_kNotF
  | with_reducible apply g_if
  | with_reducible apply g_kAndT
  | with_reducible apply g_kAndF
  | with_reducible apply g_kOrT
  | with_reducible apply g_kOrF
  | with_reducible apply g_kIfT
  | with_reducible apply g_kIfF
  | with_reducible apply g_next
  | with_reducible apply g_andV
  | with_reducible apply g_orV
  | with_reducible apply g_notV
  | with_reducible apply g_kNotV
  | with_reducible apply g_kAndVT
  | with_reducible apply g_kAndVF
  | with_reducible apply g_chain
  | with_reducible apply g_kChainT
  | with_reducible apply g_kChainF
  | with_reducible apply g_tup
  | with_reducible apply g_lst
  | ((with_reducible apply g_kT); (focus walk_at "sz"); intro _ _ _ _ _)
  | ((with_reducible apply g_kL); (focus walk_at "sz"); intro _ _ _ _ _)
  | with_reducible apply g_un
  | with_reducible apply g_neg
  | with_reducible apply g_meth
  | ((with_reducible apply g_kMeth); (focus walk_at "hp"); (focus walk_at "lk"))
  | with_reducible apply g_prop
  | ((with_reducible apply g_kProp); (focus walk_at "hp"))
  | with_reducible apply g_make
  | with_reducible apply g_par
  | with_reducible apply g_kPar
  | ((with_reducible apply g_lenLM); (focus walk_at "hp"))
  | ((with_reducible apply g_lenTM); (focus walk_at "hp"))
  | ((with_reducible apply g_lenL); (focus walk_at "hp"))
  | ((with_reducible apply g_lenT); (focus walk_at "hp"))
  | with_reducible apply g_int1
  | with_reducible apply g_max2
  | with_reducible apply g_min2
  | ((with_reducible apply g_listL); (focus walk_at "hp"); intro _ _ _ _ _)
  | ((with_reducible apply g_listT); (focus walk_at "hp"); intro _ _ _ _ _)
  | ((with_reducible apply g_tupL); (focus walk_at "hp"); intro _ _ _ _ _)
  | ((with_reducible apply g_sum); (focus walk_at "hp"))
  | with_reducible apply g_sfld
  | with_reducible apply g_sl
  | with_reducible apply g_nopart
  | with_reducible apply g_part
  | with_reducible apply g_kPart
  | with_reducible apply g_lstRg
  | with_reducible apply g_rg1
  | with_reducible apply g_kRg1
  | with_reducible apply g_bm
  | with_reducible apply gg_sub
  | ((with_reducible apply gg_tup); (focus walk_at "hp"); (focus rfl))
  | with_reducible apply gg_cons
  | with_reducible apply gg_nil
  | with_reducible apply g_forL
  | with_reducible apply g_forT
  | with_reducible apply g_forR1
  | with_reducible apply g_forR2
  | with_reducible apply g_forE
  | with_reducible apply g_forEL
  | ((with_reducible apply g_maxT); (focus walk_at "hp"); (focus walk_at "nn"))
  | ((with_reducible apply g_maxL); (focus walk_at "hp"); (focus walk_at "nn"))
  | ((with_reducible apply g_catA); (focus walk_at "hp"); (focus walk_at "hp"); (focus walk_at "sz"); intro _ _ _ _)
  | ((with_reducible apply g_slA); (focus walk_at "hp"); intro _ _ _ _)
  | ((with_reducible apply g_tupD); (focus walk_at "hp"); intro _ _ _ _ _)
  | ((with_reducible apply g_setL); (focus walk_at "hp"); (focus walk_at "ix"); intro _ _ _)
  | ((with_reducible apply g_append); (focus walk_at "hp"); (focus walk_at "sl"); intro _ _ _)
  | ((with_reducible apply g_aug); (focus rfl))
  | with_reducible apply g_ipI
  | with_reducible apply g_retN
  | with_reducible apply g_lcR1
  | with_reducible apply g_lcR2
  | with_reducible apply g_lcL
  | with_reducible apply g_lcU
  | with_reducible apply g_lcN
  | ((with_reducible apply g_kLcG); (focus rfl))
  | with_reducible apply g_yes
  | with_reducible apply g_kLcTT
  | with_reducible apply g_kLcTF
  | ((with_reducible apply g_kLcE); (focus walk_at "hp"); (focus walk_at "sl"); intro _ _ _)
  | ((with_reducible apply g_pow); (focus (constructor <;> (try constructor) <;> decide)))
  | ((with_reducible apply g_kLRg); (focus walk_at "rg"); intro _ _ _ _ _)
  | ((with_reducible apply g_cat); (focus walk_at "hp"); (focus walk_at "hp"); (focus walk_at "sz"); intro _ _ _ _ _)
  | ((with_reducible apply g_slL); (focus walk_at "hp"); intro _ _ _ _ _)
  | with_reducible apply g_bmT
  | with_reducible apply g_break
  | with_reducible apply g_cont)
local macro_rules | `(tactic| walk_at "g0") => `(tactic| try dsimp only [L2.cxOf, L2.Cx.nox, L2.Cx.wish])
local macro_rules | `(tactic| walk_at "yn") => `(tactic| first
  | ((with_reducible apply y_kIfS); (focus walk_at "tr"))
  | ((with_reducible apply n_kIfS); (focus walk_at "tr"))
  | ((with_reducible apply y_kOr); (focus walk_at "tr"))
  | ((with_reducible apply n_kOr); (focus walk_at "tr"))
  | ((with_reducible apply y_kAnd); (focus walk_at "tr"))
  | ((with_reducible apply n_kAnd); (focus walk_at "tr"))
  | ((with_reducible apply y_kNot); (focus walk_at "tr"))
  | ((with_reducible apply n_kNot); (focus walk_at "tr"))
  | ((with_reducible apply y_kIf); (focus walk_at "tr"))
  | ((with_reducible apply n_kIf); (focus walk_at "tr"))
  | ((with_reducible apply y_kAndV); (focus walk_at "tr"))
  | ((with_reducible apply n_kAndV); (focus walk_at "tr"))
  | ((with_reducible apply y_kOrV); (focus walk_at "tr"))
  | ((with_reducible apply n_kOrV); (focus walk_at "tr"))
  | ((with_reducible apply y_kChain); (focus walk_at "tr"))
  | ((with_reducible apply n_kChain); (focus walk_at "tr"))
  | ((with_reducible apply y_kLcT); (focus walk_at "tr"))
  | ((with_reducible apply n_kLcT); (focus walk_at "tr"))
  | ((with_reducible apply y_kWh); (focus walk_at "tr"))
  | ((with_reducible apply n_kWh); (focus walk_at "tr")))
local macro_rules | `(tactic| walk_at "go") => `(tactic| repeat (first | walk_at "g1" | walk_at "yn"))

/-! ### rings as data -/
structure RingOk (ds hs : List Int) : Prop where
  two : 2 ≤ ds.length
  eight : ds.length ≤ 8
  len : hs.length = ds.length
  dd : ∀ d ∈ ds, 1 ≤ d ∧ d ≤ 30
  hh : ∀ h ∈ hs, 0 ≤ h ∧ h ≤ 12
  one : 1 ≤ hs.sum
  twelve : hs.sum ≤ 12
def rf (a b : Addr) (B : Int) : List (Str × V) := [("spans", .ref a), ("heaps", .ref b), ("total", .int B)]
theorem s_sh : ¬ ("spans" : Str) = "heaps" := by decide +kernel
theorem s_st : ¬ ("spans" : Str) = "total" := by decide +kernel
theorem s_ht : ¬ ("heaps" : Str) = "total" := by decide +kernel
theorem s_hs : ¬ ("heaps" : Str) = "spans" := by decide +kernel
theorem rf_eq (a b : Addr) (B : Int) : putF "total" (.int B) (putF "heaps" (.ref b) (putF "spans" (.ref a) [])) = rf a b B := by
  show (if ("spans" : Str) = "total" then _ else _) = _
  unfold rf
  have e1 : putF "heaps" (.ref b) [(("spans" : Str), V.ref a)] = [(("spans" : Str), V.ref a), (("heaps" : Str), V.ref b)] := by
    show (if ("spans" : Str) = "heaps" then _ else _) = _
    rw [if_neg s_sh]
    rfl
  show putF "total" (.int B) (putF "heaps" (.ref b) [(("spans" : Str), V.ref a)]) = _
  rw [e1]
  show (if ("spans" : Str) = "total" then _ else (("spans" : Str), V.ref a) :: (if ("heaps" : Str) = "total" then _ else _)) = _
  rw [if_neg s_st, if_neg s_ht]
  rfl
theorem rf_look (a b : Addr) (B : Int) (f : Str) : (rf a b B).lookup f = if f = "total" then some (.int B) else if f = "heaps" then some (.ref b) else if f = "spans" then some (.ref a) else none := by
  rw [← rf_eq, lookup_putF, lookup_putF, lookup_putF]
  rfl
theorem rf_spans {a b : Addr} {B : Int} : (rf a b B).lookup ("spans" : Str) = some (.ref a) := by rw [rf_look, if_neg s_st, if_neg s_sh, if_pos rfl]
theorem rf_heaps {a b : Addr} {B : Int} : (rf a b B).lookup ("heaps" : Str) = some (.ref b) := by rw [rf_look, if_neg s_ht, if_pos rfl]
theorem rf_total {a b : Addr} {B : Int} : (rf a b B).lookup ("total" : Str) = some (.int B) := by rw [rf_look, if_pos rfl]
theorem rf_no {a b : Addr} {B : Int} {f : Str} (h1 : ¬ f = "total") (h2 : ¬ f = "heaps") (h3 : ¬ f = "spans") : (rf a b B).lookup f = none := by rw [rf_look, if_neg h1, if_neg h2, if_neg h3]
theorem rf_nr {a b : Addr} {B : Int} : (rf a b B).lookup ("need_reader" : Str) = none := rf_no (by decide +kernel) (by decide +kernel) (by decide +kernel)
theorem rf_wd {a b : Addr} {B : Int} : (rf a b B).lookup ("with_days" : Str) = none := rf_no (by decide +kernel) (by decide +kernel) (by decide +kernel)
structure RingC (K : PySem.W.Frag) (C : Addr) : Prop where
  cl : Cls K C
  nS : NoAttr K C "spans"
  nH : NoAttr K C "heaps"
  nT : NoAttr K C "total"
/-- the ring at r -/
structure RingIn (K : PySem.W.Frag) (C : Addr) (H : Hp) (r a b : Addr) (ds hs : List Int) : Prop where
  obj : ∃ dx, H r = some (.ins C dx (rf a b hs.sum))
  sp : SqT K H a (ds.map V.int)
  hp : SqT K H b (hs.map V.int)
  ok : RingOk ds hs
def RingAt (K : PySem.W.Frag) (C : Addr) (H : Hp) (r : Addr) (ds hs : List Int) : Prop := ∃ a b, RingIn K C H r a b ds hs
section
variable {K : PySem.W.Frag} {C : Addr} {H H' : Hp} {r a b l : Addr} {ds hs : List Int} {ys : List V}
theorem RingIn.ex (e : Ex H H') (R : RingIn K C H r a b ds hs) : RingIn K C H' r a b ds hs :=
  ⟨let ⟨dx, h⟩ := R.obj; ⟨dx, e _ _ h⟩, ex_t e R.sp, ex_t e R.hp, R.ok⟩
theorem RingIn.exb (e : Exb l H H') (hl : H l = some (.lst ys)) (R : RingIn K C H r a b ds hs) : RingIn K C H' r a b ds hs :=
  ⟨let ⟨dx, h⟩ := R.obj; ⟨dx, exb_ins e hl h⟩, exb_t e hl R.sp, exb_t e hl R.hp, R.ok⟩
theorem RingAt.ex (e : Ex H H') (R : RingAt K C H r ds hs) : RingAt K C H' r ds hs := let ⟨a, b, R⟩ := R; ⟨a, b, R.ex e⟩
theorem RingAt.exb (e : Exb l H H') (hl : H l = some (.lst ys)) (R : RingAt K C H r ds hs) : RingAt K C H' r ds hs := let ⟨a, b, R⟩ := R; ⟨a, b, R.exb e hl⟩
end
local macro_rules | `(tactic| walk_at "hp") => `(tactic| first
  | ((with_reducible apply RingIn.ex); (focus walk_at "as"); walk_at "hp")
  | ((with_reducible apply RingAt.ex); (focus walk_at "as"); walk_at "hp")
  | ((with_reducible apply RingIn.exb); (focus walk_at "as"); (focus walk_at "hp"); walk_at "hp")
  | ((with_reducible apply RingAt.exb); (focus walk_at "as"); (focus walk_at "hp"); walk_at "hp"))
local macro_rules | `(tactic| walk_at "lk") => `(tactic| first | with_reducible exact rf_spans | with_reducible exact rf_heaps | with_reducible exact rf_total | with_reducible exact rf_nr | with_reducible exact rf_wd)
/-! ### what isinstance says of plain values -/
def isI : V → Bool
  | .int _ => true
  | .bl _ => true
  | _ => false
def isB : V → Bool
  | .bl _ => true
  | _ => false
def inB (lo hi : Int) : V → Bool
  | .int i => decide (lo ≤ i) && decide (i ≤ hi)
  | _ => false
inductive Pl (K : PySem.W.Frag) (H : Hp) : V → Prop where
  | non : Pl K H .non
  | bl (b : Bool) : Pl K H (.bl b)
  | int (i : Int) : Pl K H (.int i)
  | str (x : Str) : Pl K H (.str x)
  | lst {a : Addr} {xs : List V} (h : H a = some (.lst xs)) : Pl K H (.ref a)
  | tup {a : Addr} {xs : List V} (h : H a = some (.tup xs)) : Pl K H (.ref a)
theorem kit_ii : kitB "int" "int" = some true := by decide +kernel
theorem kit_ib : kitB "int" "bool" = some false := by decide +kernel
theorem kit_bi : kitB "bool" "int" = some true := by decide +kernel
theorem kit_bb : kitB "bool" "bool" = some true := by decide +kernel
theorem kit_si : kitB "str" "int" = some false := by decide +kernel
theorem kit_sb : kitB "str" "bool" = some false := by decide +kernel
theorem kit_ni : kitB "NoneType" "int" = some false := by decide +kernel
theorem kit_nb : kitB "NoneType" "bool" = some false := by decide +kernel
theorem kit_li : kitB "list" "int" = some false := by decide +kernel
theorem kit_lb : kitB "list" "bool" = some false := by decide +kernel
theorem kit_ti : kitB "tuple" "int" = some false := by decide +kernel
theorem kit_tb : kitB "tuple" "bool" = some false := by decide +kernel
theorem kit_tt : kitB "tuple" "tuple" = some true := by decide +kernel
theorem kit_ll : kitB "list" "list" = some true := by decide +kernel
theorem Pl.ty {K : PySem.W.Frag} {H : Hp} {v : V} (h : Pl K H v) : ∃ u, TyX K H v u ∧ PySem.W.kitOne K u (.type "int") = some (isI v) ∧ PySem.W.kitOne K u (.type "bool") = some (isB v) := by
  cases h with
  | non => exact ⟨_, .base .non, kit_ty kit_ni, kit_ty kit_nb⟩
  | bl b => exact ⟨_, .base (.bl b), kit_ty kit_bi, kit_ty kit_bb⟩
  | int i => exact ⟨_, .base (.int i), kit_ty kit_ii, kit_ty kit_ib⟩
  | str x => exact ⟨_, .base (.str x), kit_ty kit_si, kit_ty kit_sb⟩
  | lst h => exact ⟨_, .base (.lst h), kit_ty kit_li, kit_ty kit_lb⟩
  | tup h => exact ⟨_, .base (.tup h), kit_ty kit_ti, kit_ty kit_tb⟩
theorem sqT_ty {K : PySem.W.Frag} {H : Hp} {a : Addr} {xs : List V} (h : SqT K H a xs) : TyX K H (.ref a) (.type "tuple") := by
  rcases h with (h | ⟨o, h⟩) | ⟨o, its, n, h, hc, _⟩
  · exact .base (.tup h)
  · exact .fTuple h
  · exact .kTuple h hc
theorem sqL_ty {K : PySem.W.Frag} {H : Hp} {a : Addr} {xs : List V} (h : SqL K H a xs) : TyX K H (.ref a) (.type "list") := by
  rcases h with (h | ⟨o, h⟩) | ⟨o, its, n, h, hc, _⟩
  · exact .base (.lst h)
  · exact .base (.frz h)
  · exact .kList h hc
theorem g_isiTup {K : PySem.W.Frag} {H : Hp} {a : Addr} {xs : List V} {Q : VK} (h : SqT K H a xs) (q : Q (.bl true) H) : rIsi K [.ref a, .ty "tuple"] H Q := g_isi (.ty _) (sqT_ty h) (kit_ty kit_tt) q
theorem g_isiLst {K : PySem.W.Frag} {H : Hp} {a : Addr} {xs : List V} {Q : VK} (h : SqL K H a xs) (q : Q (.bl true) H) : rIsi K [.ref a, .ty "list"] H Q := g_isi (.ty _) (sqL_ty h) (kit_ty kit_ll) q
local macro_rules | `(tactic| walk_at "sp") => `(tactic| first
  | ((with_reducible apply g_isiTup); (focus walk_at "hp"))
  | ((with_reducible apply g_isiLst); (focus walk_at "hp")))
section
variable {P : Program} {w : World} {K : PySem.W.Frag} {mg : Str → Option Value} {base : Heap} {C : Addr}
/-! ### is_integer, check_number -/
def sp_is_integer (K : PySem.W.Frag) : Sp := fun vs H Q _ => ∃ v lo hi, vs = [v, .int lo, .int hi] ∧ Pl K H v ∧ Q (.bl (inB lo hi v)) H
theorem ok_is_integer (Z : Blt mg) (G : GFun K mg "is_integer" s_is_integer) : Df P w K mg base 1 "is_integer" ["value", "low", "high"] (sp_is_integer K) := by
  refine Df.of G sc_is_integer b_is_integer (fun vs H Q E h => ?_) (fun f cdv A outer s H vs Q E hr h => ?_)
  · obtain ⟨v, lo, hi, rfl, _⟩ := h
    rfl
  · obtain ⟨v, lo, hi, rfl, hp, q⟩ := h
    obtain ⟨u, ty, k1, k2⟩ := hp.ty
    refine ⟨_, PSs.nox (pss_one (ps_ret (pe_and (pe_callB call_isi (by rfl) Z.zisinstance (by decide +kernel) (pa_cons (pv 0) (pa_cons (pe_bltn rfl Z.zint (v := .ty "int") (by decide +kernel) rfl) pa_nil))) (pe_and (pe_not (pe_callB call_isi (by rfl) Z.zisinstance (by decide +kernel) (pa_cons (pv 0) (pa_cons (pe_bltn rfl Z.zbool (v := .ty "bool") (by decide +kernel) rfl) pa_nil)))) (pe_one (pe_chain op_le op_le (pv 1) (pv 0) (pv 2))))))), ?_⟩
    walk_at "g0"
    walk_at "go"
    refine g_isi (.ty _) ty k1 ?_
    cases v with
    | int i =>
      refine g_kAndVT ?_
      walk_at "go"
      refine g_isi (.ty _) ty k2 ?_
      walk_at "go"
      refine g_kChain (fun h2 => ?_) (fun h2 => ?_)
      · walk_at "go"
        show Q _ _
        have e : inB lo hi (.int i) = decide (i ≤ hi) := by simp [inB, h2]
        rw [e] at q
        exact q
      · have e : inB lo hi (.int i) = false := by simp [inB, h2]
        rw [e] at q
        exact q
    | bl b =>
      refine g_kAndVT ?_
      walk_at "go"
      refine g_isi (.ty _) ty k2 ?_
      walk_at "go"
      exact q
    | _ => exact g_kAndVF q
theorem g_isint {H : Hp} {Q : VK} {E : XK} {i lo hi : Int} (h1 : lo ≤ i) (h2 : i ≤ hi) (q : Q (.bl true) H) : sp_is_integer K [.int i, .int lo, .int hi] H Q E :=
  ⟨_, lo, hi, rfl, .int i, by
    show Q (.bl (decide (lo ≤ i) && decide (i ≤ hi))) H
    rw [decide_eq_true h1, decide_eq_true h2]
    exact q⟩
local macro_rules | `(tactic| walk_at "sp") => `(tactic| ((with_reducible apply g_isint); (focus omega); (focus omega)))
def sp_check_number : Sp := fun vs H Q _ => ∃ i lo hi, vs = [.int i, .int lo, .int hi] ∧ (lo ≤ i ∧ i ≤ hi) ∧ Q .non H
theorem ok_check_number (Z : Blt mg) (D_is_integer : Df P w K mg base 1 "is_integer" ["value", "low", "high"] (sp_is_integer K)) (G : GFun K mg "check_number" s_check_number) : Df P w K mg base 2 "check_number" ["number", "low", "high"] sp_check_number := by
  refine Df.of G sc_check_number b_check_number (fun vs H Q E h => ?_) (fun f cdv A outer s H vs Q E hr h => ?_)
  · obtain ⟨i, lo, hi, rfl, _⟩ := h
    rfl
  · obtain ⟨i, lo, hi, rfl, ⟨h1, h2⟩, q⟩ := h
    refine ⟨_, PSs.nox (pss_one (ps_if (pt_not (pt_val (pg D_is_integer hr (pa_cons (pv 0) (pa_cons (pv 1) (pa_cons (pv 2) pa_nil)))))) (pss_one ps_never) pss_nil)), ?_⟩
    walk_at "g0"
    walk_at "go"
    exact q
theorem g_checkn {H : Hp} {Q : VK} {E : XK} {i lo hi : Int} (h1 : lo ≤ i) (h2 : i ≤ hi) (q : Q .non H) : sp_check_number [.int i, .int lo, .int hi] H Q E := ⟨i, lo, hi, rfl, ⟨h1, h2⟩, q⟩
local macro_rules | `(tactic| walk_at "sp") => `(tactic| ((with_reducible apply g_checkn); (focus omega); (focus omega)))
/-! ### check_days, check_starts -/
def sp_check_days (K : PySem.W.Frag) : Sp := fun vs H Q _ => ∃ (a : Addr) (ds : List Int), vs = [.ref a] ∧ SqT K H a (ds.map V.int) ∧ (2 ≤ ds.length ∧ ds.length ≤ 8) ∧ (∀ d ∈ ds, 1 ≤ d ∧ d ≤ 30) ∧ ∀ H', Ex H H' → Q .non H'
theorem at_int {ns : List Int} {i : Nat} {x : V} (h : (ns.map V.int)[i]? = some x) : ∃ n, x = .int n ∧ ns[i]? = some n ∧ n ∈ ns ∧ i < ns.length := by
  rw [List.getElem?_map] at h
  cases e : ns[i]? with
  | none => rw [e] at h; cases h
  | some n =>
    rw [e] at h
    exact ⟨n, (Option.some.inj h).symm, rfl, List.mem_of_getElem? e, (List.getElem?_eq_some_iff.mp e).1⟩
theorem ok_check_days (Z : Blt mg) (c_MAX_READERS : ∃ t, mg "MAX_READERS" = some (.int 8 t)) (c_MAX_DAYS : ∃ t, mg "MAX_DAYS" = some (.int 30 t))
    (D_is_integer : Df P w K mg base 1 "is_integer" ["value", "low", "high"] (sp_is_integer K)) (G : GFun K mg "check_days" s_check_days) : Df P w K mg base 2 "check_days" ["days"] (sp_check_days K) := by
  refine Df.of G sc_check_days b_check_days (fun vs H Q E h => ?_) (fun f cdv A outer s H vs Q E hr h => ?_)
  · obtain ⟨a, ds, rfl, _⟩ := h
    rfl
  · obtain ⟨a, ds, rfl, hS, ⟨h2, h8⟩, hd, q⟩ := h
    refine ⟨_, PSs.nox (pss_cons (ps_if (pt_not (pt_val (pe_callB call_isi (by rfl) Z.zisinstance (by decide +kernel) (pa_cons (pv 0) (pa_cons (pe_bltn rfl Z.ztuple (v := .ty "tuple") (by decide +kernel) rfl) pa_nil))))) (pss_one ps_never) pss_nil)
      (pss_cons (ps_for PassesOwn.never rfl (pi_enumT (by rfl) Z.zenumerate (pa_cons (pv 0) pa_nil)) (pg_tup (by rfl) (pgs_cons (pg_name (i := 1) sc_check_days.nd rfl (by first | exact Or.inl rfl | exact Or.inr rfl)) (pgs_cons (pg_name (i := 2) sc_check_days.nd rfl (by first | exact Or.inl rfl | exact Or.inr rfl)) pgs_nil))) (pss_one (ps_if (PW.pt (pw_or (pt_cmpR op_eq (pv 1) (pint c_MAX_READERS) (nomark _)) (pw_or1 (pt_not (pt_val (pg D_is_integer hr (pa_cons (pv 2) (pa_cons pe_int (pa_cons (pint c_MAX_DAYS) pa_nil))))))))) (pss_one ps_never) pss_nil)))
      (pss_one (ps_if (pt_cmpR op_lt (pe_callB c_len (by rfl) Z.zlen PySem.boot_len (pa_cons (pv 0) pa_nil)) pe_int (nomark _)) (pss_one ps_never) pss_nil)))), ?_⟩
    walk_at "g0"
    walk_at "go"
    refine g_kForE hS (fun i σ H' => ∃ v1 v2, σ = [some (.ref a), v1, v2] ∧ Ex H H') ⟨none, none, rfl, Ex.refl _⟩ (fun i σ H' _ ⟨_, _, _, e⟩ => ex_t e hS) ?_ ?_
    · rintro i x σ H' T H2 hx ⟨v1, v2, rfl, e1⟩ e2 nT hT
      obtain ⟨n, rfl, hn, hm, hi⟩ := at_int hx
      have := hd n hm
      walk_at "go"
      exact ⟨_, _, rfl, e1.trans e2⟩
    · rintro σ H' ⟨v1, v2, rfl, e1⟩
      walk_at "go"
      exact q _ e1
theorem g_checkd {H : Hp} {Q : VK} {E : XK} {a : Addr} {ds : List Int} (h : SqT K H a (ds.map V.int)) (h2 : 2 ≤ ds.length) (h8 : ds.length ≤ 8) (hd : ∀ d ∈ ds, 1 ≤ d ∧ d ≤ 30) (q : ∀ H', Ex H H' → Q .non H') : sp_check_days K [.ref a] H Q E := ⟨a, ds, rfl, h, ⟨h2, h8⟩, hd, q⟩
def sp_check_starts (K : PySem.W.Frag) : Sp := fun vs H Q _ => ∃ (a b : Addr) (ds hs : List Int), vs = [.ref a, .ref b] ∧ SqT K H a (ds.map V.int) ∧ SqT K H b (hs.map V.int) ∧ RingOk ds hs ∧ ∀ H', Ex H H' → Q .non H'
theorem ok_check_starts (Z : Blt mg) (c_MAX_BOOKS : ∃ t, mg "MAX_BOOKS" = some (.int 12 t))
    (D_is_integer : Df P w K mg base 1 "is_integer" ["value", "low", "high"] (sp_is_integer K)) (G : GFun K mg "check_starts" s_check_starts) : Df P w K mg base 2 "check_starts" ["days", "starts"] (sp_check_starts K) := by
  refine Df.of G sc_check_starts b_check_starts (fun vs H Q E h => ?_) (fun f cdv A outer s H vs Q E hr h => ?_)
  · obtain ⟨a, b, ds, hs, rfl, _⟩ := h
    rfl
  · obtain ⟨a, b, ds, hs, rfl, hS, hT, R, q⟩ := h
    have r1 := R.len
    have r2 := R.one
    have r3 := R.twelve
    refine ⟨_, PSs.nox (pss_cons (ps_if (pt_not (pt_val (pe_callB call_isi (by rfl) Z.zisinstance (by decide +kernel) (pa_cons (pv 1) (pa_cons (pe_bltn rfl Z.ztuple (v := .ty "tuple") (by decide +kernel) rfl) pa_nil))))) (pss_one ps_never) pss_nil)
      (pss_cons (ps_for PassesOwn.never rfl (pi_enumT (by rfl) Z.zenumerate (pa_cons (pv 1) pa_nil)) (pg_tup (by rfl) (pgs_cons (pg_name (i := 2) sc_check_starts.nd rfl (by first | exact Or.inl rfl | exact Or.inr rfl)) (pgs_cons (pg_name (i := 3) sc_check_starts.nd rfl (by first | exact Or.inl rfl | exact Or.inr rfl)) pgs_nil))) (pss_one (ps_if (PW.pt (pw_or (pt_cmpR op_eq (pv 2) (pe_callB c_len (by rfl) Z.zlen PySem.boot_len (pa_cons (pv 0) pa_nil)) (nomark _)) (pw_or1 (pt_not (pt_val (pg D_is_integer hr (pa_cons (pv 3) (pa_cons pe_int (pa_cons (pint c_MAX_BOOKS) pa_nil))))))))) (pss_one ps_never) pss_nil)))
      (pss_cons (ps_if (pt_cmpR op_lt (pe_callB c_len (by rfl) Z.zlen PySem.boot_len (pa_cons (pv 1) pa_nil)) (pe_callB c_len (by rfl) Z.zlen PySem.boot_len (pa_cons (pv 0) pa_nil)) (nomark _)) (pss_one ps_never) pss_nil)
      (pss_one (ps_if (pt_not (pt_chain op_le op_le pe_int (pe_callB (cr_sum rfl) (by rfl) Z.zsum (by decide +kernel) (pa_cons (pe_callTy c_list_of (by rfl) Z.zlist (by decide +kernel) (pa_cons (pv 1) pa_nil)) pa_nil)) (pint c_MAX_BOOKS))) (pss_one ps_never) pss_nil))))), ?_⟩
    walk_at "g0"
    walk_at "go"
    refine g_kForE hT (fun i σ H' => ∃ v1 v2, σ = [some (.ref a), some (.ref b), v1, v2] ∧ Ex H H') ⟨none, none, rfl, Ex.refl _⟩ (fun i σ H' _ ⟨_, _, _, e⟩ => ex_t e hT) ?_ ?_
    · rintro i x σ H' T H2 hx ⟨v1, v2, rfl, e1⟩ e2 nT hT2
      obtain ⟨n, rfl, hn, hm, hi⟩ := at_int hx
      have := R.hh n hm
      walk_at "go"
      exact ⟨_, _, rfl, e1.trans e2⟩
    · rintro σ H' ⟨v1, v2, rfl, e1⟩
      walk_at "go"
      rename_i e3 _
      exact q _ (e1.trans e3)
theorem g_checks {H : Hp} {Q : VK} {E : XK} {a b : Addr} {ds hs : List Int} (h : SqT K H a (ds.map V.int)) (h2 : SqT K H b (hs.map V.int)) (R : RingOk ds hs) (q : ∀ H', Ex H H' → Q .non H') : sp_check_starts K [.ref a, .ref b] H Q E := ⟨a, b, ds, hs, rfl, h, h2, R, q⟩
/-! ### lowest_terms, pace_of -/
/-- a fraction in lowest terms -/
def low (a b : Int) : Int × Int := (a / (Int.gcd a b : Int), b / (Int.gcd a b : Int))
def RTup (K : PySem.W.Frag) (H : Hp) (xs : List V) (Q : VK) : Prop := ∀ p H', Ex H H' → SqT K H' p xs → Q (.ref p) H'
def sp_lowest_terms (K : PySem.W.Frag) : Sp := fun vs H Q _ => ∃ a b : Int, vs = [.int a, .int b] ∧ (0 < a ∧ 0 < b ∧ b < 1073741824) ∧ RTup K H [.int (low a b).1, .int (low a b).2] Q
theorem gcd_step (a b : Int) : Int.gcd b (a % b) = Int.gcd a b := by
  rw [Int.gcd_comm a b, Int.emod_def, Int.gcd_sub_mul_left_right]
theorem g_lowest {H : Hp} {Q : VK} {E : XK} {a b : Int} (h1 : 0 < a) (h2 : 0 < b) (h3 : b < 1073741824) (q : RTup K H [.int (low a b).1, .int (low a b).2] Q) : sp_lowest_terms K [.int a, .int b] H Q E := ⟨a, b, rfl, ⟨h1, h2, h3⟩, q⟩
/-- the pace -/
def paceN (ds : List Int) (B : Int) : Int × Int := if ds.sum ≤ mx ds * B then (mx ds, 1) else low ds.sum B
def PaceV (ds : List Int) (B : Int) : List V := [.int (paceN ds B).1, .int (paceN ds B).2]
structure DaysOk (ds : List Int) : Prop where
  two : 2 ≤ ds.length
  eight : ds.length ≤ 8
  dd : ∀ d ∈ ds, 1 ≤ d ∧ d ≤ 30
theorem DaysOk.ne {ds : List Int} (h : DaysOk ds) : ds ≠ [] := fun e => by
  have := h.two
  rw [e] at this
  simp at this
theorem DaysOk.mx {ds : List Int} (h : DaysOk ds) : 1 ≤ mx ds ∧ mx ds ≤ 30 := h.dd _ (mx_mem h.ne)
theorem sum_le {ds : List Int} {lo hi : Int} (h : ∀ d ∈ ds, lo ≤ d ∧ d ≤ hi) : lo * ds.length ≤ ds.sum ∧ ds.sum ≤ hi * ds.length := by
  induction ds with
  | nil => simp
  | cons x r ih =>
    have h1 := h x List.mem_cons_self
    have h2 := ih fun d hd => h d (List.mem_cons_of_mem _ hd)
    rw [List.sum_cons, List.length_cons]
    have e1 : lo * ((r.length + 1 : Nat) : Int) = lo * r.length + lo := by
      rw [Int.natCast_add, Int.mul_add]
      simp
    have e2 : hi * ((r.length + 1 : Nat) : Int) = hi * r.length + hi := by
      rw [Int.natCast_add, Int.mul_add]
      simp
    omega
theorem DaysOk.sum {ds : List Int} (h : DaysOk ds) : 2 ≤ ds.sum ∧ ds.sum ≤ 240 := by
  have h1 := sum_le h.dd
  have h2 := h.two
  have h3 := h.eight
  omega
theorem RingOk.days {ds hs : List Int} (h : RingOk ds hs) : DaysOk ds := ⟨h.two, h.eight, h.dd⟩
def sp_pace_of (K : PySem.W.Frag) : Sp := fun vs H Q _ => ∃ (a : Addr) (ds : List Int) (B : Int), vs = [.ref a, .int B] ∧ SqT K H a (ds.map V.int) ∧ DaysOk ds ∧ (1 ≤ B ∧ B ≤ 1000) ∧ RTup K H (PaceV ds B) Q
theorem g_paceof {H : Hp} {Q : VK} {E : XK} {a : Addr} {ds : List Int} {B : Int} (h : SqT K H a (ds.map V.int)) (hd : DaysOk ds) (hb : 1 ≤ B ∧ B ≤ 1000) (q : ∀ p H', Ex H H' → SqT K H' p (PaceV ds B) → Q (.ref p) H') : sp_pace_of K [.ref a, .int B] H Q E := ⟨a, ds, B, rfl, h, hd, hb, q⟩
/-! ### Ring -/
def sp_Ring_init (K : PySem.W.Frag) (C : Addr) : Sp := fun vs H Q _ => ∃ (x a b dx : Addr) (ds hs : List Int), vs = [.ref x, .ref a, .ref b] ∧ H x = some (.ins C dx []) ∧ SqT K H a (ds.map V.int) ∧ SqT K H b (hs.map V.int) ∧ RingOk ds hs ∧
  ∀ H', Exb x H H' → RingIn K C H' x a b ds hs → Q .non H'
theorem exb_ti {K : PySem.W.Frag} {H H' : Hp} {l a C dx : Addr} {xs : List V} {fs : List (Str × V)} (e : Exb l H H') (hl : H l = some (.ins C dx fs)) (h : SqT K H a xs) : SqT K H' a xs := by
  rcases h with (h | ⟨o, h⟩) | h
  · exact .inl (.inl (e _ _ (ne_of h hl (by intro z; cases z)) h))
  · exact .inl (.inr ⟨o, e _ _ (ne_of h hl (by intro z; cases z)) h⟩)
  · exact .inr h
theorem ok_Ring_init (Z : Blt mg) (R : RingC K C) (D_check_days : Df P w K mg base 2 "check_days" ["days"] (sp_check_days K)) (D_check_starts : Df P w K mg base 2 "check_starts" ["days", "starts"] (sp_check_starts K))
    (G : IFun K mg "Ring" C "Ring.__init__" s_Ring___init__) : If P w K mg base "Ring" C 3 ["self", "days", "starts"] (sp_Ring_init K C) := by
  refine If.of G sc_Ring___init__ b_Ring___init__ (fun vs H Q E h => ?_) (fun f cdv A outer s H vs Q E hr h => ?_)
  · obtain ⟨x, a, b, dx, ds, hs, rfl, _⟩ := h
    rfl
  · obtain ⟨x, a, b, dx, ds, hs, rfl, hx, hS, hT, O, q⟩ := h
    obtain ⟨cl_Ring, nS, nH, nT⟩ := R
    refine ⟨_, PSs.nox (pss_cons (ps_expr (pg D_check_days hr (pa_cons (pv 1) pa_nil)))
      (pss_cons (ps_expr (pg D_check_starts hr (pa_cons (pv 1) (pa_cons (pv 2) pa_nil))))
      (pss_cons (ps_fld (pv 0) (pv 1) rfl)
      (pss_cons (ps_fld (pv 0) (pv 2) rfl)
      (pss_one (ps_fld (pv 0) (pe_callB (cr_sum rfl) (by rfl) Z.zsum (by decide +kernel) (pa_cons (pe_callTy c_list_of (by rfl) Z.zlist (by decide +kernel) (pa_cons (pv 2) pa_nil)) pa_nil)) rfl)))))), ?_⟩
    walk_at "g0"
    walk_at "go"
    refine g_checkd hS O.two O.eight O.dd fun H1 e1 => ?_
    walk_at "go"
    refine g_checks (ex_t e1 hS) (ex_t e1 hT) O fun H2 e2 => ?_
    have hx2 : H2 x = some (.ins C dx []) := e2 _ _ (e1 _ _ hx)
    have hS2 := ex_t (e1.trans e2) hS
    have hT2 := ex_t (e1.trans e2) hT
    walk_at "go"
    refine g_kSFld hx2 cl_Ring nS (by decide) fun H3 e3 hx3 => ?_
    have hS3 := exb_ti e3 hx2 hS2
    have hT3 := exb_ti e3 hx2 hT2
    walk_at "go"
    refine g_kSFld hx3 cl_Ring nH (Nat.lt_of_le_of_lt (length_putF _ _ _) (by decide)) fun H4 e4 hx4 => ?_
    have hS4 := exb_ti e4 hx3 hS3
    have hT4 := exb_ti e4 hx3 hT3
    walk_at "go"
    rename_i l H5 _ e5 hl
    refine g_kSFld (e5 _ _ hx4) cl_Ring nT (Nat.lt_of_le_of_lt (length_putF _ _ _) (Nat.lt_of_le_of_lt (Nat.succ_le_succ (length_putF _ _ _)) (by decide))) fun H6 e6 hx6 => ?_
    have hS6 := exb_ti e6 (e5 _ _ hx4) (ex_t e5 hS4)
    have hT6 := exb_ti e6 (e5 _ _ hx4) (ex_t e5 hT4)
    refine q H6 ?_ ⟨⟨dx, by rw [hx6, ← rf_eq]⟩, hS6, hT6, O⟩
    exact ((((Exb.of (e1.trans e2)).trans e3).trans e4).trans (Exb.of e5)).trans e6
/-- Ring(a, b) -/
theorem g_mkRing {H : Hp} {Q : VK} {E : XK} {a b : Addr} {ds hs : List Int} (hS : SqT K H a (ds.map V.int)) (hT : SqT K H b (hs.map V.int)) (O : RingOk ds hs) (q : ∀ r H', H r = none → Ex H H' → RingIn K C H' r a b ds hs → Q (.ref r) H') :
    kMake C (sp_Ring_init K C) E Q [.ref a, .ref b] H := by
  intro x dx nx ndx ne
  have e1 : Ex H (upd (upd H dx (.own x)) x (.ins C dx [])) := fun c o h => by
    rw [upd_ne (ne_of_none h nx), upd_ne (ne_of_none h ndx)]
    exact h
  exact ⟨x, a, b, dx, ds, hs, rfl, upd_same, ex_t e1 hS, ex_t e1 hT, O, fun H' e2 R => ⟨rfl, q x H' nx (Exb.ex nx e1 e2) R⟩⟩
/-- properties -/
def sp_Ring_days (K : PySem.W.Frag) (C : Addr) : Sp := fun vs H Q _ => ∃ (r a b : Addr) (ds hs : List Int), vs = [.ref r] ∧ RingIn K C H r a b ds hs ∧ Q (.ref a) H
def sp_Ring_starts (K : PySem.W.Frag) (C : Addr) : Sp := fun vs H Q _ => ∃ (r a b : Addr) (ds hs : List Int), vs = [.ref r] ∧ RingIn K C H r a b ds hs ∧ Q (.ref b) H
def sp_Ring_books (K : PySem.W.Frag) (C : Addr) : Sp := fun vs H Q _ => ∃ (r a b : Addr) (ds hs : List Int), vs = [.ref r] ∧ RingIn K C H r a b ds hs ∧ Q (.int hs.sum) H
def sp_Ring_pace (K : PySem.W.Frag) (C : Addr) : Sp := fun vs H Q _ => ∃ (r a b : Addr) (ds hs : List Int), vs = [.ref r] ∧ RingIn K C H r a b ds hs ∧ RTup K H (PaceV ds hs.sum) Q
def sp_Ring_len (K : PySem.W.Frag) (C : Addr) : Sp := fun vs H Q _ => ∃ (r a b : Addr) (ds hs : List Int), vs = [.ref r] ∧ RingIn K C H r a b ds hs ∧ Q (.int (ds.length : Int)) H
theorem ok_Ring_books (Z : Blt mg) (R : RingC K C) (G : PFun K C "books" "Ring.books" s_Ring_books) : Pf P w K mg base C 1 "books" ["self"] (sp_Ring_books K C) := by
  refine Pf.of G sc_Ring_books b_Ring_books (fun vs H Q E h => ?_) (fun f cdv A outer s H vs Q E hr h => ?_)
  · obtain ⟨r, a, b, ds, hs, rfl, _⟩ := h
    rfl
  · obtain ⟨r, a, b, ds, hs, rfl, ⟨⟨dx, ho⟩, hS, hT, O⟩, q⟩ := h
    obtain ⟨cl_Ring, nS, nH, nT⟩ := R
    refine ⟨_, PSs.nox (pss_one (ps_ret (pe_fld (pv 0) rfl))), ?_⟩
    walk_at "g0"
    walk_at "go"
    exact q
theorem ok_Ring_len (Z : Blt mg) (R : RingC K C) (G : CFun K C "__len__" "Ring.__len__" s_Ring___len__) : Mf P w K mg base C 1 "__len__" ["self"] (sp_Ring_len K C) := by
  refine Mf.of G sc_Ring___len__ b_Ring___len__ (fun vs H Q E h => ?_) (fun f cdv A outer s H vs Q E hr h => ?_)
  · obtain ⟨r, a, b, ds, hs, rfl, _⟩ := h
    rfl
  · obtain ⟨r, a, b, ds, hs, rfl, ⟨⟨dx, ho⟩, hS, hT, O⟩, q⟩ := h
    obtain ⟨cl_Ring, nS, nH, nT⟩ := R
    refine ⟨_, PSs.nox (pss_one (ps_ret (pe_callB c_len (by rfl) Z.zlen PySem.boot_len (pa_cons (pe_fld (pv 0) rfl) pa_nil)))), ?_⟩
    walk_at "g0"
    walk_at "go"
    exact q
def sp_Ring_need (K : PySem.W.Frag) (C : Addr) : Sp := fun vs H Q _ => ∃ (r a b : Addr) (ds hs : List Int) (k : Nat), vs = [.ref r, .int (k : Int)] ∧ RingIn K C H r a b ds hs ∧ k < ds.length ∧ Q .non H
theorem ok_Ring_need (Z : Blt mg) (R : RingC K C) (D_is_integer : Df P w K mg base 1 "is_integer" ["value", "low", "high"] (sp_is_integer K)) (G : CFun K C "need_reader" "Ring.need_reader" s_Ring_need_reader) : Mf P w K mg base C 2 "need_reader" ["self", "reader"] (sp_Ring_need K C) := by
  refine Mf.of G sc_Ring_need_reader b_Ring_need_reader (fun vs H Q E h => ?_) (fun f cdv A outer s H vs Q E hr h => ?_)
  · obtain ⟨r, a, b, ds, hs, k, rfl, _⟩ := h
    rfl
  · obtain ⟨r, a, b, ds, hs, k, rfl, ⟨⟨dx, ho⟩, hS, hT, O⟩, hk, q⟩ := h
    obtain ⟨cl_Ring, nS, nH, nT⟩ := R
    refine ⟨_, PSs.nox (pss_one (ps_if (pt_not (pt_val (pg D_is_integer hr (pa_cons (pv 1) (pa_cons pe_int (pa_cons (pe_op op_sub (pe_callB c_len (by rfl) Z.zlen PySem.boot_len (pa_cons (pe_fld (pv 0) rfl) pa_nil)) pe_int) pa_nil)))))) (pss_one ps_never) pss_nil)), ?_⟩
    walk_at "g0"
    walk_at "go"
    exact q
/-! with_days -/
theorem cut_lo (ds : List Int) (k : Nat) (hk : k ≤ ds.length) : cutV (ds.map V.int) none (some (k : Int)) = (ds.take k).map V.int := by
  unfold cutV
  rw [HT.sIx_none, HT.sIx_nat, List.length_map, List.drop_zero, Nat.sub_zero, Nat.min_eq_left hk, List.map_take]
theorem cut_hi (ds : List Int) (k : Nat) (hk : k ≤ ds.length) : cutV (ds.map V.int) (some (k : Int)) none = (ds.drop k).map V.int := by
  unfold cutV
  rw [HT.sIx_none, HT.sIx_nat, List.length_map, Nat.min_eq_left hk, List.map_drop]
  refine List.take_of_length_le ?_
  rw [List.length_drop, List.length_map]
  exact Nat.le_refl _
theorem set_split {α : Type} (ds : List α) (k : Nat) (n : α) (hk : k < ds.length) : ds.take k ++ [n] ++ ds.drop (k + 1) = ds.set k n := by
  rw [List.set_eq_take_append_cons_drop, if_pos hk, List.append_assoc]
  rfl
theorem RingOk.set {ds hs : List Int} (O : RingOk ds hs) (k : Nat) {n : Int} (h : 1 ≤ n ∧ n ≤ 30) : RingOk (ds.set k n) hs :=
  ⟨by rw [List.length_set]; exact O.two, by rw [List.length_set]; exact O.eight, by rw [List.length_set]; exact O.len, fun d hd => by
    rcases List.mem_or_eq_of_mem_set hd with h1 | h1
    · exact O.dd d h1
    · rw [h1]; exact h, O.hh, O.one, O.twelve⟩
def sp_Ring_with (K : PySem.W.Frag) (C : Addr) : Sp := fun vs H Q _ => ∃ (r a b : Addr) (ds hs : List Int) (k : Nat) (n : Int), vs = [.ref r, .int (k : Int), .int n] ∧ RingIn K C H r a b ds hs ∧ k < ds.length ∧ (1 ≤ n ∧ n ≤ 30) ∧
  ∀ r' a' H', H r' = none → Ex H H' → RingIn K C H' r' a' b (ds.set k n) hs → Q (.ref r') H'
/-! ### the promises as steps -/
theorem RingIn.obj1 {H : Hp} {r a b : Addr} {ds hs : List Int} (R : RingIn K C H r a b ds hs) : ∃ dx, H r = some (.ins C dx (rf a b hs.sum)) := R.obj
theorem g_rbooks {H : Hp} {Q : VK} {E : XK} {r a b : Addr} {ds hs : List Int} (R : RingIn K C H r a b ds hs) (q : Q (.int hs.sum) H) : kProp C (sp_Ring_books K C) E Q (.ref r) H :=
  let ⟨dx, ho⟩ := R.obj; ⟨r, dx, _, rfl, ho, r, a, b, ds, hs, rfl, R, q⟩
theorem g_rpace {H : Hp} {Q : VK} {E : XK} {r a b : Addr} {ds hs : List Int} (R : RingIn K C H r a b ds hs) (q : ∀ p H', Ex H H' → SqT K H' p (PaceV ds hs.sum) → Q (.ref p) H') : kProp C (sp_Ring_pace K C) E Q (.ref r) H :=
  let ⟨dx, ho⟩ := R.obj; ⟨r, dx, _, rfl, ho, r, a, b, ds, hs, rfl, R, q⟩
theorem g_rlen {H : Hp} {Q : VK} {E : XK} {r a b : Addr} {ds hs : List Int} (R : RingIn K C H r a b ds hs) (q : Q (.int (ds.length : Int)) H) : rLenO C (sp_Ring_len K C) E [.ref r] H Q :=
  let ⟨dx, ho⟩ := R.obj; ⟨r, dx, _, rfl, ho, r, a, b, ds, hs, rfl, R, ds.length, rfl, ⟨by omega, by have := R.ok.eight; omega⟩, q⟩
theorem g_rneed {H : Hp} {Q : VK} {E : XK} {r a b : Addr} {ds hs : List Int} {k : Nat} (R : RingIn K C H r a b ds hs) (hk : k < ds.length) (q : Q .non H) : sp_Ring_need K C [.ref r, .int (k : Int)] H Q E := ⟨r, a, b, ds, hs, k, rfl, R, hk, q⟩
theorem g_rneedM {H : Hp} {Q : VK} {E : XK} {r a b : Addr} {ds hs : List Int} {tr : TA} {σ : L2.St} (R : RingIn K C H r a b ds hs) (q : tr σ H fun vs H2 => sp_Ring_need K C (.ref r :: vs) H2 Q E) : kMeth C "need_reader" (sp_Ring_need K C) E tr σ Q (.ref r) H :=
  let ⟨dx, ho⟩ := R.obj; g_kMeth ho rf_nr q
theorem g_rwithM {H : Hp} {Q : VK} {E : XK} {r a b : Addr} {ds hs : List Int} {tr : TA} {σ : L2.St} (R : RingIn K C H r a b ds hs) (q : tr σ H fun vs H2 => sp_Ring_with K C (.ref r :: vs) H2 Q E) : kMeth C "with_days" (sp_Ring_with K C) E tr σ Q (.ref r) H :=
  let ⟨dx, ho⟩ := R.obj; g_kMeth ho rf_wd q
theorem g_rspans {H : Hp} {Q : VK} {r a b : Addr} {ds hs : List Int} (R : RingIn K C H r a b ds hs) (c : RingC K C) (q : Q (.ref a) H) : kFld K "spans" Q (.ref r) H := let ⟨dx, ho⟩ := R.obj; g_kFld ho c.cl c.nS rf_spans q
theorem g_rheaps {H : Hp} {Q : VK} {r a b : Addr} {ds hs : List Int} (R : RingIn K C H r a b ds hs) (c : RingC K C) (q : Q (.ref b) H) : kFld K "heaps" Q (.ref r) H := let ⟨dx, ho⟩ := R.obj; g_kFld ho c.cl c.nH rf_heaps q
theorem g_rtotal {H : Hp} {Q : VK} {r a b : Addr} {ds hs : List Int} (R : RingIn K C H r a b ds hs) (c : RingC K C) (q : Q (.int hs.sum) H) : kFld K "total" Q (.ref r) H := let ⟨dx, ho⟩ := R.obj; g_kFld ho c.cl c.nT rf_total q
end
end G48

/-! chains and planning: what asks no course -/
namespace G48
open PySem PySem.Spec PyProof.Rows L2 Evl
/-! the steps -/
local macro_rules | `(tactic| walk_at "as") => `(tactic| with_reducible assumption)
local macro_rules | `(tactic| walk_at "hp") => `(tactic| first
  | with_reducible assumption
  | ((with_reducible apply SqT.of); walk_at "as")
  | ((with_reducible apply SqL.of); walk_at "as")
  | ((with_reducible apply ex_at); (focus walk_at "as"); walk_at "hp")
  | ((with_reducible apply ex_t); (focus walk_at "as"); walk_at "hp")
  | ((with_reducible apply ex_l); (focus walk_at "as"); walk_at "hp")
  | ((with_reducible apply exb_ins); (focus walk_at "as"); (focus walk_at "hp"); walk_at "hp")
  | ((with_reducible apply exb_t); (focus walk_at "as"); (focus walk_at "hp"); walk_at "hp")
  | ((with_reducible apply exb_at); (focus walk_at "as"); (focus walk_at "ne"); walk_at "hp")
  | ((with_reducible apply exb_l); (focus walk_at "as"); (focus walk_at "ne"); walk_at "hp"))
local macro_rules | `(tactic| walk_at "ne") => `(tactic| first
  | with_reducible assumption
  | exact Ne.symm (by with_reducible assumption)
  | exact ne_of_none (by with_reducible assumption) (by with_reducible assumption)
  | exact Ne.symm (ne_of_none (by with_reducible assumption) (by with_reducible assumption)))
local macro_rules | `(tactic| walk_at "tr") => `(tactic| first
  | rfl
  | with_reducible assumption
  | exact decide_eq_true (by first | with_reducible assumption | omega)
  | exact decide_eq_false (by first | with_reducible assumption | omega)
  | (rw [Bool.not_eq_true']; exact decide_eq_false (by first | with_reducible assumption | omega))
  | (rw [Bool.not_eq_false']; exact decide_eq_true (by first | with_reducible assumption | omega)))
local macro_rules | `(tactic| walk_at "nn") => `(tactic| first | with_reducible assumption | (exact List.cons_ne_nil _ _))
local macro_rules | `(tactic| walk_at "sz") => `(tactic| first | (exact sz1000 (Nat.le_of_ble_eq_true rfl)) | (refine sz1000 ?_; simp only [List.length_map, List.length_cons, List.length_nil, List.length_append]; omega) | with_reducible assumption)
local macro_rules | `(tactic| walk_at "sl") => `(tactic| first | with_reducible assumption | (refine lt1000 ?_; simp only [List.length_map, List.length_cons, List.length_nil, List.length_append]; omega) | (refine lt1000 ?_; omega))
local macro_rules | `(tactic| walk_at "ix") => `(tactic| first | rfl | with_reducible assumption)
local macro_rules | `(tactic| walk_at "rg") => `(tactic| exact RgOk.of_le (by omega) (by omega) (by omega) (by omega))
local macro_rules | `(tactic| walk_at "sp") => `(tactic| fail "sp")
local macro_rules | `(tactic| walk_at "cl") => `(tactic| with_reducible assumption)
local macro_rules | `(tactic| walk_at "lk") => `(tactic| with_reducible assumption)
local macro_rules | `(tactic| walk_at "it") => `(tactic| first | rfl | with_reducible assumption | exact atI_nat (by with_reducible assumption))
local macro_rules | `(tactic| walk_at "g1") => `(tactic| first
  | (with_reducible apply g_var); (focus rfl)
  | with_reducible apply g_c
  | with_reducible apply g_seq
  | with_reducible apply g_asg
  | with_reducible apply gg_name
  | with_reducible apply g_op
  | with_reducible apply g_cons
  | with_reducible apply g_nil
  | with_reducible apply g_cb
  | with_reducible apply g_fld
  | ((with_reducible apply g_kFld); (focus walk_at "hp"); (focus walk_at "cl"); (focus walk_at "cl"); (focus walk_at "lk"))
  | with_reducible apply g_call
  | walk_at "sp"
  | with_reducible apply g_ret
  | with_reducible apply g_drop
  | with_reducible apply g_test
  | with_reducible apply g_B
  | with_reducible apply g_kTest
  | with_reducible apply g_ifS
  | with_reducible apply g_kIfST
  | with_reducible apply g_kIfSF
  | with_reducible apply g_add
  | with_reducible apply g_sub
  | with_reducible apply g_lt
  | with_reducible apply g_le
  | with_reducible apply g_gt
  | with_reducible apply g_ge
  | with_reducible apply g_eqI
  | with_reducible apply g_neI
  | ((with_reducible apply g_mod); (focus first | decide | omega))
  | ((with_reducible apply g_mul); (focus first | (left; constructor <;> omega) | (right; constructor <;> omega)))
  | ((with_reducible apply g_fdiv); (focus (constructor <;> omega)))
  | ((with_reducible apply g_ixT); (focus walk_at "hp"); (focus walk_at "it"))
  | ((with_reducible apply g_ixL); (focus walk_at "hp"); (focus walk_at "it"))
  | with_reducible apply g_and
  | with_reducible apply g_or
  | with_reducible apply g_not
  | with_reducible apply g_kNotT
  | with_reducible apply g_kNotF
  | with_reducible apply g_if
  | with_reducible apply g_kAndT
  | with_reducible apply g_kAndF
  | with_reducible apply g_kOrT
  | with_reducible apply g_kOrF
  | with_reducible apply g_kIfT
  | with_reducible apply g_kIfF
  | with_reducible apply g_next
  | with_reducible apply g_andV
  | with_reducible apply g_orV
  | with_reducible apply g_notV
  | with_reducible apply g_kNotV
  | with_reducible apply g_kAndVT
  | with_reducible apply g_kAndVF
  | with_reducible apply g_chain
  | with_reducible apply g_kChainT
  | with_reducible apply g_kChainF
  | with_reducible apply g_tup
  | with_reducible apply g_lst
  | ((with_reducible apply g_kT); (focus walk_at "sz"); intro _ _ _ _ _)
  | ((with_reducible apply g_kL); (focus walk_at "sz"); intro _ _ _ _ _)
  | with_reducible apply g_un
  | with_reducible apply g_neg
  | with_reducible apply g_meth
  | ((with_reducible apply g_kMeth); (focus walk_at "hp"); (focus walk_at "lk"))
  | with_reducible apply g_prop
  | ((with_reducible apply g_kProp); (focus walk_at "hp"))
  | with_reducible apply g_make
  | with_reducible apply g_par
  | with_reducible apply g_kPar
  | ((with_reducible apply g_lenLM); (focus walk_at "hp"))
  | ((with_reducible apply g_lenTM); (focus walk_at "hp"))
  | ((with_reducible apply g_lenL); (focus walk_at "hp"))
  | ((with_reducible apply g_lenT); (focus walk_at "hp"))
  | with_reducible apply g_int1
  | with_reducible apply g_max2
  | with_reducible apply g_min2
  | ((with_reducible apply g_listL); (focus walk_at "hp"); intro _ _ _ _ _)
  | ((with_reducible apply g_listT); (focus walk_at "hp"); intro _ _ _ _ _)
  | ((with_reducible apply g_tupL); (focus walk_at "hp"); intro _ _ _ _ _)
  | ((with_reducible apply g_sum); (focus walk_at "hp"))
  | with_reducible apply g_sfld
  | with_reducible apply g_sl
  | with_reducible apply g_nopart
  | with_reducible apply g_part
  | with_reducible apply g_kPart
  | with_reducible apply g_lstRg
  | with_reducible apply g_rg1
  | with_reducible apply g_kRg1
  | with_reducible apply g_bm
  | with_reducible apply gg_sub
  | ((with_reducible apply gg_tup); (focus walk_at "hp"); (focus rfl))
  | with_reducible apply gg_cons
  | with_reducible apply gg_nil
  | with_reducible apply g_forL
  | with_reducible apply g_forT
  | with_reducible apply g_forR1
  | with_reducible apply g_forR2
  | with_reducible apply g_forE
  | with_reducible apply g_forEL
  | ((with_reducible apply g_maxT); (focus walk_at "hp"); (focus walk_at "nn"))
  | ((with_reducible apply g_maxL); (focus walk_at "hp"); (focus walk_at "nn"))
  | ((with_reducible apply g_catA); (focus walk_at "hp"); (focus walk_at "hp"); (focus walk_at "sz"); intro _ _ _ _)
  | ((with_reducible apply g_slA); (focus walk_at "hp"); intro _ _ _ _)
  | ((with_reducible apply g_tupD); (focus walk_at "hp"); intro _ _ _ _ _)
  | ((with_reducible apply g_setL); (focus walk_at "hp"); (focus walk_at "ix"); intro _ _ _)
  | ((with_reducible apply g_append); (focus walk_at "hp"); (focus walk_at "sl"); intro _ _ _)
  | ((with_reducible apply g_aug); (focus rfl))
  | with_reducible apply g_ipI
  | with_reducible apply g_retN
  | with_reducible apply g_lcR1
  | with_reducible apply g_lcR2
  | with_reducible apply g_lcL
  | with_reducible apply g_lcU
  | with_reducible apply g_lcN
  | ((with_reducible apply g_kLcG); (focus rfl))
  | with_reducible apply g_yes
  | with_reducible apply g_kLcTT
  | with_reducible apply g_kLcTF
  | ((with_reducible apply g_kLcE); (focus walk_at "hp"); (focus walk_at "sl"); intro _ _ _)
  | ((with_reducible apply g_pow); (focus (constructor <;> (try constructor) <;> decide)))
  | ((with_reducible apply g_kLRg); (focus walk_at "rg"); intro _ _ _ _ _)
  | ((with_reducible apply g_cat); (focus walk_at "hp"); (focus walk_at "hp"); (focus walk_at "sz"); intro _ _ _ _ _)
  | ((with_reducible apply g_slL); (focus walk_at "hp"); intro _ _ _ _ _)
  | with_reducible apply g_bmT
  | with_reducible apply g_break
  | with_reducible apply g_cont)
local macro_rules | `(tactic| walk_at "g0") => `(tactic| try dsimp only [L2.cxOf, L2.Cx.nox, L2.Cx.wish])
local macro_rules | `(tactic| walk_at "yn") => `(tactic| first
  | ((with_reducible apply y_kIfS); (focus walk_at "tr"))
  | ((with_reducible apply n_kIfS); (focus walk_at "tr"))
  | ((with_reducible apply y_kOr); (focus walk_at "tr"))
  | ((with_reducible apply n_kOr); (focus walk_at "tr"))
  | ((with_reducible apply y_kAnd); (focus walk_at "tr"))
  | ((with_reducible apply n_kAnd); (focus walk_at "tr"))
  | ((with_reducible apply y_kNot); (focus walk_at "tr"))
  | ((with_reducible apply n_kNot); (focus walk_at "tr"))
  | ((with_reducible apply y_kIf); (focus walk_at "tr"))
  | ((with_reducible apply n_kIf); (focus walk_at "tr"))
  | ((with_reducible apply y_kAndV); (focus walk_at "tr"))
  | ((with_reducible apply n_kAndV); (focus walk_at "tr"))
  | ((with_reducible apply y_kOrV); (focus walk_at "tr"))
  | ((with_reducible apply n_kOrV); (focus walk_at "tr"))
  | ((with_reducible apply y_kChain); (focus walk_at "tr"))
  | ((with_reducible apply n_kChain); (focus walk_at "tr"))
  | ((with_reducible apply y_kLcT); (focus walk_at "tr"))
  | ((with_reducible apply n_kLcT); (focus walk_at "tr"))
  | ((with_reducible apply y_kWh); (focus walk_at "tr"))
  | ((with_reducible apply n_kWh); (focus walk_at "tr")))
local macro_rules | `(tactic| walk_at "go") => `(tactic| repeat (first | walk_at "g1" | walk_at "yn"))
local macro_rules | `(tactic| walk_at "hp") => `(tactic| first
  | ((with_reducible apply RingIn.ex); (focus walk_at "as"); walk_at "hp")
  | ((with_reducible apply RingAt.ex); (focus walk_at "as"); walk_at "hp")
  | ((with_reducible apply RingIn.exb); (focus walk_at "as"); (focus walk_at "hp"); walk_at "hp")
  | ((with_reducible apply RingAt.exb); (focus walk_at "as"); (focus walk_at "hp"); walk_at "hp")
  | ((with_reducible apply TupK.ex); (focus walk_at "as"); walk_at "hp")
  | ((with_reducible apply TupK.exb); (focus walk_at "as"); (focus walk_at "hp"); walk_at "hp"))
local macro_rules | `(tactic| walk_at "lk") => `(tactic| first | with_reducible exact rf_spans | with_reducible exact rf_heaps | with_reducible exact rf_total | with_reducible exact rf_nr | with_reducible exact rf_wd)
local macro_rules | `(tactic| walk_at "sp") => `(tactic| first
  | ((with_reducible apply g_isiTup); (focus walk_at "hp"))
  | ((with_reducible apply g_isiLst); (focus walk_at "hp"))
  | ((with_reducible apply g_isint); (focus omega); (focus omega))
  | ((with_reducible apply g_checkn); (focus omega); (focus omega))
  | ((with_reducible apply g_rbooks); (focus walk_at "hp"))
  | ((with_reducible apply g_rpace); (focus walk_at "hp"); intro _ _ _ _)
  | ((with_reducible apply g_rlen); (focus walk_at "hp"))
  | ((with_reducible apply g_rneed); (focus walk_at "hp"); (focus omega))
  | ((with_reducible apply g_rneedM); (focus walk_at "hp"))
  | ((with_reducible apply g_rwithM); (focus walk_at "hp"))
  | ((with_reducible apply g_rspans); (focus walk_at "hp"); (focus with_reducible assumption))
  | ((with_reducible apply g_rheaps); (focus walk_at "hp"); (focus with_reducible assumption))
  | ((with_reducible apply g_rtotal); (focus walk_at "hp"); (focus with_reducible assumption)))

/-- the first place -/
theorem first_at : ∀ {ys : List Int} {z : Int}, z ∈ ys → ∃ j : Nat, ys[j]? = some z ∧ ∀ m : Nat, m < j → ys[m]? ≠ some z
  | [], _, h => by cases h
  | y :: r, z, h => by
    by_cases e : y = z
    · exact ⟨0, by rw [e]; rfl, fun m hm => absurd hm (Nat.not_lt_zero m)⟩
    · have h1 : z ∈ r := by
        rcases List.mem_cons.mp h with h | h
        · exact absurd h.symm e
        · exact h
      obtain ⟨j, h2, h3⟩ := first_at h1
      refine ⟨j + 1, h2, fun m hm => ?_⟩
      cases m with
      | zero =>
        intro q
        exact e (Option.some.inj q)
      | succ m => exact h3 m (by omega)
def upto (n : Nat) : List Int := (List.range n).map fun (i : Nat) => (i : Int)
theorem upto_map (n : Nat) : rgV 0 (n : Int) = (upto n).map V.int := by
  unfold rgV upto
  rw [List.map_map]
  have e : ((n : Int) - 0).toNat = n := by omega
  rw [e]
  apply List.map_congr_left
  intro i _
  show V.int (0 + (i : Int)) = V.int (i : Int)
  rw [Int.zero_add]
theorem upto_len (n : Nat) : (upto n).length = n := by unfold upto; rw [List.length_map, List.length_range]
theorem upto_at {n i : Nat} (h : i < n) : (upto n)[i]? = some (i : Int) := by
  unfold upto
  rw [List.getElem?_map, List.getElem?_range h]
  rfl
/-- the readers that set the pace -/
def PR (ds : List Int) (B : Int) (rs : List Int) : Prop :=
  if ds.sum ≤ mx ds * B then ∃ j : Nat, rs = [(j : Int)] ∧ ds[j]? = some (mx ds) ∧ ∀ m : Nat, m < j → ds[m]? ≠ some (mx ds) else rs = upto ds.length
section
variable {P : Program} {w : World} {K : PySem.W.Frag} {mg : Str → Option Value} {base : Heap} {C : Addr}
def sp_pace_readers (K : PySem.W.Frag) (C : Addr) : Sp := fun vs H Q _ => ∃ (r a b : Addr) (ds hs : List Int), vs = [.ref r] ∧ RingIn K C H r a b ds hs ∧ TupK H a (ds.map V.int) ∧
  ∀ p H' rs, H p = none → Ex H H' → H' p = some (.lst (rs.map V.int)) → PR ds hs.sum rs → Q (.ref p) H'
/-- a list of readers that shows a pace -/
structure Shows (rs : List Int) (n : Nat) : Prop where
  at_ : ∀ (i : Nat) (x : Int), rs[i]? = some x → 0 ≤ x ∧ x < n
  next : ∀ (i : Nat) (x y : Int), rs[i]? = some x → rs[i + 1]? = some y → y = (x + 1) % n
  len : rs.length = 1 ∨ rs.length = n
def shown (ds : List Int) (B : Int) (rs : List Int) : Int × Int := if rs.length = 1 then (ds.getD (rs.getD 0 0).toNat 0, 1) else low ds.sum B
def sp_judge_pace (K : PySem.W.Frag) (C : Addr) : Sp := fun vs H Q _ => ∃ (r a b l : Addr) (ds hs rs : List Int), vs = [.ref r, .ref l] ∧ RingIn K C H r a b ds hs ∧ SqL K H l (rs.map V.int) ∧ Shows rs ds.length ∧
  RTup K H [.int (shown ds hs.sum rs).1, .int (shown ds hs.sum rs).2] Q
/-! ### planning -/
def sp_is_less (K : PySem.W.Frag) : Sp := fun vs H Q _ => ∃ (p q : Addr) (x y u v : Int), vs = [.ref p, .ref q] ∧ SqT K H p [.int x, .int y] ∧ SqT K H q [.int u, .int v] ∧ ((0 ≤ x ∧ x ≤ 1000000) ∧ (0 ≤ y ∧ y ≤ 1000000) ∧ (0 ≤ u ∧ u ≤ 1000000) ∧ (0 ≤ v ∧ v ≤ 1000000)) ∧ Q (.bl (decide (x * v < u * y))) H
theorem low_bd {a b : Int} (ha : 0 < a) (hb : 0 < b) : 0 < (low a b).1 ∧ (low a b).1 ≤ a ∧ 0 < (low a b).2 ∧ (low a b).2 ≤ b := by
  have hg : 0 < (Int.gcd a b : Int) := by
    have := (Int.gcd_pos_iff (a := a) (b := b)).mpr (Or.inl (by omega))
    omega
  have d1 : (Int.gcd a b : Int) ∣ a := Int.gcd_dvd_left ..
  have d2 : (Int.gcd a b : Int) ∣ b := Int.gcd_dvd_right ..
  refine ⟨Int.ediv_pos_of_pos_of_dvd ha (by omega) d1, Int.ediv_le_self _ (by omega), Int.ediv_pos_of_pos_of_dvd hb (by omega) d2, Int.ediv_le_self _ (by omega)⟩
theorem pace_bd {ds : List Int} {B : Int} (h : DaysOk ds) (hb : 1 ≤ B) : 0 < (paceN ds B).1 ∧ (paceN ds B).1 ≤ 240 ∧ 0 < (paceN ds B).2 ∧ (paceN ds B).2 ≤ B := by
  have h1 := h.mx
  have h2 := h.sum
  unfold paceN
  by_cases hc : ds.sum ≤ mx ds * B
  · rw [if_pos hc]
    exact ⟨by omega, by omega, by omega, by omega⟩
  · rw [if_neg hc]
    have := low_bd (a := ds.sum) (b := B) (by omega) (by omega)
    exact ⟨by omega, by omega, by omega, by omega⟩
def sp_pace_with (K : PySem.W.Frag) (C : Addr) : Sp := fun vs H Q _ => ∃ (r a b : Addr) (ds hs : List Int) (B : Int), vs = [.ref r, .int B] ∧ RingIn K C H r a b ds hs ∧ (1 ≤ B ∧ B ≤ 1000) ∧ RTup K H (PaceV ds B) Q
def fewN (ds : List Int) : Int := (ds.sum + mx ds - 1) / mx ds
def sp_fewest_books (K : PySem.W.Frag) (C : Addr) : Sp := fun vs H Q _ => ∃ (r a b : Addr) (ds hs : List Int), vs = [.ref r] ∧ RingIn K C H r a b ds hs ∧ ∀ H', Ex H H' → Q (.int (fewN ds)) H'
/-- a reader who helps by being a day quicker -/
def helps (ds : List Int) (B : Int) (i : Nat) : Bool :=
  decide (1 < ds.getD i 0) && decide ((paceN (ds.set i (ds.getD i 0 - 1)) B).1 * (paceN ds B).2 < (paceN ds B).1 * (paceN (ds.set i (ds.getD i 0 - 1)) B).2)
def helpN (ds : List Int) (B : Int) (k : Nat) : List Int := ((List.range k).filter (helps ds B)).map fun (i : Nat) => (i : Int)
theorem helpN_yes {ds : List Int} {B : Int} {k : Nat} (h : helps ds B k = true) : helpN ds B (k + 1) = helpN ds B k ++ [(k : Int)] := by
  unfold helpN
  rw [List.range_succ, List.filter_append, List.map_append, List.filter_cons, if_pos h]
  rfl
theorem helpN_no {ds : List Int} {B : Int} {k : Nat} (h : helps ds B k = false) : helpN ds B (k + 1) = helpN ds B k := by
  unfold helpN
  rw [List.range_succ, List.filter_append, List.map_append, List.filter_cons, if_neg (by rw [h]; decide)]
  exact List.append_nil _
theorem helpN_len (ds : List Int) (B : Int) (k : Nat) : (helpN ds B k).length ≤ k := by
  unfold helpN
  rw [List.length_map]
  have h := List.length_filter_le (helps ds B) (List.range k)
  rw [List.length_range] at h
  exact h
theorem DaysOk.set {ds : List Int} (O : DaysOk ds) (k : Nat) {n : Int} (h : 1 ≤ n ∧ n ≤ 30) : DaysOk (ds.set k n) :=
  ⟨by rw [List.length_set]; exact O.two, by rw [List.length_set]; exact O.eight, fun d hd => by
    rcases List.mem_or_eq_of_mem_set hd with h1 | h1
    · exact O.dd d h1
    · rw [h1]; exact h⟩
def sp_helpful (K : PySem.W.Frag) (C : Addr) : Sp := fun vs H Q _ => ∃ (r a b : Addr) (ds hs : List Int), vs = [.ref r] ∧ RingIn K C H r a b ds hs ∧ ∀ p H', H p = none → Ex H H' → H' p = some (.lst ((helpN ds hs.sum ds.length).map V.int)) → Q (.ref p) H'
/-- slowest_days: a number of days with the same pace, and with a day more another -/
def SameP (ds : List Int) (B : Int) (k : Nat) (n : Int) : Prop := paceN (ds.set k n) B = paceN ds B
theorem paceV_eqv {ds es : List Int} {B B2 : Int} : PyData.eqv (.tuple [.int (paceN ds B).1, .int (paceN ds B).2]) (.tuple [.int (paceN es B2).1, .int (paceN es B2).2]) = decide (paceN ds B = paceN es B2) := by
  have e : PyData.eqv (.tuple [.int (paceN ds B).1, .int (paceN ds B).2]) (.tuple [.int (paceN es B2).1, .int (paceN es B2).2]) = ((paceN ds B).1 == (paceN es B2).1 && ((paceN ds B).2 == (paceN es B2).2 && true)) := by
    simp only [PyData.eqv, PyData.eqvAll]
  rw [e, Bool.eq_iff_iff]
  simp [Prod.ext_iff]
theorem dp_two {H : Hp} {p : Addr} {x y : Int} (h : SqT K H p [.int x, .int y]) : Dp K H (.ref p) (.tuple [.int x, .int y]) := .tup h (.cons (.int _) (.cons (.int _) .nil))
theorem sh_two {x y : Int} : SeqAt.shaped (.tuple [.int x, .int y]) = true := rfl
/-- two paces compared -/
theorem g_eqP {H : Hp} {Q : VK} {p q : Addr} {ds es : List Int} {B B2 : Int} (h1 : SqT K H p (PaceV ds B)) (h2 : SqT K H q (PaceV es B2)) (k : Q (.bl (decide (paceN ds B = paceN es B2))) H) : rEqD K (.ref p) (.ref q) H Q :=
  g_eqD (dp_two h1) (dp_two h2) sh_two sh_two (by rw [paceV_eqv]; exact k)
theorem g_neP {H : Hp} {Q : VK} {p q : Addr} {ds es : List Int} {B B2 : Int} (h1 : SqT K H p (PaceV ds B)) (h2 : SqT K H q (PaceV es B2)) (k : Q (.bl (!decide (paceN ds B = paceN es B2))) H) : rNeD K (.ref p) (.ref q) H Q :=
  g_neD (dp_two h1) (dp_two h2) sh_two sh_two (by rw [paceV_eqv]; exact k)
def sp_slowest (K : PySem.W.Frag) (C : Addr) : Sp := fun vs H Q _ => ∃ (r a b : Addr) (ds hs : List Int) (k : Nat), vs = [.ref r, .int (k : Int)] ∧ RingIn K C H r a b ds hs ∧ k < ds.length ∧
  ∀ n H', Ex H H' → ds.getD k 0 ≤ n → n ≤ 30 → SameP ds hs.sum k n → (n < 30 → ¬ SameP ds hs.sum k (n + 1)) → Q (.int n) H'
/-- fewest_days_less -/
def lessN (ds : List Int) (B x y : Int) : Option Int := if x / y = 0 ∨ x * B < (ds.length : Int) * y then none else some (max (ds.map fun d => max 0 (d - x / y)).sum (ds.sum - x * B / y))
def optV : Option Int → V
  | none => .non
  | some n => .int n
def sp_fewest_less (K : PySem.W.Frag) (C : Addr) : Sp := fun vs H Q _ => ∃ (r a b : Addr) (ds hs : List Int) (x y : Int), vs = [.ref r, .int x, .int y] ∧ RingIn K C H r a b ds hs ∧ ((1 ≤ x ∧ x ≤ 1000) ∧ (1 ≤ y ∧ y ≤ 1000)) ∧ ∀ H', Ex H H' → Q (optV (lessN ds hs.sum x y)) H'
end
end G48

namespace G48
open PySem PySem.Spec PyProof.Rows L2 Evl
abbrev N__law_taken : List Str := ["_law_row", "_law_many", "_law_found", "_law_cell"]
theorem sc__law_taken : FnScope N__law_taken ["_law_row", "_law_many"] (defScope s__law_taken) := ⟨rfl, rfl, rfl, by decide +kernel, rfl, by decide +kernel, by decide +kernel⟩
theorem b__law_taken : BindL "_law_taken" "_law_taken" s__law_taken ["_law_row", "_law_many"] := fun _ _ _ _ _ _ us hl => match us, hl with | [_, _], _ => rfl
end G48
/-! the draws of the laws k41 to k48: _law_taken -/
namespace G48
open PySem PySem.Spec PyProof.Rows L2 Evl
/-! the steps -/
local macro_rules | `(tactic| walk_at "as") => `(tactic| with_reducible assumption)
local macro_rules | `(tactic| walk_at "hp") => `(tactic| first
  | with_reducible assumption
  | ((with_reducible apply SqT.of); walk_at "as")
  | ((with_reducible apply SqL.of); walk_at "as")
  | ((with_reducible apply ex_at); (focus walk_at "as"); walk_at "hp")
  | ((with_reducible apply ex_t); (focus walk_at "as"); walk_at "hp")
  | ((with_reducible apply ex_l); (focus walk_at "as"); walk_at "hp")
  | ((with_reducible apply exb_ins); (focus walk_at "as"); (focus walk_at "hp"); walk_at "hp")
  | ((with_reducible apply exb_t); (focus walk_at "as"); (focus walk_at "hp"); walk_at "hp")
  | ((with_reducible apply exb_at); (focus walk_at "as"); (focus walk_at "ne"); walk_at "hp")
  | ((with_reducible apply exb_l); (focus walk_at "as"); (focus walk_at "ne"); walk_at "hp"))
local macro_rules | `(tactic| walk_at "ne") => `(tactic| first
  | with_reducible assumption
  | exact Ne.symm (by with_reducible assumption)
  | exact ne_of_none (by with_reducible assumption) (by with_reducible assumption)
  | exact Ne.symm (ne_of_none (by with_reducible assumption) (by with_reducible assumption)))
local macro_rules | `(tactic| walk_at "tr") => `(tactic| first
  | rfl
  | with_reducible assumption
  | exact decide_eq_true (by first | with_reducible assumption | omega)
  | exact decide_eq_false (by first | with_reducible assumption | omega)
  | (rw [Bool.not_eq_true']; exact decide_eq_false (by first | with_reducible assumption | omega))
  | (rw [Bool.not_eq_false']; exact decide_eq_true (by first | with_reducible assumption | omega)))
local macro_rules | `(tactic| walk_at "nn") => `(tactic| first | with_reducible assumption | (exact List.cons_ne_nil _ _))
local macro_rules | `(tactic| walk_at "sz") => `(tactic| first | (exact sz1000 (Nat.le_of_ble_eq_true rfl)) | (refine sz1000 ?_; simp only [List.length_map, List.length_cons, List.length_nil, List.length_append]; omega) | with_reducible assumption)
local macro_rules | `(tactic| walk_at "sl") => `(tactic| first | with_reducible assumption | (refine lt1000 ?_; simp only [List.length_map, List.length_cons, List.length_nil, List.length_append]; omega) | (refine lt1000 ?_; omega))
local macro_rules | `(tactic| walk_at "ix") => `(tactic| first | rfl | with_reducible assumption)
local macro_rules | `(tactic| walk_at "rg") => `(tactic| exact RgOk.of_le (by omega) (by omega) (by omega) (by omega))
local macro_rules | `(tactic| walk_at "sp") => `(tactic| fail "sp")
local macro_rules | `(tactic| walk_at "cl") => `(tactic| with_reducible assumption)
local macro_rules | `(tactic| walk_at "lk") => `(tactic| with_reducible assumption)
local macro_rules | `(tactic| walk_at "it") => `(tactic| first | rfl | with_reducible assumption | exact atI_nat (by with_reducible assumption))
local macro_rules | `(tactic| walk_at "g1") => `(tactic| first
  | (with_reducible apply g_var); (focus rfl)
  | with_reducible apply g_c
  | with_reducible apply g_seq
  | with_reducible apply g_asg
  | with_reducible apply gg_name
  | with_reducible apply g_op
  | with_reducible apply g_cons
  | with_reducible apply g_nil
  | with_reducible apply g_cb
  | with_reducible apply g_fld
  | ((with_reducible apply g_kFld); (focus walk_at "hp"); (focus walk_at "cl"); (focus walk_at "cl"); (focus walk_at "lk"))
  | with_reducible apply g_call
  | walk_at "sp"
  | with_reducible apply g_ret
  | with_reducible apply g_drop
  | with_reducible apply g_test
  | with_reducible apply g_B
  | with_reducible apply g_kTest
  | with_reducible apply g_ifS
  | with_reducible apply g_kIfST
  | with_reducible apply g_kIfSF
  | with_reducible apply g_add
  | with_reducible apply g_sub
  | with_reducible apply g_lt
  | with_reducible apply g_le
  | with_reducible apply g_gt
  | with_reducible apply g_ge
  | with_reducible apply g_eqI
  | with_reducible apply g_neI
  | ((with_reducible apply g_mod); (focus first | decide | omega))
  | ((with_reducible apply g_mul); (focus first | (left; constructor <;> omega) | (right; constructor <;> omega)))
  | ((with_reducible apply g_fdiv); (focus (constructor <;> omega)))
  | ((with_reducible apply g_ixT); (focus walk_at "hp"); (focus walk_at "it"))
  | ((with_reducible apply g_ixL); (focus walk_at "hp"); (focus walk_at "it"))
  | with_reducible apply g_and
  | with_reducible apply g_or
  | with_reducible apply g_not
  | with_reducible apply g_kNotT
  | with_reducible apply g_kNotF
  | with_reducible apply g_if
  | with_reducible apply g_kAndT
  | with_reducible apply g_kAndF
  | with_reducible apply g_kOrT
  | with_reducible apply g_kOrF
  | with_reducible apply g_kIfT
  | with_reducible apply g_kIfF
  | with_reducible apply g_next
  | with_reducible apply g_andV
  | with_reducible apply g_orV
  | with_reducible apply g_notV
  | with_reducible apply g_kNotV
  | with_reducible apply g_kAndVT
  | with_reducible apply g_kAndVF
  | with_reducible apply g_chain
  | with_reducible apply g_kChainT
  | with_reducible apply g_kChainF
  | with_reducible apply g_tup
  | with_reducible apply g_lst
  | ((with_reducible apply g_kT); (focus walk_at "sz"); intro _ _ _ _ _)
  | ((with_reducible apply g_kL); (focus walk_at "sz"); intro _ _ _ _ _)
  | with_reducible apply g_un
  | with_reducible apply g_neg
  | with_reducible apply g_meth
  | ((with_reducible apply g_kMeth); (focus walk_at "hp"); (focus walk_at "lk"))
  | with_reducible apply g_prop
  | ((with_reducible apply g_kProp); (focus walk_at "hp"))
  | with_reducible apply g_make
  | with_reducible apply g_par
  | with_reducible apply g_kPar
  | ((with_reducible apply g_lenLM); (focus walk_at "hp"))
  | ((with_reducible apply g_lenTM); (focus walk_at "hp"))
  | ((with_reducible apply g_lenL); (focus walk_at "hp"))
  | ((with_reducible apply g_lenT); (focus walk_at "hp"))
  | with_reducible apply g_int1
  | with_reducible apply g_max2
  | with_reducible apply g_min2
  | ((with_reducible apply g_listL); (focus walk_at "hp"); intro _ _ _ _ _)
  | ((with_reducible apply g_listT); (focus walk_at "hp"); intro _ _ _ _ _)
  | ((with_reducible apply g_tupL); (focus walk_at "hp"); intro _ _ _ _ _)
  | ((with_reducible apply g_sum); (focus walk_at "hp"))
  | with_reducible apply g_sfld
  | with_reducible apply g_sl
  | with_reducible apply g_nopart
  | with_reducible apply g_part
  | with_reducible apply g_kPart
  | with_reducible apply g_lstRg
  | with_reducible apply g_rg1
  | with_reducible apply g_kRg1
  | with_reducible apply g_bm
  | with_reducible apply gg_sub
  | ((with_reducible apply gg_tup); (focus walk_at "hp"); (focus rfl))
  | with_reducible apply gg_cons
  | with_reducible apply gg_nil
  | with_reducible apply g_forL
  | with_reducible apply g_forT
  | with_reducible apply g_forR1
  | with_reducible apply g_forR2
  | with_reducible apply g_forE
  | with_reducible apply g_forEL
  | ((with_reducible apply g_maxT); (focus walk_at "hp"); (focus walk_at "nn"))
  | ((with_reducible apply g_maxL); (focus walk_at "hp"); (focus walk_at "nn"))
  | ((with_reducible apply g_catA); (focus walk_at "hp"); (focus walk_at "hp"); (focus walk_at "sz"); intro _ _ _ _)
  | ((with_reducible apply g_slA); (focus walk_at "hp"); intro _ _ _ _)
  | ((with_reducible apply g_tupD); (focus walk_at "hp"); intro _ _ _ _ _)
  | ((with_reducible apply g_setL); (focus walk_at "hp"); (focus walk_at "ix"); intro _ _ _)
  | ((with_reducible apply g_append); (focus walk_at "hp"); (focus walk_at "sl"); intro _ _ _)
  | ((with_reducible apply g_aug); (focus rfl))
  | with_reducible apply g_ipI
  | with_reducible apply g_retN
  | with_reducible apply g_lcR1
  | with_reducible apply g_lcR2
  | with_reducible apply g_lcL
  | with_reducible apply g_lcU
  | with_reducible apply g_lcN
  | ((with_reducible apply g_kLcG); (focus rfl))
  | with_reducible apply g_yes
  | with_reducible apply g_kLcTT
  | with_reducible apply g_kLcTF
  | ((with_reducible apply g_kLcE); (focus walk_at "hp"); (focus walk_at "sl"); intro _ _ _)
  | ((with_reducible apply g_pow); (focus (constructor <;> (try constructor) <;> decide)))
  | ((with_reducible apply g_kLRg); (focus walk_at "rg"); intro _ _ _ _ _)
  | ((with_reducible apply g_cat); (focus walk_at "hp"); (focus walk_at "hp"); (focus walk_at "sz"); intro _ _ _ _ _)
  | ((with_reducible apply g_slL); (focus walk_at "hp"); intro _ _ _ _ _)
  | with_reducible apply g_bmT
  | with_reducible apply g_break
  | with_reducible apply g_cont)
local macro_rules | `(tactic| walk_at "g0") => `(tactic| try dsimp only [L2.cxOf, L2.Cx.nox, L2.Cx.wish])
local macro_rules | `(tactic| walk_at "yn") => `(tactic| first
  | ((with_reducible apply y_kIfS); (focus walk_at "tr"))
  | ((with_reducible apply n_kIfS); (focus walk_at "tr"))
  | ((with_reducible apply y_kOr); (focus walk_at "tr"))
  | ((with_reducible apply n_kOr); (focus walk_at "tr"))
  | ((with_reducible apply y_kAnd); (focus walk_at "tr"))
  | ((with_reducible apply n_kAnd); (focus walk_at "tr"))
  | ((with_reducible apply y_kNot); (focus walk_at "tr"))
  | ((with_reducible apply n_kNot); (focus walk_at "tr"))
  | ((with_reducible apply y_kIf); (focus walk_at "tr"))
  | ((with_reducible apply n_kIf); (focus walk_at "tr"))
  | ((with_reducible apply y_kAndV); (focus walk_at "tr"))
  | ((with_reducible apply n_kAndV); (focus walk_at "tr"))
  | ((with_reducible apply y_kOrV); (focus walk_at "tr"))
  | ((with_reducible apply n_kOrV); (focus walk_at "tr"))
  | ((with_reducible apply y_kChain); (focus walk_at "tr"))
  | ((with_reducible apply n_kChain); (focus walk_at "tr"))
  | ((with_reducible apply y_kLcT); (focus walk_at "tr"))
  | ((with_reducible apply n_kLcT); (focus walk_at "tr"))
  | ((with_reducible apply y_kWh); (focus walk_at "tr"))
  | ((with_reducible apply n_kWh); (focus walk_at "tr")))
local macro_rules | `(tactic| walk_at "go") => `(tactic| repeat (first | walk_at "g1" | walk_at "yn"))
local macro_rules | `(tactic| walk_at "hp") => `(tactic| first
  | ((with_reducible apply RingIn.ex); (focus walk_at "as"); walk_at "hp")
  | ((with_reducible apply RingAt.ex); (focus walk_at "as"); walk_at "hp")
  | ((with_reducible apply RingIn.exb); (focus walk_at "as"); (focus walk_at "hp"); walk_at "hp")
  | ((with_reducible apply RingAt.exb); (focus walk_at "as"); (focus walk_at "hp"); walk_at "hp")
  | ((with_reducible apply TupK.ex); (focus walk_at "as"); walk_at "hp")
  | ((with_reducible apply TupK.exb); (focus walk_at "as"); (focus walk_at "hp"); walk_at "hp"))
local macro_rules | `(tactic| walk_at "lk") => `(tactic| first | with_reducible exact rf_spans | with_reducible exact rf_heaps | with_reducible exact rf_total | with_reducible exact rf_nr | with_reducible exact rf_wd)
local macro_rules | `(tactic| walk_at "sp") => `(tactic| first
  | ((with_reducible apply g_isiTup); (focus walk_at "hp"))
  | ((with_reducible apply g_isiLst); (focus walk_at "hp"))
  | ((with_reducible apply g_isint); (focus omega); (focus omega))
  | ((with_reducible apply g_checkn); (focus omega); (focus omega))
  | ((with_reducible apply g_rbooks); (focus walk_at "hp"))
  | ((with_reducible apply g_rpace); (focus walk_at "hp"); intro _ _ _ _)
  | ((with_reducible apply g_rlen); (focus walk_at "hp"))
  | ((with_reducible apply g_rneed); (focus walk_at "hp"); (focus omega))
  | ((with_reducible apply g_rneedM); (focus walk_at "hp"))
  | ((with_reducible apply g_rwithM); (focus walk_at "hp"))
  | ((with_reducible apply g_rspans); (focus walk_at "hp"); (focus with_reducible assumption))
  | ((with_reducible apply g_rheaps); (focus walk_at "hp"); (focus with_reducible assumption))
  | ((with_reducible apply g_rtotal); (focus walk_at "hp"); (focus with_reducible assumption)))

/-- the script: frozen, or the module's own -/
def Scr (K : PySem.W.Frag) (H : Hp) (a : Addr) (xs : List V) : Prop := (∃ o, H a = some (.frz o (.lst xs))) ∨ ∃ (o : Obj) (its : Array Value) (n : Nat), K.lookup a = some o ∧ o.cls = .type "list" ∧ o.dict = none ∧ o.data = .seq its n ∧ its.size ≤ sizeLine ∧ Vals xs its.toList
theorem Scr.sq {K : PySem.W.Frag} {H : Hp} {a : Addr} {xs : List V} : Scr K H a xs → SqL K H a xs
  | .inl h => .inl (.inr h)
  | .inr h => .inr h
theorem Scr.only {K : PySem.W.Frag} {H : Hp} {a : Addr} {xs : List V} (O : L2.Only H) : SqL K H a xs → Scr K H a xs
  | .inl (.inr h) => .inl h
  | .inr h => .inr h
  | .inl (.inl h) => by
    rcases O a with z | ⟨o, ys, z⟩
    · rw [z] at h; cases h
    · rw [z] at h; cases h
theorem Scr.ex {K : PySem.W.Frag} {H H' : Hp} {a : Addr} {xs : List V} (e : Ex H H') : Scr K H a xs → Scr K H' a xs
  | .inl ⟨o, h⟩ => .inl ⟨o, e _ _ h⟩
  | .inr h => .inr h
theorem Scr.exb {K : PySem.W.Frag} {H H' : Hp} {l a : Addr} {xs ys : List V} (e : Exb l H H') (hl : H l = some (.lst ys)) : Scr K H a xs → Scr K H' a xs
  | .inl ⟨o, h⟩ => .inl ⟨o, e _ _ (ne_of h hl (by intro z; cases z)) h⟩
  | .inr h => .inr h
/-- the state of a draw: the script, a place, a number, a rest -/
def DiceAt (K : PySem.W.Frag) (H : Hp) (d : Addr) : Prop := ∃ (sc : Addr) (ns : List Int) (pos mixed rest : Int), H d = some (.lst [.ref sc, .int pos, .int mixed, .int rest]) ∧ Scr K H sc (ns.map V.int) ∧ ns.length ≤ 63 ∧ 0 ≤ pos ∧ 0 ≤ mixed ∧ mixed < 2147483647
section
variable {K : PySem.W.Frag} {H H' : Hp} {d a C dx r b : Addr} {xs : List V} {fs : List (Str × V)} {ds hs : List Int}
theorem DiceAt.lst (D : DiceAt K H d) : ∃ ys, H d = some (.lst ys) := let ⟨_, _, _, _, _, h, _⟩ := D; ⟨_, h⟩
theorem DiceAt.ex (e : Ex H H') (D : DiceAt K H d) : DiceAt K H' d := by
  obtain ⟨sc, ns, p, m, r, h, hs, z, q⟩ := D
  exact ⟨sc, ns, p, m, r, e _ _ h, hs.ex e, z, q⟩
theorem DiceAt.exb {l : Addr} {ys : List V} (e : Exb l H H') (ne : d ≠ l) (hl : H l = some (.lst ys)) (D : DiceAt K H d) : DiceAt K H' d := by
  obtain ⟨sc, ns, p, m, r, h, hs, z, q⟩ := D
  exact ⟨sc, ns, p, m, r, e _ _ ne h, hs.exb e hl, z, q⟩
theorem exb_tD (e : Exb d H H') (D : DiceAt K H d) (h : SqT K H a xs) : SqT K H' a xs := let ⟨_, hl⟩ := D.lst; exb_t e hl h
theorem exb_insD (e : Exb d H H') (D : DiceAt K H d) (h : H a = some (.ins C dx fs)) : H' a = some (.ins C dx fs) := let ⟨_, hl⟩ := D.lst; exb_ins e hl h
theorem RingIn.exD (e : Exb d H H') (D : DiceAt K H d) (R : RingIn K C H r a b ds hs) : RingIn K C H' r a b ds hs := let ⟨_, hl⟩ := D.lst; R.exb e hl
theorem TupK.exD (e : Exb d H H') (D : DiceAt K H d) (R : TupK H a xs) : TupK H' a xs := let ⟨_, hl⟩ := D.lst; R.exb e hl
end
/-- a draw changes the draw's own list alone -/
def Dx (K : PySem.W.Frag) (d : Addr) (H H' : Hp) : Prop := Exb d H H' ∧ DiceAt K H' d
section
variable {P : Program} {w : World} {K : PySem.W.Frag} {mg : Str → Option Value} {base : Heap} {C : Addr}
def sp_taken (K : PySem.W.Frag) : Sp := fun vs H Q _ => ∃ (d : Addr) (many : Int), vs = [.ref d, .int many] ∧ DiceAt K H d ∧ (0 < many ∧ many < 1073741824) ∧ ∀ k H', 0 ≤ k → k < many → Dx K d H H' → Q (.int k) H'
theorem dice_set {K : PySem.W.Frag} {H H' : Hp} {d sc : Addr} {ns : List Int} {p m r : Int} {ys : List V} (hd : H d = some (.lst ys)) (e : Exb d H H') (h : H' d = some (.lst [.ref sc, .int p, .int m, .int r])) (hs : Scr K H sc (ns.map V.int)) (z : ns.length ≤ 63) (h1 : 0 ≤ p) (h2 : 0 ≤ m) (h3 : m < 2147483647) : DiceAt K H' d :=
  ⟨sc, ns, p, m, r, h, hs.exb e hd, z, h1, h2, h3⟩
theorem ok_taken (Z : Blt mg) (G : GFun K mg "_law_taken" s__law_taken) : Df P w K mg base 1 "_law_taken" ["_law_row", "_law_many"] (sp_taken K) := by
  refine Df.of G sc__law_taken b__law_taken (fun vs H Q E h => ?_) (fun f cdv A outer s H vs Q E hr h => ?_)
  · obtain ⟨d, many, rfl, _⟩ := h
    rfl
  · obtain ⟨d, many, rfl, ⟨sc, ns, p, m, r, hd, hsc, z, h1, h2, h3⟩, ⟨m1, m2⟩, q⟩ := h
    have hs := hsc.sq
    refine ⟨_, PSs.nox (pss_cons (ps_if (pt_cmpR op_gt (pe_ix ix_list (pv 0) pe_int (fun _ _ => rfl)) pe_int (nomark _)) (pss_cons (ps_set (i := 2) sc__law_taken.nd rfl (by first | exact Or.inl rfl | exact Or.inr rfl) (pe_op op_mod (pe_callTy c_int1 (by rfl) Z.zint (by decide +kernel) (pa_cons (pe_ix ix_list (pv 0) pe_int (fun _ _ => rfl)) pa_nil)) (pv 1)))
          (pss_cons (ps_asg (pe_op op_fdiv (pe_ix ix_list (pv 0) pe_int (fun _ _ => rfl)) (pv 1)) (pg_sub (pv 0) pe_int set_list))
          (pss_one (ps_ret (pv 2))))) pss_nil)
      (pss_cons (ps_asg (pe_op op_add (pe_ix ix_list (pv 0) pe_int (fun _ _ => rfl)) pe_int) (pg_sub (pv 0) pe_int set_list))
      (pss_cons (ps_if (pt_cmpR op_gt (pe_ix ix_list (pv 0) pe_int (fun _ _ => rfl)) (pe_callB c_len (by rfl) Z.zlen PySem.boot_len (pa_cons (pe_ix ix_list (pv 0) pe_int (fun _ _ => rfl)) pa_nil)) (nomark _)) (pss_cons (ps_asg (pe_op op_mod (pe_callTy c_int1 (by rfl) Z.zint (by decide +kernel) (pa_cons (pe_op op_add (pe_op op_mul (pe_ix ix_list (pv 0) pe_int (fun _ _ => rfl)) pe_int) pe_int) pa_nil)) pe_int) (pg_sub (pv 0) pe_int set_list))
          (pss_one (ps_ret (pe_op op_mod (pe_callTy c_int1 (by rfl) Z.zint (by decide +kernel) (pa_cons (pe_op op_fdiv (pe_ix ix_list (pv 0) pe_int (fun _ _ => rfl)) pe_int) pa_nil)) (pv 1))))) pss_nil)
      (pss_cons (ps_set (i := 3) sc__law_taken.nd rfl (by first | exact Or.inl rfl | exact Or.inr rfl) (pe_ix ix_list (pe_ix ix_list (pv 0) pe_int (fun _ _ => rfl)) (pe_op op_sub (pe_ix ix_list (pv 0) pe_int (fun _ _ => rfl)) pe_int) (fun _ _ => rfl)))
      (pss_cons (ps_asg (pe_op op_mod (pe_callTy c_int1 (by rfl) Z.zint (by decide +kernel) (pa_cons (pe_op op_add (pe_op op_add (pe_op op_mul (pe_ix ix_list (pv 0) pe_int (fun _ _ => rfl)) pe_int) (pv 3)) pe_int) pa_nil)) pe_int) (pg_sub (pv 0) pe_int set_list))
      (pss_cons (ps_if (pt_cmpR op_ge (pv 3) (pe_op op_pow pe_int pe_int) (nomark _)) (pss_one (ps_asg (pe_op op_fdiv (pv 3) (pv 1)) (pg_sub (pv 0) pe_int set_list))) pss_nil)
      (pss_one (ps_ret (pe_op op_mod (pe_callTy c_int1 (by rfl) Z.zint (by decide +kernel) (pa_cons (pv 3) pa_nil)) (pv 1)))))))))), ?_⟩
    walk_at "g0"
    walk_at "go"
    refine g_kIfS (fun h => ?_) (fun h => ?_)
    · have h := of_decide_eq_true h
      walk_at "go"
      rename_i H2 e2 hd2
      exact q _ H2 (Int.emod_nonneg _ (by omega)) (Int.emod_lt_of_pos _ m1) ⟨e2, dice_set hd e2 hd2 hsc z h1 h2 h3⟩
    · walk_at "go"
      rename_i H2 e2 hd2
      have hs2 := (hsc.exb e2 hd).sq
      walk_at "go"
      refine g_kIfS (fun h => ?_) (fun h => ?_)
      · walk_at "go"
        rename_i H3 e3 hd3
        refine q _ H3 (Int.emod_nonneg _ (by omega)) (Int.emod_lt_of_pos _ m1) ⟨e2.trans e3, dice_set hd (e2.trans e3) hd3 hsc z (by omega) (Int.emod_nonneg _ (by decide)) (Int.emod_lt_of_pos _ (by decide))⟩
      · have h := of_decide_eq_false h
        have hpl : p.toNat < ns.length := by omega
        walk_at "go"
        refine g_ixL (v := .int ns[p.toNat]) hs2 ?_ ?_
        · have e0 : atI (ns.map V.int) (p.toNat : Int) = some (.int ns[p.toNat]) := atI_nat (by rw [List.getElem?_map, List.getElem?_eq_getElem hpl]; rfl)
          rw [← e0]
          congr 1
          omega
        walk_at "go"
        rename_i H3 e3 hd3
        refine g_kIfS (fun h4 => ?_) (fun h4 => ?_)
        · walk_at "go"
          rename_i H4 e4 hd4
          refine q _ H4 (Int.emod_nonneg _ (by omega)) (Int.emod_lt_of_pos _ m1) ⟨(e2.trans e3).trans e4, dice_set hd ((e2.trans e3).trans e4) hd4 hsc z (by omega) (Int.emod_nonneg _ (by decide)) (Int.emod_lt_of_pos _ (by decide))⟩
        · walk_at "go"
          refine q _ H3 (Int.emod_nonneg _ (by omega)) (Int.emod_lt_of_pos _ m1) ⟨e2.trans e3, dice_set hd (e2.trans e3) hd3 hsc z (by omega) (Int.emod_nonneg _ (by decide)) (Int.emod_lt_of_pos _ (by decide))⟩
theorem g_taken {H : Hp} {Q : VK} {E : XK} {d : Addr} {many : Int} (D : DiceAt K H d) (h1 : 0 < many) (h2 : many < 1073741824) (q : ∀ k H', 0 ≤ k → k < many → Exb d H H' → DiceAt K H' d → Q (.int k) H') : sp_taken K [.ref d, .int many] H Q E :=
  ⟨d, many, rfl, D, ⟨h1, h2⟩, fun k H' a b c => q k H' a b c.1 c.2⟩
end
end G48

namespace G48
open PySem PySem.Spec PyProof.Rows L2 Evl
abbrev N__law_pair : List Str := ["_law_row", "_law_most", "_law_size", "_law_days", "_law_heaps", "_law_k"]
theorem sc__law_pair : FnScope N__law_pair ["_law_row", "_law_most"] (defScope s__law_pair) := ⟨rfl, rfl, rfl, by decide +kernel, rfl, by decide +kernel, by decide +kernel⟩
theorem b__law_pair : BindL "_law_pair" "_law_pair" s__law_pair ["_law_row", "_law_most"] := fun _ _ _ _ _ _ us hl => match us, hl with | [_, _], _ => rfl
end G48
/-! _law_pair -/
namespace G48
open PySem PySem.Spec PyProof.Rows L2 Evl
/-! the steps -/
local macro_rules | `(tactic| walk_at "as") => `(tactic| with_reducible assumption)
local macro_rules | `(tactic| walk_at "hp") => `(tactic| first
  | with_reducible assumption
  | ((with_reducible apply SqT.of); walk_at "as")
  | ((with_reducible apply SqL.of); walk_at "as")
  | ((with_reducible apply ex_at); (focus walk_at "as"); walk_at "hp")
  | ((with_reducible apply ex_t); (focus walk_at "as"); walk_at "hp")
  | ((with_reducible apply ex_l); (focus walk_at "as"); walk_at "hp")
  | ((with_reducible apply exb_ins); (focus walk_at "as"); (focus walk_at "hp"); walk_at "hp")
  | ((with_reducible apply exb_t); (focus walk_at "as"); (focus walk_at "hp"); walk_at "hp")
  | ((with_reducible apply exb_at); (focus walk_at "as"); (focus walk_at "ne"); walk_at "hp")
  | ((with_reducible apply exb_l); (focus walk_at "as"); (focus walk_at "ne"); walk_at "hp"))
local macro_rules | `(tactic| walk_at "ne") => `(tactic| first
  | with_reducible assumption
  | exact Ne.symm (by with_reducible assumption)
  | exact ne_of_none (by with_reducible assumption) (by with_reducible assumption)
  | exact Ne.symm (ne_of_none (by with_reducible assumption) (by with_reducible assumption)))
local macro_rules | `(tactic| walk_at "tr") => `(tactic| first
  | rfl
  | with_reducible assumption
  | exact decide_eq_true (by first | with_reducible assumption | omega)
  | exact decide_eq_false (by first | with_reducible assumption | omega)
  | (rw [Bool.not_eq_true']; exact decide_eq_false (by first | with_reducible assumption | omega))
  | (rw [Bool.not_eq_false']; exact decide_eq_true (by first | with_reducible assumption | omega)))
local macro_rules | `(tactic| walk_at "nn") => `(tactic| first | with_reducible assumption | (exact List.cons_ne_nil _ _))
local macro_rules | `(tactic| walk_at "sz") => `(tactic| first | (exact sz1000 (Nat.le_of_ble_eq_true rfl)) | (refine sz1000 ?_; simp only [List.length_map, List.length_cons, List.length_nil, List.length_append]; omega) | with_reducible assumption)
local macro_rules | `(tactic| walk_at "sl") => `(tactic| first | with_reducible assumption | (refine lt1000 ?_; simp only [List.length_map, List.length_cons, List.length_nil, List.length_append]; omega) | (refine lt1000 ?_; omega))
local macro_rules | `(tactic| walk_at "ix") => `(tactic| first | rfl | with_reducible assumption)
local macro_rules | `(tactic| walk_at "rg") => `(tactic| exact RgOk.of_le (by omega) (by omega) (by omega) (by omega))
local macro_rules | `(tactic| walk_at "sp") => `(tactic| fail "sp")
local macro_rules | `(tactic| walk_at "cl") => `(tactic| with_reducible assumption)
local macro_rules | `(tactic| walk_at "lk") => `(tactic| with_reducible assumption)
local macro_rules | `(tactic| walk_at "it") => `(tactic| first | rfl | with_reducible assumption | exact atI_nat (by with_reducible assumption))
local macro_rules | `(tactic| walk_at "g1") => `(tactic| first
  | (with_reducible apply g_var); (focus rfl)
  | with_reducible apply g_c
  | with_reducible apply g_seq
  | with_reducible apply g_asg
  | with_reducible apply gg_name
  | with_reducible apply g_op
  | with_reducible apply g_cons
  | with_reducible apply g_nil
  | with_reducible apply g_cb
  | with_reducible apply g_fld
  | ((with_reducible apply g_kFld); (focus walk_at "hp"); (focus walk_at "cl"); (focus walk_at "cl"); (focus walk_at "lk"))
  | with_reducible apply g_call
  | walk_at "sp"
  | with_reducible apply g_ret
  | with_reducible apply g_drop
  | with_reducible apply g_test
  | with_reducible apply g_B
  | with_reducible apply g_kTest
  | with_reducible apply g_ifS
  | with_reducible apply g_kIfST
  | with_reducible apply g_kIfSF
  | with_reducible apply g_add
  | with_reducible apply g_sub
  | with_reducible apply g_lt
  | with_reducible apply g_le
  | with_reducible apply g_gt
  | with_reducible apply g_ge
  | with_reducible apply g_eqI
  | with_reducible apply g_neI
  | ((with_reducible apply g_mod); (focus first | decide | omega))
  | ((with_reducible apply g_mul); (focus first | (left; constructor <;> omega) | (right; constructor <;> omega)))
  | ((with_reducible apply g_fdiv); (focus (constructor <;> omega)))
  | ((with_reducible apply g_ixT); (focus walk_at "hp"); (focus walk_at "it"))
  | ((with_reducible apply g_ixL); (focus walk_at "hp"); (focus walk_at "it"))
  | with_reducible apply g_and
  | with_reducible apply g_or
  | with_reducible apply g_not
  | with_reducible apply g_kNotT
  | with_reducible apply g_kNotF
  | with_reducible apply g_if
  | with_reducible apply g_kAndT
  | with_reducible apply g_kAndF
  | with_reducible apply g_kOrT
  | with_reducible apply g_kOrF
  | with_reducible apply g_kIfT
  | with_reducible apply g_kIfF
  | with_reducible apply g_next
  | with_reducible apply g_andV
  | with_reducible apply g_orV
  | with_reducible apply g_notV
  | with_reducible apply g_kNotV
  | with_reducible apply g_kAndVT
  | with_reducible apply g_kAndVF
  | with_reducible apply g_chain
  | with_reducible apply g_kChainT
  | with_reducible apply g_kChainF
  | with_reducible apply g_tup
  | with_reducible apply g_lst
  | ((with_reducible apply g_kT); (focus walk_at "sz"); intro _ _ _ _ _)
  | ((with_reducible apply g_kL); (focus walk_at "sz"); intro _ _ _ _ _)
  | with_reducible apply g_un
  | with_reducible apply g_neg
  | with_reducible apply g_meth
  | ((with_reducible apply g_kMeth); (focus walk_at "hp"); (focus walk_at "lk"))
  | with_reducible apply g_prop
  | ((with_reducible apply g_kProp); (focus walk_at "hp"))
  | with_reducible apply g_make
  | with_reducible apply g_par
  | with_reducible apply g_kPar
  | ((with_reducible apply g_lenLM); (focus walk_at "hp"))
  | ((with_reducible apply g_lenTM); (focus walk_at "hp"))
  | ((with_reducible apply g_lenL); (focus walk_at "hp"))
  | ((with_reducible apply g_lenT); (focus walk_at "hp"))
  | with_reducible apply g_int1
  | with_reducible apply g_max2
  | with_reducible apply g_min2
  | ((with_reducible apply g_listL); (focus walk_at "hp"); intro _ _ _ _ _)
  | ((with_reducible apply g_listT); (focus walk_at "hp"); intro _ _ _ _ _)
  | ((with_reducible apply g_tupL); (focus walk_at "hp"); intro _ _ _ _ _)
  | ((with_reducible apply g_sum); (focus walk_at "hp"))
  | with_reducible apply g_sfld
  | with_reducible apply g_sl
  | with_reducible apply g_nopart
  | with_reducible apply g_part
  | with_reducible apply g_kPart
  | with_reducible apply g_lstRg
  | with_reducible apply g_rg1
  | with_reducible apply g_kRg1
  | with_reducible apply g_bm
  | with_reducible apply gg_sub
  | ((with_reducible apply gg_tup); (focus walk_at "hp"); (focus rfl))
  | with_reducible apply gg_cons
  | with_reducible apply gg_nil
  | with_reducible apply g_forL
  | with_reducible apply g_forT
  | with_reducible apply g_forR1
  | with_reducible apply g_forR2
  | with_reducible apply g_forE
  | with_reducible apply g_forEL
  | ((with_reducible apply g_maxT); (focus walk_at "hp"); (focus walk_at "nn"))
  | ((with_reducible apply g_maxL); (focus walk_at "hp"); (focus walk_at "nn"))
  | ((with_reducible apply g_catA); (focus walk_at "hp"); (focus walk_at "hp"); (focus walk_at "sz"); intro _ _ _ _)
  | ((with_reducible apply g_slA); (focus walk_at "hp"); intro _ _ _ _)
  | ((with_reducible apply g_tupD); (focus walk_at "hp"); intro _ _ _ _ _)
  | ((with_reducible apply g_setL); (focus walk_at "hp"); (focus walk_at "ix"); intro _ _ _)
  | ((with_reducible apply g_append); (focus walk_at "hp"); (focus walk_at "sl"); intro _ _ _)
  | ((with_reducible apply g_aug); (focus rfl))
  | with_reducible apply g_ipI
  | with_reducible apply g_retN
  | with_reducible apply g_lcR1
  | with_reducible apply g_lcR2
  | with_reducible apply g_lcL
  | with_reducible apply g_lcU
  | with_reducible apply g_lcN
  | ((with_reducible apply g_kLcG); (focus rfl))
  | with_reducible apply g_yes
  | with_reducible apply g_kLcTT
  | with_reducible apply g_kLcTF
  | ((with_reducible apply g_kLcE); (focus walk_at "hp"); (focus walk_at "sl"); intro _ _ _)
  | ((with_reducible apply g_pow); (focus (constructor <;> (try constructor) <;> decide)))
  | ((with_reducible apply g_kLRg); (focus walk_at "rg"); intro _ _ _ _ _)
  | ((with_reducible apply g_cat); (focus walk_at "hp"); (focus walk_at "hp"); (focus walk_at "sz"); intro _ _ _ _ _)
  | ((with_reducible apply g_slL); (focus walk_at "hp"); intro _ _ _ _ _)
  | with_reducible apply g_bmT
  | with_reducible apply g_break
  | with_reducible apply g_cont)
local macro_rules | `(tactic| walk_at "g0") => `(tactic| try dsimp only [L2.cxOf, L2.Cx.nox, L2.Cx.wish])
local macro_rules | `(tactic| walk_at "yn") => `(tactic| first
  | ((with_reducible apply y_kIfS); (focus walk_at "tr"))
  | ((with_reducible apply n_kIfS); (focus walk_at "tr"))
  | ((with_reducible apply y_kOr); (focus walk_at "tr"))
  | ((with_reducible apply n_kOr); (focus walk_at "tr"))
  | ((with_reducible apply y_kAnd); (focus walk_at "tr"))
  | ((with_reducible apply n_kAnd); (focus walk_at "tr"))
  | ((with_reducible apply y_kNot); (focus walk_at "tr"))
  | ((with_reducible apply n_kNot); (focus walk_at "tr"))
  | ((with_reducible apply y_kIf); (focus walk_at "tr"))
  | ((with_reducible apply n_kIf); (focus walk_at "tr"))
  | ((with_reducible apply y_kAndV); (focus walk_at "tr"))
  | ((with_reducible apply n_kAndV); (focus walk_at "tr"))
  | ((with_reducible apply y_kOrV); (focus walk_at "tr"))
  | ((with_reducible apply n_kOrV); (focus walk_at "tr"))
  | ((with_reducible apply y_kChain); (focus walk_at "tr"))
  | ((with_reducible apply n_kChain); (focus walk_at "tr"))
  | ((with_reducible apply y_kLcT); (focus walk_at "tr"))
  | ((with_reducible apply n_kLcT); (focus walk_at "tr"))
  | ((with_reducible apply y_kWh); (focus walk_at "tr"))
  | ((with_reducible apply n_kWh); (focus walk_at "tr")))
local macro_rules | `(tactic| walk_at "go") => `(tactic| repeat (first | walk_at "g1" | walk_at "yn"))
local macro_rules | `(tactic| walk_at "hp") => `(tactic| first
  | ((with_reducible apply RingIn.ex); (focus walk_at "as"); walk_at "hp")
  | ((with_reducible apply RingAt.ex); (focus walk_at "as"); walk_at "hp")
  | ((with_reducible apply RingIn.exb); (focus walk_at "as"); (focus walk_at "hp"); walk_at "hp")
  | ((with_reducible apply RingAt.exb); (focus walk_at "as"); (focus walk_at "hp"); walk_at "hp")
  | ((with_reducible apply TupK.ex); (focus walk_at "as"); walk_at "hp")
  | ((with_reducible apply TupK.exb); (focus walk_at "as"); (focus walk_at "hp"); walk_at "hp"))
local macro_rules | `(tactic| walk_at "lk") => `(tactic| first | with_reducible exact rf_spans | with_reducible exact rf_heaps | with_reducible exact rf_total | with_reducible exact rf_nr | with_reducible exact rf_wd)
local macro_rules | `(tactic| walk_at "sp") => `(tactic| first
  | ((with_reducible apply g_isiTup); (focus walk_at "hp"))
  | ((with_reducible apply g_isiLst); (focus walk_at "hp"))
  | ((with_reducible apply g_isint); (focus omega); (focus omega))
  | ((with_reducible apply g_checkn); (focus omega); (focus omega))
  | ((with_reducible apply g_rbooks); (focus walk_at "hp"))
  | ((with_reducible apply g_rpace); (focus walk_at "hp"); intro _ _ _ _)
  | ((with_reducible apply g_rlen); (focus walk_at "hp"))
  | ((with_reducible apply g_rneed); (focus walk_at "hp"); (focus omega))
  | ((with_reducible apply g_rneedM); (focus walk_at "hp"))
  | ((with_reducible apply g_rwithM); (focus walk_at "hp"))
  | ((with_reducible apply g_rspans); (focus walk_at "hp"); (focus with_reducible assumption))
  | ((with_reducible apply g_rheaps); (focus walk_at "hp"); (focus with_reducible assumption))
  | ((with_reducible apply g_rtotal); (focus walk_at "hp"); (focus with_reducible assumption)))

local macro_rules | `(tactic| walk_at "sp") => `(tactic| first
  | ((with_reducible apply g_taken); (focus walk_at "hp"); (focus first | decide | omega); (focus first | decide | omega); intro _ _ _ _ _ _))
local macro_rules | `(tactic| walk_at "hp") => `(tactic| first
  | ((with_reducible apply DiceAt.ex); (focus walk_at "as"); walk_at "hp")
  | ((with_reducible apply exb_tD); (focus walk_at "as"); (focus walk_at "hp"); walk_at "hp")
  | ((with_reducible apply exb_insD); (focus walk_at "as"); (focus walk_at "hp"); walk_at "hp")
  | ((with_reducible apply RingIn.exD); (focus walk_at "as"); (focus walk_at "hp"); walk_at "hp")
  | ((with_reducible apply TupK.exD); (focus walk_at "as"); (focus walk_at "hp"); walk_at "hp"))

theorem Exb.ex2 {l d : Addr} {H0 H H' : Hp} (h : H0 l = none) (a : Exb d H0 H) (b : Exb l H H') : Exb d H0 H' := fun c o n e => b c o (ne_of_none e h) (a c o n e)
theorem sum_set : ∀ (hs : List Int) (j : Nat) (v x : Int), hs[j]? = some x → (hs.set j v).sum = hs.sum - x + v
  | [], _, _, _, h => by cases h
  | y :: r, 0, v, x, h => by
    cases h
    rw [List.set_cons_zero, List.sum_cons, List.sum_cons]
    omega
  | y :: r, j + 1, v, x, h => by
    rw [List.set_cons_succ, List.sum_cons, List.sum_cons, sum_set r j v x (by simpa using h)]
    omega
theorem all_set {P : Int → Prop} {hs : List Int} (h : ∀ x ∈ hs, P x) (j : Nat) {v : Int} (hv : P v) : ∀ x ∈ hs.set j v, P x := fun x hx => by
  rcases List.mem_or_eq_of_mem_set hx with h1 | h1
  · exact h x h1
  · rw [h1]; exact hv
theorem all_app {P : Int → Prop} {hs : List Int} (h : ∀ x ∈ hs, P x) {v : Int} (hv : P v) : ∀ x ∈ hs ++ [v], P x := fun x hx => by
  rcases List.mem_append.mp hx with h1 | h1
  · exact h x h1
  · rw [List.mem_singleton.mp h1]; exact hv
theorem map_app (ds : List Int) (v : Int) : ds.map V.int ++ [V.int v] = (ds ++ [v]).map V.int := by rw [List.map_append]; rfl
theorem map_set' (ds : List Int) (j : Nat) (v : Int) : (ds.map V.int).set j (.int v) = (ds.set j v).map V.int := by rw [List.map_set]
theorem ixN_nat' {n j : Nat} (h : j < n) : ixN n (j : Int) = some j := by
  unfold ixN
  rw [if_pos (by omega), if_pos (by omega), Int.toNat_natCast]
theorem ixN_int {n : Nat} {k : Int} (h : 0 ≤ k ∧ k < n) : ixN n k = some k.toNat := by
  unfold ixN
  rw [if_pos h.1, if_pos h.2]
/-! o[i] += e of lists -/
def rGetL (K : PySem.W.Frag) : V → V → Hp → VK → Prop := fun o i H Q => ∃ (p : Addr) (xs : List V) (j : Nat) (v : V), o = .ref p ∧ i = .int (j : Int) ∧ SqL K H p xs ∧ xs[j]? = some v ∧ Q v H
theorem pget_list {X : Cx} : PGet X (rGetL X.K) := by
  intro pins s σ H o i ov iv Q I ro ri h
  obtain ⟨p, xs, j, v, rfl, rfl, hq, he, q⟩ := h
  cases ro
  obtain ⟨t, rfl⟩ := ri
  obtain ⟨its, r, pl, hz⟩ := I.list hq
  obtain ⟨w, ew, rw'⟩ := r.get he
  have hl := r.length
  have hn := line63
  have hj := (List.getElem?_eq_some_iff.mp he).1
  exact wpAny_getItem_list pl.isList (Int.natCast_nonneg _) (by omega) (x := w) (by simpa using ew) ⟨v, H, I, rw', q⟩
theorem g_augS {to ti te : TE} {tget : V → V → Hp → VK → Prop} {tip : TIp} {tset : TSet} {D : Ends} {σ : L2.St} {H : Hp} (q : to σ H fun o H1 => ti σ H1 fun i H2 => tget o i H2 fun x H3 => te σ H3 fun y H4 => tip x y H4 fun z H5 => tset o i z H5 fun H6 => D.nx σ H6) : tAugS to ti te tget tip tset D σ H := q
theorem g_getL {K : PySem.W.Frag} {H : Hp} {Q : VK} {p : Addr} {xs : List V} {j : Nat} {v : V} (h : SqL K H p xs) (e : xs[j]? = some v) (q : Q v H) : rGetL K (.ref p) (.int (j : Int)) H Q := ⟨p, xs, j, v, rfl, rfl, h, e, q⟩
local macro_rules | `(tactic| walk_at "g1") => `(tactic| with_reducible apply g_augS)
theorem sum_nn : ∀ {l : List Int}, (∀ x ∈ l, 0 ≤ x) → 0 ≤ l.sum
  | [], _ => by simp
  | x :: l, h => by
    rw [List.sum_cons]
    have h1 := h x List.mem_cons_self
    have h2 := sum_nn (l := l) fun y hy => h y (List.mem_cons_of_mem _ hy)
    omega
theorem g_rep0 {H : Hp} {Q : VK} {l : Addr} {n : Nat} (h : H l = some (.lst [.int 0])) (hn : n ≤ 900) (q : ∀ p H', H p = none → Ex H H' → H' p = some (.lst ((List.replicate n (0 : Int)).map V.int)) → Q (.ref p) H') : rRep (.ref l) (.int (n : Int)) H Q := by
  refine ⟨l, n, [.int 0], rfl, rfl, h, by omega, by omega, ?_, fun p hp => q p _ hp (Ex.new hp) ?_⟩
  · refine sz1000 ?_
    simp
    omega
  · rw [upd_same, Int.toNat_natCast, List.flatten_replicate_singleton, List.map_replicate]
section
variable {P : Program} {w : World} {K : PySem.W.Frag} {mg : Str → Option Value} {base : Heap} {C : Addr}
def sp_parts (K : PySem.W.Frag) : Sp := fun vs H Q _ => ∃ (d : Addr) (most : Int), vs = [.ref d, .int most] ∧ DiceAt K H d ∧ (2 ≤ most ∧ most ≤ 8) ∧
  ∀ p a b ds hs H', H p = none → Exb d H H' → DiceAt K H' d → H' p = some (.tup [.ref a, .ref b]) → TupK H' a (ds.map V.int) → TupK H' b (hs.map V.int) → RingOk ds hs → (ds.length : Int) ≤ most → Q (.ref p) H'
set_option maxHeartbeats 8000000 in
theorem ok_pair (Z : Blt mg) (D__law_taken : Df P w K mg base 1 "_law_taken" ["_law_row", "_law_many"] (sp_taken K)) (G : GFun K mg "_law_pair" s__law_pair) : Df P w K mg base 3 "_law_pair" ["_law_row", "_law_most"] (sp_parts K) := by
  refine Df.of G sc__law_pair b__law_pair (fun vs H Q E h => ?_) (fun f cdv A outer s H vs Q E hr h => ?_)
  · obtain ⟨d, most, rfl, _⟩ := h
    rfl
  · obtain ⟨d, most, rfl, D, ⟨m1, m2⟩, q⟩ := h
    refine ⟨_, PSs.nox (pss_cons (ps_set (i := 2) sc__law_pair.nd rfl (by first | exact Or.inl rfl | exact Or.inr rfl) (pe_op op_add pe_int (pg D__law_taken hr (pa_cons (pv 0) (pa_cons (pe_op op_sub (pv 1) pe_int) pa_nil)))))
      (pss_cons (ps_set (i := 3) sc__law_pair.nd rfl (by first | exact Or.inl rfl | exact Or.inr rfl) (pe_callTy c_tuple_of (by rfl) Z.ztuple (by decide +kernel) (pa_cons (pe_lc (own := [("_law_k", 5)]) rfl sc__law_pair.nd (pi_range1 (by rfl) Z.zrange (pa_cons (pv 2) pa_nil)) (blkOk_by (N := N__law_pair) (sc := defScope s__law_pair) (by decide +kernel)) (fun _ _ _ _ _ => (pg_name (i := 5) sc__law_pair.nd rfl (by first | exact Or.inl rfl | exact Or.inr rfl))) (fun _ _ _ _ _ => pts_nil) (fun _ _ _ _ _ => (pe_op op_add pe_int (pg D__law_taken hr (pa_cons (pv 0) (pa_cons (pe_ix (ix_listK K) (pe_lst (pa_cons pe_int (pa_cons pe_int (pa_cons pe_int pa_nil)))) (pg D__law_taken hr (pa_cons (pv 0) (pa_cons pe_int pa_nil))) (fun _ _ => rfl)) pa_nil)))))) pa_nil)))
      (pss_cons (ps_set (i := 4) sc__law_pair.nd rfl (by first | exact Or.inl rfl | exact Or.inr rfl) (pe_op op_rep (pe_lst (pa_cons pe_int pa_nil)) (pv 2)))
      (pss_cons (ps_for PassesOwn.never rfl (pi_range1 (by rfl) Z.zrange (pa_cons (pe_op op_add pe_int (pg D__law_taken hr (pa_cons (pv 0) (pa_cons (pe_ix ix_list (pe_lst (pa_cons pe_int (pa_cons pe_int pa_nil))) (pg D__law_taken hr (pa_cons (pv 0) (pa_cons pe_int pa_nil))) (fun _ _ => rfl)) pa_nil)))) pa_nil)) (pg_name (i := 5) sc__law_pair.nd rfl (by first | exact Or.inl rfl | exact Or.inr rfl)) (pss_one (ps_augS (pv 4) (pg D__law_taken hr (pa_cons (pv 0) (pa_cons (pv 2) pa_nil))) pget_list pe_int ip_add set_list)))
      (pss_one (ps_ret (pe_tup (pa_cons (pv 3) (pa_cons (pe_callTy c_tuple_of (by rfl) Z.ztuple (by decide +kernel) (pa_cons (pv 4) pa_nil)) pa_nil))))))))), ?_⟩
    walk_at "g0"
    walk_at "go"
    rename_i n H1 n0 n1 e1 D1
    refine g_kLcR1 ⟨by omega, by omega⟩ (fun A i H' => ∃ ds : List Int, Exb d H H' ∧ DiceAt K H' d ∧ H' A = some (.lst (ds.map V.int)) ∧ ds.length = i ∧ ∀ x ∈ ds, 1 ≤ x ∧ x ≤ 30) (fun A H5 nA e5 hA => ⟨[], e1.trans (Exb.of e5), D1.ex e5, hA, rfl, fun x hx => by cases hx⟩) ?_ ?_
    · rintro A i H5 nA hi ⟨ds, e5, D5, hA, rfl, hds⟩
      have hAd : A ≠ d := by
        obtain ⟨_, hd⟩ := D1.lst
        exact Ne.symm (ne_of_none hd nA)
      have nA0 : H A = none := by
        cases hz : H A with
        | none => rfl
        | some o => rw [e1 _ _ hAd hz] at nA; cases nA
      walk_at "go"
      rename_i l H6 nl e6 hl k H7 k0 k1 e7 D7
      have hld : l ≠ d := by
        obtain ⟨_, hd⟩ := D5.lst
        exact Ne.symm (ne_of_none hd nl)
      have hl7 := e7 _ _ hld hl
      have hfar : ∃ far, atI [V.int 3, .int 9, .int 30] k = some (.int far) ∧ 3 ≤ far ∧ far ≤ 30 := by
        have : k = 0 ∨ k = 1 ∨ k = 2 := by omega
        rcases this with rfl | rfl | rfl
        · exact ⟨3, rfl, by decide, by decide⟩
        · exact ⟨9, rfl, by decide, by decide⟩
        · exact ⟨30, rfl, by decide, by decide⟩
      obtain ⟨far, hfar, f1, f2⟩ := hfar
      refine g_ixL (SqL.of hl7) hfar ?_
      walk_at "go"
      rename_i k2 H8 k20 k21 e8 D8 H9 e9 hA9
      have hA8 := e8 _ _ hAd (e7 _ _ hAd (e6 _ _ hA))
      have e58 : Exb d H H8 := ((e5.trans (Exb.of e6)).trans e7).trans e8
      exact ⟨ds ++ [1 + k2], Exb.ex2 nA0 e58 e9, D8.exb e9 (Ne.symm hAd) hA8, by rw [hA9, map_app], by rw [List.length_append]; rfl, all_app hds ⟨by omega, by omega⟩⟩
    · rintro A H5 nA ⟨ds, e5, D5, hA, hlen, hds⟩
      have hAd : A ≠ d := by
        obtain ⟨_, hd⟩ := D1.lst
        exact Ne.symm (ne_of_none hd nA)
      walk_at "go"
      rename_i a H6 na e6 ta l7 H7 n7 e7 h7
      obtain ⟨N, hN⟩ : ∃ N : Nat, 2 + n = (N : Int) := ⟨(2 + n).toNat, by omega⟩
      rw [hN] at hlen ⊢
      rw [Int.toNat_natCast] at hlen
      refine g_rep0 h7 (by omega) fun B H8 nB e8 hB => ?_
      have e68 := (e6.trans e7).trans e8
      have D8 := D5.ex e68
      have ta8 := ta.ex (e7.trans e8)
      have e08 : Exb d H H8 := e5.trans (Exb.of e68)
      have hBd : B ≠ d := by
        obtain ⟨_, hd⟩ := (D5.ex (e6.trans e7)).lst
        exact Ne.symm (ne_of_none hd nB)
      have nB0 : H B = none := by
        cases hz : H B with
        | none => rfl
        | some o => rw [e7 _ _ (e6 _ _ (e5 _ _ hBd hz))] at nB; cases nB
      clear e6 e7 e8 h7 n7 nA na ta e5 D5 hA D1 e1
      walk_at "go"
      rename_i l9 H9 n9 e9 h9 c H10 c0 c1 e10 D10
      have hl9d : l9 ≠ d := by
        obtain ⟨_, hd⟩ := D8.lst
        exact Ne.symm (ne_of_none hd n9)
      have h10 := e10 _ _ hl9d h9
      have hfar : ∃ far, atI [V.int 4, .int 12] c = some (.int far) ∧ 4 ≤ far ∧ far ≤ 12 := by
        have : c = 0 ∨ c = 1 := by omega
        rcases this with rfl | rfl
        · exact ⟨4, rfl, by decide, by decide⟩
        · exact ⟨12, rfl, by decide, by decide⟩
      obtain ⟨far, hfar, f1, f2⟩ := hfar
      refine g_ixL (SqL.of h10) hfar ?_
      walk_at "go"
      rename_i k3 H11 k30 k31 e11 D11
      have hB11 := e11 _ _ hBd (e10 _ _ hBd (e9 _ _ hB))
      have e011 := ((e08.trans (Exb.of e9)).trans e10).trans e11
      have ta11 := (ta8.ex e9 |>.exD e10 (D8.ex e9)).exD e11 D10
      refine g_kForR1 ⟨by omega, by omega⟩ (fun i σ H' => ∃ (hs : List Int) (v5 : Option V), σ = [some (.ref d), some (.int most), some (.int (N : Int)), some (.ref a), some (.ref B), v5] ∧ Exb d H H' ∧ DiceAt K H' d ∧ TupK H' a (ds.map V.int) ∧ H' B = some (.lst (hs.map V.int)) ∧ hs.length = N ∧ (∀ x ∈ hs, 0 ≤ x) ∧ hs.sum = (i : Int))
        ⟨List.replicate N 0, _, rfl, e011, D11, ta11, hB11, List.length_replicate, fun x hx => by rw [(List.mem_replicate.mp hx).2]; decide, by simp⟩ ?_ ?_
      · rintro i σ H12 hi ⟨hs, v5, rfl, e12, D12, ta12, hB12, hl12, hp12, hs12⟩
        walk_at "go"
        rename_i j H13 j0 j1 e13 D13
        have hB13 := e13 _ _ hBd hB12
        obtain ⟨jn, rfl⟩ : ∃ jn : Nat, j = (jn : Int) := ⟨j.toNat, by omega⟩
        have hjl : jn < hs.length := by omega
        have hj : hs[jn]? = some hs[jn] := List.getElem?_eq_getElem hjl
        refine g_getL (SqL.of hB13) (v := .int hs[jn]) (by rw [List.getElem?_map, hj]; rfl) ?_
        walk_at "go"
        refine g_setL hB13 (by rw [List.length_map]; exact ixN_nat' hjl) fun H14 e14 hB14 => ?_
        rw [map_set'] at hB14
        have hsum := sum_set hs jn (hs[jn] + 1) _ hj
        have h0 := hp12 _ (List.getElem_mem hjl)
        exact ⟨hs.set jn (hs[jn] + 1), _, rfl, Exb.ex2 nB0 (e12.trans e13) e14, D13.exb e14 (Ne.symm hBd) hB13, (ta12.exD e13 D12).exb e14 hB13, hB14, by rw [List.length_set]; exact hl12, all_set hp12 jn (by omega), by rw [hsum, hs12]; omega⟩
      · rintro σ H12 ⟨hs, v5, rfl, e12, D12, ta12, hB12, hl12, hp12, hs12⟩
        walk_at "go"
        rename_i b Hb nb eb tb p Hp np ep hp
        have hbd : ∀ x ∈ hs, 0 ≤ x ∧ x ≤ 12 := fun x hx => ⟨hp12 x hx, by
          obtain ⟨j, hjl, rfl⟩ := List.getElem_of_mem hx
          have h1 := sum_set hs j 0 _ (List.getElem?_eq_getElem hjl)
          have h2 := sum_nn (l := hs.set j 0) (all_set hp12 j (by decide))
          omega⟩
        refine q p a b ds hs Hp ?_ (e12.trans (Exb.of (eb.trans ep))) (D12.ex (eb.trans ep)) hp (ta12.ex (eb.trans ep)) (tb.ex ep) ⟨by omega, by omega, by omega, hds, hbd, by omega, by omega⟩ (by omega)
        have hpd : p ≠ d := by
          obtain ⟨_, hd⟩ := D12.lst
          exact Ne.symm (ne_of_none (eb _ _ hd) np)
        cases hz : H p with
        | none => rfl
        | some o => rw [eb _ _ (e12 _ _ hpd hz)] at np; cases np
end
end G48

/-! data of ints compared; tests whose rest is one -/
namespace G48
open PySem PySem.Spec PyProof.Rows L2 Evl
/-- the law's own body: nothing leaves it -/
abbrev Body0 (P : Program) (w : World) (K : PySem.W.Frag) (mg : Str → Option Value) (base : Heap) (qual : Str) (N : List Str) (st : Stmt) (k : Nat) (sp : Sp) : Prop :=
  ∀ (f : Addr) (cdv : Value) (A : Around) (outer : List Env) (s : Shared) (H : Hp) (vs : List V) (Q : VK) (E : XK), Room k (A.deeper (envOfC qual (defScope st) s.heap.objs.size f cdv)) → sp vs H Q E →
      ∃ t, PSs (cxOf L2.CX0 P w K mg base N qual (defScope st) f cdv A outer s H E).nox (defBody st) t ∧ t { nx := fun _ H' => Q .non H', rt := Q } (start N vs) H
theorem g_kAndN {u : TT} {σ : L2.St} {QB : Bool → Hp → Prop} {c : Bool} {H : Hp} (rest : ∀ H', Ex H H' → QB false H') (h1 : c = true → (∀ H', Ex H H' → QB false H') → u σ H QB) : kAnd u σ QB c H := g_kAnd (fun h => h1 h rest) fun _ => rest H (Ex.refl _)
theorem eqvAll_ints : ∀ xs ys : List Int, PyData.eqvAll (xs.map PyData.int) (ys.map PyData.int) = decide (xs = ys)
  | [], [] => by simp [PyData.eqvAll]
  | [], _ :: _ => by simp [PyData.eqvAll]
  | _ :: _, [] => by simp [PyData.eqvAll]
  | x :: xs, y :: ys => by
    rw [Bool.eq_iff_iff]
    simp [PyData.eqvAll, PyData.eqv, eqvAll_ints xs ys]
theorem sh_lst (ns : List Int) : SeqAt.shaped (.list (ns.map PyData.int)) = true := PySem.W.shaped_ints ns
theorem sh_tup (ns : List Int) : SeqAt.shaped (.tuple (ns.map PyData.int)) = true := by
  have h1 := PySem.W.depthAll_ints ns
  have h2 : PyData.depth (.tuple (ns.map PyData.int)) ≤ 64 := by simp only [PyData.depth]; omega
  show (PyData.canLay0 (.tuple (ns.map PyData.int)) && decide (PyData.depth (.tuple (ns.map PyData.int)) ≤ 64)) = true
  rw [Bool.and_eq_true]
  exact ⟨by simp only [PyData.canLay0]; exact PySem.W.canLayAll0_ints ns, decide_eq_true h2⟩
section
variable {K : PySem.W.Frag} {H : Hp} {Q : VK} {a b : Addr} {xs ys : List Int}
theorem dpAll_ints : ∀ xs : List Int, DpAll K H (xs.map V.int) (xs.map PyData.int)
  | [] => .nil
  | x :: xs => .cons (.int x) (dpAll_ints xs)
theorem dp_lst (h : SqL K H a (xs.map V.int)) : Dp K H (.ref a) (.list (xs.map PyData.int)) := .lst h (dpAll_ints xs)
theorem dp_tup (h : SqT K H a (xs.map V.int)) : Dp K H (.ref a) (.tuple (xs.map PyData.int)) := .tup h (dpAll_ints xs)
theorem eqv_lst : PyData.eqv (.list (xs.map PyData.int)) (.list (ys.map PyData.int)) = decide (xs = ys) := by simp only [PyData.eqv]; exact eqvAll_ints xs ys
theorem eqv_tup : PyData.eqv (.tuple (xs.map PyData.int)) (.tuple (ys.map PyData.int)) = decide (xs = ys) := by simp only [PyData.eqv]; exact eqvAll_ints xs ys
theorem g_eqLI (h1 : SqL K H a (xs.map V.int)) (h2 : SqL K H b (ys.map V.int)) (q : Q (.bl (decide (xs = ys))) H) : rEqD K (.ref a) (.ref b) H Q := g_eqD (dp_lst h1) (dp_lst h2) (sh_lst _) (sh_lst _) (by rw [eqv_lst]; exact q)
theorem g_neLI (h1 : SqL K H a (xs.map V.int)) (h2 : SqL K H b (ys.map V.int)) (q : Q (.bl (!decide (xs = ys))) H) : rNeD K (.ref a) (.ref b) H Q := g_neD (dp_lst h1) (dp_lst h2) (sh_lst _) (sh_lst _) (by rw [eqv_lst]; exact q)
theorem g_eqTI (h1 : SqT K H a (xs.map V.int)) (h2 : SqT K H b (ys.map V.int)) (q : Q (.bl (decide (xs = ys))) H) : rEqD K (.ref a) (.ref b) H Q := g_eqD (dp_tup h1) (dp_tup h2) (sh_tup _) (sh_tup _) (by rw [eqv_tup]; exact q)
theorem g_neTI (h1 : SqT K H a (xs.map V.int)) (h2 : SqT K H b (ys.map V.int)) (q : Q (.bl (!decide (xs = ys))) H) : rNeD K (.ref a) (.ref b) H Q := g_neD (dp_tup h1) (dp_tup h2) (sh_tup _) (sh_tup _) (by rw [eqv_tup]; exact q)
end
end G48

/-! all but some lists stand -/
namespace G48
open PySem PySem.Spec PyProof.Rows L2 Evl
/-- all but the places of S stand -/
def Exs (S : List Addr) (H H' : Hp) : Prop := ∀ b o, b ∉ S → H b = some o → H' b = some o
theorem Exs.of {S : List Addr} {H H' : Hp} (e : Ex H H') : Exs S H H' := fun b o _ h => e b o h
theorem Exs.ofb {S : List Addr} {l : Addr} {H H' : Hp} (hl : l ∈ S) (e : Exb l H H') : Exs S H H' := fun b o n h => e b o (fun z => n (z ▸ hl)) h
theorem Exs.trans {S : List Addr} {H H1 H2 : Hp} (a : Exs S H H1) (b : Exs S H1 H2) : Exs S H H2 := fun c o n h => b c o n (a c o n h)
theorem Exs.ex {S : List Addr} {H0 H H' : Hp} (h : ∀ l ∈ S, H0 l = none) (a : Ex H0 H) (b : Exs S H H') : Ex H0 H' := fun c o e => b c o (fun z => by rw [h c z] at e; cases e) (a c o e)
section
variable {K : PySem.W.Frag} {H H' : Hp}
theorem exs_t {S : List Addr} (e : Exs S H H') (hS : ∀ l ∈ S, ∃ ys, H l = some (.lst ys)) {a : Addr} {xs : List V} (h : SqT K H a xs) : SqT K H' a xs := by
  have nm : ∀ {o : HO}, H a = some o → (∀ ys, o ≠ .lst ys) → a ∉ S := fun ho hn z => by
    obtain ⟨ys, hy⟩ := hS _ z
    rw [ho] at hy
    exact hn ys (Option.some.inj hy)
  rcases h with (h | ⟨o, h⟩) | h
  · exact .inl (.inl (e _ _ (nm h fun ys z => by cases z) h))
  · exact .inl (.inr ⟨o, e _ _ (nm h fun ys z => by cases z) h⟩)
  · exact .inr h
end
end G48

/-! scenes as mathematics -/
namespace G48
structure Sc where
  day : Int
  st : Nat → List Int
  en : Nat → Option Int
  sp : Nat → Int
  nb : Int
def sprv (N k : Nat) : Nat := if k = 0 then N - 1 else k - 1
def snxt (N k : Nat) : Nat := if k + 1 = N then 0 else k + 1
theorem sprv_lt {N k : Nat} (h : k < N) : sprv N k < N := by unfold sprv; split <;> omega
theorem snxt_lt {N k : Nat} (h : k < N) : snxt N k < N := by unfold snxt; split <;> omega
theorem sprv_ne {N k : Nat} (h2 : 2 ≤ N) (h : k < N) : sprv N k ≠ k := by unfold sprv; split <;> omega
theorem snxt_ne {N k : Nat} (h2 : 2 ≤ N) (h : k < N) : snxt N k ≠ k := by unfold snxt; split <;> omega
theorem sprv_snxt {N k : Nat} (h : k < N) : sprv N (snxt N k) = k := by
  unfold sprv snxt
  by_cases z : k + 1 = N
  · rw [if_pos z, if_pos rfl]; omega
  · rw [if_neg z, if_neg (by omega)]; omega
theorem sprv_eq {N k j : Nat} (hj : j < N) (hk : k < N) : sprv N j = k ↔ j = snxt N k := by
  constructor
  · intro h
    unfold sprv at h
    unfold snxt
    split at h <;> split <;> omega
  · rintro rfl
    exact sprv_snxt hk
theorem snxt_mod {N k : Nat} (h : k < N) : ((k : Int) + 1) % (N : Int) = ((snxt N k : Nat) : Int) := by
  unfold snxt
  by_cases z : k + 1 = N
  · rw [if_pos z, show (k : Int) + 1 = (N : Int) by omega]
    exact Int.emod_self
  · rw [if_neg z, Int.emod_eq_of_lt (by omega) (by omega)]
    omega
/-! sums over the readers -/
def sumN (N : Nat) (f : Nat → Nat) : Nat := ((List.range N).map f).sum
theorem sumN_succ {N : Nat} {f : Nat → Nat} : sumN (N + 1) f = sumN N f + f N := by
  unfold sumN
  rw [List.range_succ, List.map_append, List.sum_append]
  simp
theorem sumN_congr {f g : Nat → Nat} : ∀ {N : Nat}, (∀ k, k < N → f k = g k) → sumN N f = sumN N g
  | 0, _ => rfl
  | N + 1, h => by rw [sumN_succ, sumN_succ, sumN_congr (N := N) fun k hk => h k (by omega), h N (by omega)]
theorem sumN_add {f g : Nat → Nat} : ∀ {N : Nat}, sumN N (fun k => f k + g k) = sumN N f + sumN N g
  | 0 => rfl
  | N + 1 => by rw [sumN_succ, sumN_succ, sumN_succ, sumN_add (N := N)]; omega
theorem sumN_front {f : Nat → Nat} : ∀ {N : Nat}, sumN (N + 1) f = f 0 + sumN N (fun k => f (k + 1))
  | 0 => by rw [sumN_succ]; show 0 + f 0 = f 0 + 0; omega
  | N + 1 => by rw [sumN_succ, sumN_front (N := N), sumN_succ]; omega
theorem sumN_rot {N : Nat} {f : Nat → Nat} : sumN N (fun k => f (sprv N k)) = sumN N f := by
  cases N with
  | zero => rfl
  | succ M =>
    rw [sumN_front, sumN_succ]
    have e0 : sprv (M + 1) 0 = M := rfl
    rw [e0, sumN_congr (g := f) fun k _ => by
      show f (sprv (M + 1) (k + 1)) = f k
      have : sprv (M + 1) (k + 1) = k := rfl
      rw [this]]
    omega
theorem sumN_one {f : Nat → Nat} : ∀ {N k : Nat}, k < N → f k ≤ sumN N f
  | N + 1, k, h => by
    rw [sumN_succ]
    by_cases z : k = N
    · rw [z]; omega
    · have := sumN_one (f := f) (N := N) (k := k) (by omega); omega
theorem sumN_two {f : Nat → Nat} : ∀ {N j k : Nat}, j < N → k < N → j ≠ k → f j + f k ≤ sumN N f
  | N + 1, j, k, hj, hk, h => by
    rw [sumN_succ]
    by_cases z : k = N
    · have := sumN_one (f := f) (N := N) (k := j) (by omega)
      rw [z]; omega
    · by_cases y : j = N
      · have := sumN_one (f := f) (N := N) (k := k) (by omega)
        rw [y]; omega
      · have := sumN_two (f := f) (N := N) (j := j) (k := k) (by omega) (by omega) h; omega
/-! the scene's steps -/
def Sc.begun (s : Sc) : Sc := { s with en := fun k => if s.en k = none ∧ s.st k ≠ [] then some (s.day + s.sp k) else s.en k }
def movSt (N : Nat) (P : Nat → Prop) [DecidablePred P] (st : Nat → List Int) : Nat → List Int := fun k => (if P k then (st k).tail else st k) ++ (if P (sprv N k) then (st (sprv N k)).take 1 else [])
def Sc.due (s : Sc) (k : Nat) : Prop := s.en k = some (s.day + 1)
instance (s : Sc) : DecidablePred s.due := fun k => inferInstanceAs (Decidable (s.en k = some (s.day + 1)))
def Sc.next0 (N : Nat) (s : Sc) : Sc := { s with day := s.day + 1, st := movSt N s.due s.st, en := fun k => if s.due k then none else s.en k }
def Sc.next (N : Nat) (s : Sc) : Sc := (s.next0 N).begun
def Sc.dueK (N : Nat) (s : Sc) : List Nat := (List.range N).filter fun k => decide (s.due k)
theorem Sc.mem_due {N : Nat} {s : Sc} {k : Nat} : k ∈ s.dueK N ↔ k < N ∧ s.due k := by
  unfold Sc.dueK
  rw [List.mem_filter, List.mem_range, decide_eq_true_iff]
theorem Sc.due_nodup {N : Nat} {s : Sc} : (s.dueK N).Nodup := List.Pairwise.filter _ List.nodup_range
/-- the readings that end on the next day -/
def Sc.ended (N : Nat) (s : Sc) : List (Int × Int × Int) := (s.dueK N).map fun (k : Nat) => (s.day + 1, (k : Int), (s.st k).headD 0)
structure ScW (N : Nat) (s : Sc) : Prop where
  two : 2 ≤ N
  eight : N ≤ 8
  uni : ∀ b, sumN N (fun k => (s.st k).count b) ≤ 1
  few : sumN N (fun k => (s.st k).length) ≤ 12
  sp : ∀ k, k < N → 1 ≤ s.sp k ∧ s.sp k ≤ 30
  day : 0 ≤ s.day
  ends : ∀ k, k < N → ∀ e, s.en k = some e → s.st k ≠ [] ∧ s.day + 1 ≤ e ∧ e ≤ s.day + 30
/-- all have begun that can -/
structure ScOk (N : Nat) (s : Sc) : Prop extends ScW N s where
  busy : ∀ k, k < N → s.en k = none → s.st k = []
theorem ScW.begun {N : Nat} {s : Sc} (W : ScW N s) : ScOk N s.begun where
  two := W.two
  eight := W.eight
  uni := W.uni
  few := W.few
  sp := W.sp
  day := W.day
  ends := fun k hk e he => by
    have he : (if s.en k = none ∧ s.st k ≠ [] then some (s.day + s.sp k) else s.en k) = some e := he
    by_cases z : s.en k = none ∧ s.st k ≠ []
    · rw [if_pos z] at he
      have := W.sp k hk
      cases he
      refine ⟨z.2, ?_, ?_⟩
      · show s.day + 1 ≤ _; omega
      · show _ ≤ s.day + 30; omega
    · rw [if_neg z] at he
      exact W.ends k hk e he
  busy := fun k hk he => by
    have he : (if s.en k = none ∧ s.st k ≠ [] then some (s.day + s.sp k) else s.en k) = none := he
    by_cases z : s.en k = none ∧ s.st k ≠ []
    · rw [if_pos z] at he; cases he
    · rw [if_neg z] at he
      show s.st k = []
      by_cases y : s.st k = []
      · exact y
      · exact absurd ⟨he, y⟩ z
theorem mov_sum {N : Nat} {P : Nat → Prop} [DecidablePred P] {st : Nat → List Int} (φ : List Int → Nat) (h0 : φ [] = 0) (ha : ∀ x y, φ (x ++ y) = φ x + φ y) : sumN N (fun k => φ (movSt N P st k)) = sumN N (fun k => φ (st k)) := by
  have e : ∀ k, φ (movSt N P st k) = φ (if P k then (st k).tail else st k) + (fun j => φ (if P j then (st j).take 1 else [])) (sprv N k) := fun k => ha _ _
  rw [sumN_congr (fun k _ => e k), sumN_add, sumN_rot (f := fun j => φ (if P j then (st j).take 1 else [])), ← sumN_add]
  refine sumN_congr fun k _ => ?_
  by_cases z : P k
  · rw [if_pos z, if_pos z, Nat.add_comm, ← ha]
    congr 1
    cases st k <;> rfl
  · rw [if_neg z, if_neg z, h0, Nat.add_zero]
theorem mov_count {N : Nat} {P : Nat → Prop} [DecidablePred P] {st : Nat → List Int} (b : Int) : sumN N (fun k => (movSt N P st k).count b) = sumN N (fun k => (st k).count b) := mov_sum (fun l => l.count b) rfl fun x y => List.count_append
theorem mov_len {N : Nat} {P : Nat → Prop} [DecidablePred P] {st : Nat → List Int} : sumN N (fun k => (movSt N P st k).length) = sumN N (fun k => (st k).length) := mov_sum List.length rfl fun x y => List.length_append
theorem ScOk.next0 {N : Nat} {s : Sc} (W : ScOk N s) : ScW N (s.next0 N) where
  two := W.two
  eight := W.eight
  uni := fun b => by
    show sumN N (fun k => (movSt N s.due s.st k).count b) ≤ 1
    rw [mov_count]; exact W.uni b
  few := by
    show sumN N (fun k => (movSt N s.due s.st k).length) ≤ 12
    rw [mov_len]; exact W.few
  sp := W.sp
  day := by have := W.day; show 0 ≤ s.day + 1; omega
  ends := fun k hk e he => by
    have he : (if s.due k then none else s.en k) = some e := he
    by_cases z : s.due k
    · rw [if_pos z] at he; cases he
    · rw [if_neg z] at he
      obtain ⟨h1, h2, h3⟩ := W.ends k hk e he
      refine ⟨?_, ?_, ?_⟩
      · show movSt N s.due s.st k ≠ []
        unfold movSt
        rw [if_neg z]
        intro y
        exact h1 (List.append_eq_nil_iff.mp y).1
      · show s.day + 1 + 1 ≤ e
        have : s.en k ≠ some (s.day + 1) := z
        rw [he] at this
        have : e ≠ s.day + 1 := fun y => this (by rw [y])
        omega
      · show e ≤ s.day + 1 + 30; omega
theorem ScOk.next {N : Nat} {s : Sc} (W : ScOk N s) : ScOk N (s.next N) := W.next0.begun
theorem ScW.len {N : Nat} {s : Sc} (W : ScW N s) {k : Nat} (hk : k < N) : (s.st k).length ≤ 12 := Nat.le_trans (sumN_one (f := fun k => (s.st k).length) hk) W.few
theorem ScW.head {N : Nat} {s : Sc} (W : ScW N s) {k : Nat} (hk : k < N) (h : s.due k) : ∃ b t, s.st k = b :: t ∧ b ∉ t := by
  obtain ⟨h1, _⟩ := W.ends k hk _ h
  obtain ⟨b, t, e⟩ := List.exists_cons_of_ne_nil h1
  refine ⟨b, t, e, fun hb => ?_⟩
  have h2 := sumN_one (f := fun k => (s.st k).count b) hk
  have h3 := W.uni b
  have h4 : 1 ≤ t.count b := List.one_le_count_iff.mpr hb
  have h5 : (s.st k).count b = t.count b + 1 := by rw [e, List.count_cons_self]
  have h6 : (fun k => (s.st k).count b) k = (s.st k).count b := rfl
  omega
theorem ScW.apart {N : Nat} {s : Sc} (W : ScW N s) {j k : Nat} (hj : j < N) (hk : k < N) (h : j ≠ k) {b : Int} (h1 : b ∈ s.st j) : b ∉ s.st k := fun h2 => by
  have := sumN_two (f := fun k => (s.st k).count b) hj hk h
  have h3 := W.uni b
  have h4 : 1 ≤ (s.st j).count b := List.one_le_count_iff.mpr h1
  have h5 : 1 ≤ (s.st k).count b := List.one_le_count_iff.mpr h2
  have h6 : (fun k => (s.st k).count b) k = (s.st k).count b := rfl
  have h7 : (fun k => (s.st k).count b) j = (s.st j).count b := rfl
  omega
theorem filter_ne {b : Int} : ∀ {l : List Int}, b ∉ l → l.filter (fun x => !decide (x = b)) = l
  | [], _ => rfl
  | x :: l, h => by
    have h1 : x ≠ b := fun z => h (by rw [z]; exact List.mem_cons_self)
    have h2 : b ∉ l := fun z => h (List.mem_cons_of_mem _ z)
    rw [List.filter_cons_of_pos (by simp [h1]), filter_ne h2]
/-- a stack amid the moves: those of ks are moved -/
def midSt (N : Nat) (ks : List Nat) (st : Nat → List Int) : Nat → List Int := movSt N (fun k => k ∈ ks) st
theorem mid_all {N : Nat} {s : Sc} {k : Nat} (hk : k < N) : midSt N (s.dueK N) s.st k = movSt N s.due s.st k := by
  unfold midSt movSt
  have e1 : (k ∈ s.dueK N) = s.due k := by rw [eq_iff_iff, Sc.mem_due]; exact ⟨fun h => h.2, fun h => ⟨hk, h⟩⟩
  have e2 : (sprv N k ∈ s.dueK N) = s.due (sprv N k) := by rw [eq_iff_iff, Sc.mem_due]; exact ⟨fun h => h.2, fun h => ⟨sprv_lt hk, h⟩⟩
  simp only [e1, e2]
theorem mid_nil {N : Nat} {st : Nat → List Int} {k : Nat} : midSt N [] st k = st k := by
  unfold midSt movSt
  rw [if_neg (by simp), if_neg (by simp), List.append_nil]
/-- the reader's own stack, the book taken out -/
theorem mid_out {N : Nat} {s : Sc} (W : ScW N s) {ks : List Nat} {k : Nat} (hk : k < N) (hd : s.due k) (hn : k ∉ ks) {b : Int} {t : List Int} (hb : s.st k = b :: t) :
    (midSt N ks s.st k).filter (fun x => !decide (x = b)) = t ++ (if sprv N k ∈ ks then (s.st (sprv N k)).take 1 else []) := by
  obtain ⟨b', t', e, hbt⟩ := W.head hk hd
  rw [hb] at e
  cases e
  unfold midSt movSt
  rw [if_neg hn, hb, List.filter_append]
  congr 1
  · rw [List.filter_cons_of_neg (by simp), filter_ne hbt]
  · refine filter_ne fun h => ?_
    have hp := sprv_lt hk
    have h1 : b ∈ s.st (sprv N k) := by
      by_cases z : sprv N k ∈ ks
      · rw [if_pos z] at h; exact List.mem_of_mem_take h
      · rw [if_neg z] at h; cases h
    exact W.apart hp hk (sprv_ne W.two hk) h1 (by rw [hb]; exact List.mem_cons_self)
theorem mid_own {N : Nat} {s : Sc} {ks : List Nat} {k : Nat} (h2 : 2 ≤ N) (hk : k < N) {b : Int} {t : List Int} (hb : s.st k = b :: t) :
    midSt N (ks ++ [k]) s.st k = t ++ (if sprv N k ∈ ks then (s.st (sprv N k)).take 1 else []) := by
  unfold midSt movSt
  have e : (sprv N k ∈ ks ++ [k]) = (sprv N k ∈ ks) := by
    rw [eq_iff_iff, List.mem_append, List.mem_singleton]
    exact ⟨fun h => h.elim id fun z => absurd z (sprv_ne h2 hk), .inl⟩
  simp only [e]
  rw [if_pos (by simp), hb]
  rfl
theorem mid_into {N : Nat} {s : Sc} {ks : List Nat} {k : Nat} (h2 : 2 ≤ N) (hk : k < N) (hn : k ∉ ks) {b : Int} {t : List Int} (hb : s.st k = b :: t) :
    midSt N (ks ++ [k]) s.st (snxt N k) = midSt N ks s.st (snxt N k) ++ [b] := by
  unfold midSt movSt
  rw [sprv_snxt hk]
  have e : (snxt N k ∈ ks ++ [k]) = (snxt N k ∈ ks) := by
    rw [eq_iff_iff, List.mem_append, List.mem_singleton]
    exact ⟨fun h => h.elim id fun z => absurd z (snxt_ne h2 hk), .inl⟩
  simp only [e]
  rw [if_pos (show k ∈ ks ++ [k] by simp), if_neg hn, hb, List.append_nil]
  rfl
theorem mid_else {N : Nat} {s : Sc} {ks : List Nat} {j k : Nat} (hj : j < N) (hk : k < N) (h1 : j ≠ k) (h2 : j ≠ snxt N k) : midSt N (ks ++ [k]) s.st j = midSt N ks s.st j := by
  unfold midSt movSt
  have e1 : (j ∈ ks ++ [k]) = (j ∈ ks) := by
    rw [eq_iff_iff, List.mem_append, List.mem_singleton]
    exact ⟨fun h => h.elim id fun z => absurd z h1, .inl⟩
  have e2 : (sprv N j ∈ ks ++ [k]) = (sprv N j ∈ ks) := by
    rw [eq_iff_iff, List.mem_append, List.mem_singleton]
    exact ⟨fun h => h.elim id fun z => absurd ((sprv_eq hj hk).mp z) h2, .inl⟩
  simp only [e1, e2]
theorem mid_len {N : Nat} {s : Sc} (W : ScW N s) {ks : List Nat} {k : Nat} (hk : k < N) : (midSt N ks s.st k).length ≤ 12 := by
  have h1 := sumN_one (f := fun k => (movSt N (fun k => k ∈ ks) s.st k).length) hk
  rw [mov_len] at h1
  exact Nat.le_trans h1 W.few
/-! the first scene -/
def fH (hs : List Int) (k : Nat) : Nat := (hs.getD k 0).toNat
def frng (a : Int) (n : Nat) : List Int := (List.range n).map fun (i : Nat) => a + (i : Int)
def firstSt (hs : List Int) (k : Nat) : List Int := frng ((hs.take k).sum) (fH hs k)
def Sc.first0 (ds hs : List Int) : Sc := { day := 0, st := firstSt hs, en := fun _ => none, sp := fun k => ds.getD k 0, nb := hs.sum }
def Sc.first (ds hs : List Int) : Sc := (Sc.first0 ds hs).begun
theorem frng_len {a : Int} {n : Nat} : (frng a n).length = n := by unfold frng; rw [List.length_map, List.length_range]
theorem frng_mem {a b : Int} {n : Nat} : b ∈ frng a n ↔ a ≤ b ∧ b < a + (n : Int) := by
  unfold frng
  rw [List.mem_map]
  constructor
  · rintro ⟨i, hi, rfl⟩
    have := List.mem_range.mp hi
    omega
  · intro h
    exact ⟨(b - a).toNat, List.mem_range.mpr (by omega), by omega⟩
theorem frng_nodup {a : Int} {n : Nat} : (frng a n).Nodup := by
  unfold frng
  refine List.Pairwise.map (R := fun i j : Nat => i ≠ j) _ (fun i j h z => h (by omega)) List.nodup_range
theorem ftake {hs : List Int} (h : ∀ x ∈ hs, 0 ≤ x) {k : Nat} (hk : k < hs.length) : (hs.take (k + 1)).sum = (hs.take k).sum + (fH hs k : Int) := by
  have e : hs[k]? = some hs[k] := List.getElem?_eq_getElem hk
  rw [List.take_add_one, e, List.sum_append]
  have h0 := h _ (List.getElem_mem hk)
  unfold fH
  rw [List.getD_eq_getElem?_getD, e]
  simp
  omega
/-- so far: the books of the first k readers are those below the sum -/
theorem first_count {hs : List Int} (h : ∀ x ∈ hs, 0 ≤ x) (b : Int) : ∀ {k : Nat}, k ≤ hs.length → sumN k (fun j => (firstSt hs j).count b) = if 0 ≤ b ∧ b < (hs.take k).sum then 1 else 0
  | 0, _ => by
    rw [if_neg (by simp)]
    rfl
  | k + 1, hk => by
    rw [sumN_succ, first_count h b (k := k) (by omega), ftake h (by omega)]
    have hp : 0 ≤ (hs.take k).sum := by
      have : ∀ (l : List Int), (∀ x ∈ l, 0 ≤ x) → 0 ≤ l.sum := fun l => by
        induction l with
        | nil => intro _; simp
        | cons x l ih =>
          intro hl
          rw [List.sum_cons]
          have h1 := hl x List.mem_cons_self
          have h2 := ih fun y hy => hl y (List.mem_cons_of_mem _ hy)
          omega
      exact this _ fun x hx => h x (List.mem_of_mem_take hx)
    have hc : (firstSt hs k).count b = if (hs.take k).sum ≤ b ∧ b < (hs.take k).sum + (fH hs k : Int) then 1 else 0 := by
      unfold firstSt
      by_cases z : b ∈ frng ((hs.take k).sum) (fH hs k)
      · rw [if_pos (frng_mem.mp z), frng_nodup.count, if_pos z]
      · rw [if_neg (fun y => z (frng_mem.mpr y)), List.count_eq_zero.mpr z]
    rw [hc]
    by_cases z1 : 0 ≤ b ∧ b < (hs.take k).sum
    · rw [if_pos z1, if_neg (by omega), if_pos (by omega)]
    · rw [if_neg z1]
      by_cases z2 : (hs.take k).sum ≤ b ∧ b < (hs.take k).sum + (fH hs k : Int)
      · rw [if_pos z2, if_pos (by omega)]
      · rw [if_neg z2, if_neg (by omega)]
theorem first_len {hs : List Int} (h : ∀ x ∈ hs, 0 ≤ x) : ∀ {k : Nat}, k ≤ hs.length → ((sumN k (fun j => (firstSt hs j).length) : Nat) : Int) = (hs.take k).sum
  | 0, _ => by simp; rfl
  | k + 1, hk => by
    have := first_len h (k := k) (by omega)
    rw [sumN_succ, ftake h (by omega)]
    have e : (firstSt hs k).length = fH hs k := frng_len
    rw [e]
    omega
end G48

namespace G48
open PySem PySem.Spec PyProof.Rows L2 Evl
abbrev N_Scene___init__ : List Str := ["self", "day", "stacks", "ends", "spans", "number"]
theorem sc_Scene___init__ : FnScope N_Scene___init__ ["self", "day", "stacks", "ends", "spans", "number"] (defScope s_Scene___init__) := ⟨rfl, rfl, rfl, by decide +kernel, rfl, by decide +kernel, by decide +kernel⟩
theorem b_Scene___init__ : BindL "Scene.__init__" "__init__" s_Scene___init__ ["self", "day", "stacks", "ends", "spans", "number"] := fun _ _ _ _ _ _ us hl => match us, hl with | [_, _, _, _, _, _], _ => rfl
abbrev N_Scene_begun : List Str := ["self", "ends", "stack", "end", "span"]
theorem sc_Scene_begun : FnScope N_Scene_begun ["self"] (defScope s_Scene_begun) := ⟨rfl, rfl, rfl, by decide +kernel, rfl, by decide +kernel, by decide +kernel⟩
theorem b_Scene_begun : BindL "Scene.begun" "begun" s_Scene_begun ["self"] := fun _ _ _ _ _ _ us hl => match us, hl with | [_], _ => rfl
abbrev N_Scene_following : List Str := ["self", "day", "stacks", "ends", "ended", "reader", "end", "when", "book", "later", "other"]
theorem sc_Scene_following : FnScope N_Scene_following ["self"] (defScope s_Scene_following) := ⟨rfl, rfl, rfl, by decide +kernel, rfl, by decide +kernel, by decide +kernel⟩
theorem b_Scene_following : BindL "Scene.following" "following" s_Scene_following ["self"] := fun _ _ _ _ _ _ us hl => match us, hl with | [_], _ => rfl
end G48
--lib Z
/-! scenes: made, begun, the next day, the first -/
namespace G48
open PySem PySem.Spec PyProof.Rows L2 Evl
/-! the steps -/
local macro_rules | `(tactic| walk_at "as") => `(tactic| with_reducible assumption)
local macro_rules | `(tactic| walk_at "hp") => `(tactic| first
  | with_reducible assumption
  | ((with_reducible apply SqT.of); walk_at "as")
  | ((with_reducible apply SqL.of); walk_at "as")
  | ((with_reducible apply ex_at); (focus walk_at "as"); walk_at "hp")
  | ((with_reducible apply ex_t); (focus walk_at "as"); walk_at "hp")
  | ((with_reducible apply ex_l); (focus walk_at "as"); walk_at "hp")
  | ((with_reducible apply exb_ins); (focus walk_at "as"); (focus walk_at "hp"); walk_at "hp")
  | ((with_reducible apply exb_t); (focus walk_at "as"); (focus walk_at "hp"); walk_at "hp")
  | ((with_reducible apply exb_at); (focus walk_at "as"); (focus walk_at "ne"); walk_at "hp")
  | ((with_reducible apply exb_l); (focus walk_at "as"); (focus walk_at "ne"); walk_at "hp"))
local macro_rules | `(tactic| walk_at "ne") => `(tactic| first
  | with_reducible assumption
  | exact Ne.symm (by with_reducible assumption)
  | exact ne_of_none (by with_reducible assumption) (by with_reducible assumption)
  | exact Ne.symm (ne_of_none (by with_reducible assumption) (by with_reducible assumption)))
local macro_rules | `(tactic| walk_at "tr") => `(tactic| first
  | rfl
  | with_reducible assumption
  | exact decide_eq_true (by first | with_reducible assumption | omega)
  | exact decide_eq_false (by first | with_reducible assumption | omega)
  | (rw [Bool.not_eq_true']; exact decide_eq_false (by first | with_reducible assumption | omega))
  | (rw [Bool.not_eq_false']; exact decide_eq_true (by first | with_reducible assumption | omega)))
local macro_rules | `(tactic| walk_at "nn") => `(tactic| first | with_reducible assumption | (exact List.cons_ne_nil _ _))
local macro_rules | `(tactic| walk_at "sz") => `(tactic| first | (exact sz1000 (Nat.le_of_ble_eq_true rfl)) | (refine sz1000 ?_; simp only [List.length_map, List.length_cons, List.length_nil, List.length_append]; omega) | with_reducible assumption)
local macro_rules | `(tactic| walk_at "sl") => `(tactic| first | with_reducible assumption | (refine lt1000 ?_; simp only [List.length_map, List.length_cons, List.length_nil, List.length_append]; omega) | (refine lt1000 ?_; omega))
local macro_rules | `(tactic| walk_at "ix") => `(tactic| first | rfl | with_reducible assumption)
local macro_rules | `(tactic| walk_at "rg") => `(tactic| exact RgOk.of_le (by omega) (by omega) (by omega) (by omega))
local macro_rules | `(tactic| walk_at "sp") => `(tactic| fail "sp")
local macro_rules | `(tactic| walk_at "cl") => `(tactic| with_reducible assumption)
local macro_rules | `(tactic| walk_at "lk") => `(tactic| with_reducible assumption)
local macro_rules | `(tactic| walk_at "it") => `(tactic| first | rfl | with_reducible assumption | exact atI_nat (by with_reducible assumption))
local macro_rules | `(tactic| walk_at "g1") => `(tactic| first
  | (with_reducible apply g_var); (focus rfl)
  | with_reducible apply g_c
  | with_reducible apply g_seq
  | with_reducible apply g_asg
  | with_reducible apply gg_name
  | with_reducible apply g_op
  | with_reducible apply g_cons
  | with_reducible apply g_nil
  | with_reducible apply g_cb
  | with_reducible apply g_fld
  | ((with_reducible apply g_kFld); (focus walk_at "hp"); (focus walk_at "cl"); (focus walk_at "cl"); (focus walk_at "lk"))
  | with_reducible apply g_call
  | walk_at "sp"
  | with_reducible apply g_ret
  | with_reducible apply g_drop
  | with_reducible apply g_test
  | with_reducible apply g_B
  | with_reducible apply g_kTest
  | with_reducible apply g_ifS
  | with_reducible apply g_kIfST
  | with_reducible apply g_kIfSF
  | with_reducible apply g_add
  | with_reducible apply g_sub
  | with_reducible apply g_lt
  | with_reducible apply g_le
  | with_reducible apply g_gt
  | with_reducible apply g_ge
  | with_reducible apply g_eqI
  | with_reducible apply g_neI
  | ((with_reducible apply g_mod); (focus first | decide | omega))
  | ((with_reducible apply g_mul); (focus first | (left; constructor <;> omega) | (right; constructor <;> omega)))
  | ((with_reducible apply g_fdiv); (focus (constructor <;> omega)))
  | ((with_reducible apply g_ixT); (focus walk_at "hp"); (focus walk_at "it"))
  | ((with_reducible apply g_ixL); (focus walk_at "hp"); (focus walk_at "it"))
  | with_reducible apply g_and
  | with_reducible apply g_or
  | with_reducible apply g_not
  | with_reducible apply g_kNotT
  | with_reducible apply g_kNotF
  | with_reducible apply g_if
  | with_reducible apply g_kAndT
  | with_reducible apply g_kAndF
  | with_reducible apply g_kOrT
  | with_reducible apply g_kOrF
  | with_reducible apply g_kIfT
  | with_reducible apply g_kIfF
  | with_reducible apply g_next
  | with_reducible apply g_andV
  | with_reducible apply g_orV
  | with_reducible apply g_notV
  | with_reducible apply g_kNotV
  | with_reducible apply g_kAndVT
  | with_reducible apply g_kAndVF
  | with_reducible apply g_chain
  | with_reducible apply g_kChainT
  | with_reducible apply g_kChainF
  | with_reducible apply g_tup
  | with_reducible apply g_lst
  | ((with_reducible apply g_kT); (focus walk_at "sz"); intro _ _ _ _ _)
  | ((with_reducible apply g_kL); (focus walk_at "sz"); intro _ _ _ _ _)
  | with_reducible apply g_un
  | with_reducible apply g_neg
  | with_reducible apply g_meth
  | ((with_reducible apply g_kMeth); (focus walk_at "hp"); (focus walk_at "lk"))
  | with_reducible apply g_prop
  | ((with_reducible apply g_kProp); (focus walk_at "hp"))
  | with_reducible apply g_make
  | with_reducible apply g_par
  | with_reducible apply g_kPar
  | ((with_reducible apply g_lenLM); (focus walk_at "hp"))
  | ((with_reducible apply g_lenTM); (focus walk_at "hp"))
  | ((with_reducible apply g_lenL); (focus walk_at "hp"))
  | ((with_reducible apply g_lenT); (focus walk_at "hp"))
  | with_reducible apply g_int1
  | with_reducible apply g_max2
  | with_reducible apply g_min2
  | ((with_reducible apply g_listL); (focus walk_at "hp"); intro _ _ _ _ _)
  | ((with_reducible apply g_listT); (focus walk_at "hp"); intro _ _ _ _ _)
  | ((with_reducible apply g_tupL); (focus walk_at "hp"); intro _ _ _ _ _)
  | ((with_reducible apply g_sum); (focus walk_at "hp"))
  | with_reducible apply g_sfld
  | with_reducible apply g_sl
  | with_reducible apply g_nopart
  | with_reducible apply g_part
  | with_reducible apply g_kPart
  | with_reducible apply g_lstRg
  | with_reducible apply g_rg1
  | with_reducible apply g_kRg1
  | with_reducible apply g_bm
  | with_reducible apply gg_sub
  | ((with_reducible apply gg_tup); (focus walk_at "hp"); (focus rfl))
  | with_reducible apply gg_cons
  | with_reducible apply gg_nil
  | with_reducible apply g_forL
  | with_reducible apply g_forT
  | with_reducible apply g_forR1
  | with_reducible apply g_forR2
  | with_reducible apply g_forE
  | with_reducible apply g_forEL
  | ((with_reducible apply g_maxT); (focus walk_at "hp"); (focus walk_at "nn"))
  | ((with_reducible apply g_maxL); (focus walk_at "hp"); (focus walk_at "nn"))
  | ((with_reducible apply g_catA); (focus walk_at "hp"); (focus walk_at "hp"); (focus walk_at "sz"); intro _ _ _ _)
  | ((with_reducible apply g_slA); (focus walk_at "hp"); intro _ _ _ _)
  | ((with_reducible apply g_tupD); (focus walk_at "hp"); intro _ _ _ _ _)
  | ((with_reducible apply g_setL); (focus walk_at "hp"); (focus walk_at "ix"); intro _ _ _)
  | ((with_reducible apply g_append); (focus walk_at "hp"); (focus walk_at "sl"); intro _ _ _)
  | ((with_reducible apply g_aug); (focus rfl))
  | with_reducible apply g_ipI
  | with_reducible apply g_retN
  | with_reducible apply g_lcR1
  | with_reducible apply g_lcR2
  | with_reducible apply g_lcL
  | with_reducible apply g_lcU
  | with_reducible apply g_lcN
  | ((with_reducible apply g_kLcG); (focus rfl))
  | with_reducible apply g_yes
  | with_reducible apply g_kLcTT
  | with_reducible apply g_kLcTF
  | ((with_reducible apply g_kLcE); (focus walk_at "hp"); (focus walk_at "sl"); intro _ _ _)
  | ((with_reducible apply g_pow); (focus (constructor <;> (try constructor) <;> decide)))
  | ((with_reducible apply g_kLRg); (focus walk_at "rg"); intro _ _ _ _ _)
  | ((with_reducible apply g_cat); (focus walk_at "hp"); (focus walk_at "hp"); (focus walk_at "sz"); intro _ _ _ _ _)
  | ((with_reducible apply g_slL); (focus walk_at "hp"); intro _ _ _ _ _)
  | with_reducible apply g_bmT
  | with_reducible apply g_break
  | with_reducible apply g_cont)
local macro_rules | `(tactic| walk_at "g0") => `(tactic| try dsimp only [L2.cxOf, L2.Cx.nox, L2.Cx.wish])
local macro_rules | `(tactic| walk_at "yn") => `(tactic| first
  | ((with_reducible apply y_kIfS); (focus walk_at "tr"))
  | ((with_reducible apply n_kIfS); (focus walk_at "tr"))
  | ((with_reducible apply y_kOr); (focus walk_at "tr"))
  | ((with_reducible apply n_kOr); (focus walk_at "tr"))
  | ((with_reducible apply y_kAnd); (focus walk_at "tr"))
  | ((with_reducible apply n_kAnd); (focus walk_at "tr"))
  | ((with_reducible apply y_kNot); (focus walk_at "tr"))
  | ((with_reducible apply n_kNot); (focus walk_at "tr"))
  | ((with_reducible apply y_kIf); (focus walk_at "tr"))
  | ((with_reducible apply n_kIf); (focus walk_at "tr"))
  | ((with_reducible apply y_kAndV); (focus walk_at "tr"))
  | ((with_reducible apply n_kAndV); (focus walk_at "tr"))
  | ((with_reducible apply y_kOrV); (focus walk_at "tr"))
  | ((with_reducible apply n_kOrV); (focus walk_at "tr"))
  | ((with_reducible apply y_kChain); (focus walk_at "tr"))
  | ((with_reducible apply n_kChain); (focus walk_at "tr"))
  | ((with_reducible apply y_kLcT); (focus walk_at "tr"))
  | ((with_reducible apply n_kLcT); (focus walk_at "tr"))
  | ((with_reducible apply y_kWh); (focus walk_at "tr"))
  | ((with_reducible apply n_kWh); (focus walk_at "tr")))
local macro_rules | `(tactic| walk_at "go") => `(tactic| repeat (first | walk_at "g1" | walk_at "yn"))
local macro_rules | `(tactic| walk_at "hp") => `(tactic| first
  | ((with_reducible apply RingIn.ex); (focus walk_at "as"); walk_at "hp")
  | ((with_reducible apply RingAt.ex); (focus walk_at "as"); walk_at "hp")
  | ((with_reducible apply RingIn.exb); (focus walk_at "as"); (focus walk_at "hp"); walk_at "hp")
  | ((with_reducible apply RingAt.exb); (focus walk_at "as"); (focus walk_at "hp"); walk_at "hp")
  | ((with_reducible apply TupK.ex); (focus walk_at "as"); walk_at "hp")
  | ((with_reducible apply TupK.exb); (focus walk_at "as"); (focus walk_at "hp"); walk_at "hp"))
local macro_rules | `(tactic| walk_at "lk") => `(tactic| first | with_reducible exact rf_spans | with_reducible exact rf_heaps | with_reducible exact rf_total | with_reducible exact rf_nr | with_reducible exact rf_wd)
local macro_rules | `(tactic| walk_at "sp") => `(tactic| first
  | ((with_reducible apply g_isiTup); (focus walk_at "hp"))
  | ((with_reducible apply g_isiLst); (focus walk_at "hp"))
  | ((with_reducible apply g_isint); (focus omega); (focus omega))
  | ((with_reducible apply g_checkn); (focus omega); (focus omega))
  | ((with_reducible apply g_rbooks); (focus walk_at "hp"))
  | ((with_reducible apply g_rpace); (focus walk_at "hp"); intro _ _ _ _)
  | ((with_reducible apply g_rlen); (focus walk_at "hp"))
  | ((with_reducible apply g_rneed); (focus walk_at "hp"); (focus omega))
  | ((with_reducible apply g_rneedM); (focus walk_at "hp"))
  | ((with_reducible apply g_rwithM); (focus walk_at "hp"))
  | ((with_reducible apply g_rspans); (focus walk_at "hp"); (focus with_reducible assumption))
  | ((with_reducible apply g_rheaps); (focus walk_at "hp"); (focus with_reducible assumption))
  | ((with_reducible apply g_rtotal); (focus walk_at "hp"); (focus with_reducible assumption)))

theorem flenp {f : Str} {v : V} {fs : List (Str × V)} {n : Nat} (h : fs.length ≤ n) : (putF f v fs).length ≤ n + 1 := Nat.le_trans (length_putF _ _ _) (Nat.succ_le_succ h)
theorem flen0 : ([] : List (Str × V)).length ≤ 0 := Nat.le_refl _
structure SceneC (K : PySem.W.Frag) (SC : Addr) : Prop where
  cl : Cls K SC
  n1 : NoAttr K SC "day"
  n2 : NoAttr K SC "stacks"
  n3 : NoAttr K SC "ends"
  n4 : NoAttr K SC "spans_now"
  n5 : NoAttr K SC "number"
/-- a scene's fields -/
structure SF (d n : Int) (p q r : Addr) (fs : List (Str × V)) : Prop where
  a1 : fs.lookup ("day" : Str) = some (.int d)
  a2 : fs.lookup ("stacks" : Str) = some (.ref p)
  a3 : fs.lookup ("ends" : Str) = some (.ref q)
  a4 : fs.lookup ("spans_now" : Str) = some (.ref r)
  a5 : fs.lookup ("number" : Str) = some (.int n)
  m1 : fs.lookup ("begun" : Str) = none
  m2 : fs.lookup ("following" : Str) = none
  m3 : fs.lookup ("with_stack" : Str) = none
theorem SF.make {d n : Int} {p q r : Addr} : SF d n p q r (putF "number" (.int n) (putF "spans_now" (.ref r) (putF "ends" (.ref q) (putF "stacks" (.ref p) (putF "day" (.int d) []))))) := by
  refine ⟨?_, ?_, ?_, ?_, ?_, ?_, ?_, ?_⟩
  all_goals (repeat (first | rw [lookup_putF, if_pos rfl] | rw [lookup_putF, if_neg (by decide +kernel)]))
  all_goals rfl
def oV : Option Int → V
  | none => .non
  | some i => .int i
def enV (N : Nat) (en : Nat → Option Int) : List V := (List.range N).map fun k => oV (en k)
def spV (N : Nat) (sp : Nat → Int) : List V := (List.range N).map fun k => V.int (sp k)
def stV (N : Nat) (sA : Nat → Addr) : List V := (List.range N).map fun k => V.ref (sA k)
theorem enV_len {N : Nat} {en : Nat → Option Int} : (enV N en).length = N := by unfold enV; rw [List.length_map, List.length_range]
theorem spV_len {N : Nat} {sp : Nat → Int} : (spV N sp).length = N := by unfold spV; rw [List.length_map, List.length_range]
theorem stV_len {N : Nat} {sA : Nat → Addr} : (stV N sA).length = N := by unfold stV; rw [List.length_map, List.length_range]
theorem mapV_at {f : Nat → V} {N k : Nat} (h : k < N) : ((List.range N).map f)[k]? = some (f k) := by rw [List.getElem?_map, List.getElem?_range h]; rfl
theorem mapV_next {f : Nat → V} {m : Nat} : (List.range m).map f ++ [f m] = (List.range (m + 1)).map f := by rw [List.range_succ, List.map_append]; rfl
theorem mapV_set {f : Nat → V} {N k : Nat} {v : V} : ((List.range N).map f).set k v = (List.range N).map fun j => if j = k then v else f j := by
  refine List.ext_getElem? fun j => ?_
  by_cases hj : j < N
  · rw [mapV_at hj]
    by_cases z : j = k
    · rw [z, List.getElem?_set_self (by simp; omega), if_pos rfl]
    · rw [List.getElem?_set_ne (fun y => z y.symm), mapV_at hj, if_neg z]
  · rw [List.getElem?_eq_none (by simp; omega), List.getElem?_eq_none (by simp; omega)]
theorem mapV_congr {f g : Nat → V} {N : Nat} (h : ∀ k, k < N → f k = g k) : (List.range N).map f = (List.range N).map g := List.map_congr_left fun k hk => h k (List.mem_range.mp hk)
theorem enV_congr {N : Nat} {f g : Nat → Option Int} (h : ∀ k, k < N → f k = g k) : enV N f = enV N g := mapV_congr fun k hk => by rw [h k hk]
def StkAt (K : PySem.W.Frag) (H : Hp) (p : Addr) (N : Nat) (st : Nat → List Int) : Prop := ∃ sA : Nat → Addr, SqT K H p (stV N sA) ∧ ∀ k, k < N → SqT K H (sA k) ((st k).map V.int)
/-- the scene at a -/
structure ScIn (K : PySem.W.Frag) (SC : Addr) (H : Hp) (a : Addr) (N : Nat) (s : Sc) : Prop where
  obj : ∃ dx fs p q r, H a = some (.ins SC dx fs) ∧ SF s.day s.nb p q r fs ∧ StkAt K H p N s.st ∧ SqT K H q (enV N s.en) ∧ SqT K H r (spV N s.sp)
section
variable {K : PySem.W.Frag} {SC C : Addr} {H H' : Hp} {a p l : Addr} {N : Nat} {s : Sc} {st : Nat → List Int} {ys : List V}
theorem StkAt.ex (e : Ex H H') (h : StkAt K H p N st) : StkAt K H' p N st := let ⟨sA, h1, h2⟩ := h; ⟨sA, ex_t e h1, fun k hk => ex_t e (h2 k hk)⟩
theorem ScIn.ex (e : Ex H H') (h : ScIn K SC H a N s) : ScIn K SC H' a N s :=
  ⟨let ⟨dx, fs, p, q, r, h1, h2, h3, h4, h5⟩ := h.obj; ⟨dx, fs, p, q, r, e _ _ h1, h2, h3.ex e, ex_t e h4, ex_t e h5⟩⟩
theorem StkAt.exb (e : Exb l H H') (hl : H l = some (.lst ys)) (h : StkAt K H p N st) : StkAt K H' p N st := let ⟨sA, h1, h2⟩ := h; ⟨sA, exb_t e hl h1, fun k hk => exb_t e hl (h2 k hk)⟩
theorem ScIn.exb (e : Exb l H H') (hl : H l = some (.lst ys)) (h : ScIn K SC H a N s) : ScIn K SC H' a N s :=
  ⟨let ⟨dx, fs, p, q, r, h1, h2, h3, h4, h5⟩ := h.obj; ⟨dx, fs, p, q, r, exb_ins e hl h1, h2, h3.exb e hl, exb_t e hl h4, exb_t e hl h5⟩⟩
end
section
variable {P : Program} {w : World} {K : PySem.W.Frag} {mg : Str → Option Value} {base : Heap} {C SC : Addr}
/-! ### Scene(..) -/
def sp_Scene_init (K : PySem.W.Frag) (SC : Addr) : Sp := fun vs H Q _ => ∃ (x p q r dx : Addr) (d n : Int), vs = [.ref x, .int d, .ref p, .ref q, .ref r, .int n] ∧ H x = some (.ins SC dx []) ∧
  ∀ fs H', Exb x H H' → H' x = some (.ins SC dx fs) → SF d n p q r fs → Q .non H'
theorem ok_Scene_init (Z : Blt mg) (RS : SceneC K SC) (G : IFun K mg "Scene" SC "Scene.__init__" s_Scene___init__) : If P w K mg base "Scene" SC 1 ["self", "day", "stacks", "ends", "spans", "number"] (sp_Scene_init K SC) := by
  refine If.of G sc_Scene___init__ b_Scene___init__ (fun vs H Q E h => ?_) (fun f cdv A outer s H vs Q E hr h => ?_)
  · obtain ⟨x, p, q, r, dx, d, n, rfl, _⟩ := h
    rfl
  · obtain ⟨x, p, q, r, dx, d, n, rfl, hx, k⟩ := h
    obtain ⟨cl_Scene, n1, n2, n3, n4, n5⟩ := RS
    refine ⟨_, PSs.nox (pss_cons (ps_fld (pv 0) (pv 1) rfl)
      (pss_cons (ps_fld (pv 0) (pv 2) rfl)
      (pss_cons (ps_fld (pv 0) (pv 3) rfl)
      (pss_cons (ps_fld (pv 0) (pv 4) rfl)
      (pss_one (ps_fld (pv 0) (pv 5) rfl)))))), ?_⟩
    walk_at "g0"
    walk_at "go"
    refine g_kSFld hx cl_Scene n1 (by decide) fun H3 e3 hx3 => ?_
    walk_at "go"
    refine g_kSFld hx3 cl_Scene n2 (Nat.lt_of_le_of_lt (flenp flen0) (by decide)) fun H4 e4 hx4 => ?_
    walk_at "go"
    refine g_kSFld hx4 cl_Scene n3 (Nat.lt_of_le_of_lt (flenp (flenp flen0)) (by decide)) fun H5 e5 hx5 => ?_
    walk_at "go"
    refine g_kSFld hx5 cl_Scene n4 (Nat.lt_of_le_of_lt (flenp (flenp (flenp flen0))) (by decide)) fun H6 e6 hx6 => ?_
    walk_at "go"
    refine g_kSFld hx6 cl_Scene n5 (Nat.lt_of_le_of_lt (flenp (flenp (flenp (flenp flen0)))) (by decide)) fun H7 e7 hx7 => ?_
    walk_at "go"
    exact k _ H7 ((((e3.trans e4).trans e5).trans e6).trans e7) hx7 SF.make
theorem g_mkScene {H : Hp} {Q : VK} {E : XK} {d n : Int} {p q r : Addr} (k : ∀ x dx fs H', H x = none → Ex H H' → H' x = some (.ins SC dx fs) → SF d n p q r fs → Q (.ref x) H') :
    kMake SC (sp_Scene_init K SC) E Q [.int d, .ref p, .ref q, .ref r, .int n] H := by
  intro x dx nx ndx ne
  have e1 : Ex H (upd (upd H dx (.own x)) x (.ins SC dx [])) := fun c o h => by
    rw [upd_ne (ne_of_none h nx), upd_ne (ne_of_none h ndx)]
    exact h
  exact ⟨x, p, q, r, dx, d, n, rfl, upd_same, fun fs H' e2 hx' hf => ⟨rfl, k x dx fs H' nx (Exb.ex nx e1 e2) hx' hf⟩⟩
/-! ### begun -/
def sp_begun (K : PySem.W.Frag) (SC : Addr) : Sp := fun vs H Q _ => ∃ (a : Addr) (N : Nat) (s : Sc), vs = [.ref a] ∧ N ≤ 8 ∧ ScIn K SC H a N s ∧ ∀ a' H', H a' = none → Ex H H' → ScIn K SC H' a' N s.begun → Q (.ref a') H'
set_option maxHeartbeats 8000000 in
theorem ok_begun (Z : Blt mg) (RS : SceneC K SC) (I_Scene : If P w K mg base "Scene" SC 1 ["self", "day", "stacks", "ends", "spans", "number"] (sp_Scene_init K SC)) (G : CFun K SC "begun" "Scene.begun" s_Scene_begun) : Mf P w K mg base SC 3 "begun" ["self"] (sp_begun K SC) := by
  refine Mf.of G sc_Scene_begun b_Scene_begun (fun vs H Q E h => ?_) (fun f cdv A outer st H vs Q E hr h => ?_)
  · obtain ⟨a, N, s, rfl, _⟩ := h
    rfl
  · obtain ⟨a, N, s, rfl, hN, S0, k⟩ := h
    obtain ⟨cl_Scene, n1, n2, n3, n4, n5⟩ := RS
    obtain ⟨dx, fs, p, q, r, ho, hf, ⟨sA, hp, hs⟩, hq, hr2⟩ := S0.obj
    obtain ⟨f1, f2, f3, f4, f5, f6, f7, f8⟩ := id hf
    refine ⟨_, PSs.nox (pss_cons (ps_set (i := 1) sc_Scene_begun.nd rfl (by first | exact Or.inl rfl | exact Or.inr rfl) (pe_lst pa_nil))
      (pss_cons (ps_for PassesOwn.never rfl (pi_zip3 (by rfl) Z.zzip (pa_cons (pe_fld (pv 0) rfl) (pa_cons (pe_fld (pv 0) rfl) (pa_cons (pe_fld (pv 0) rfl) pa_nil)))) (pg_tup (by rfl) (pgs_cons (pg_name (i := 2) sc_Scene_begun.nd rfl (by first | exact Or.inl rfl | exact Or.inr rfl)) (pgs_cons (pg_name (i := 3) sc_Scene_begun.nd rfl (by first | exact Or.inl rfl | exact Or.inr rfl)) (pgs_cons (pg_name (i := 4) sc_Scene_begun.nd rfl (by first | exact Or.inl rfl | exact Or.inr rfl)) pgs_nil)))) (pss_one (ps_expr (pe_bm PySem.F.plainAttrs_list PySem.F.slot_list_append PySem.F.type_list_append mt_append (pv 1) (pa_cons (pe_ifExp (PW.pt (pw_and (pt_cmpR op_isN (pv 3) pe_non (nomark _)) (pw_and1 (pt_cmpR (op_neD hr.units) (pv 2) (pe_tup pa_nil) (nomark _))))) (pe_op op_add (pe_fld (pv 0) rfl) (pv 4)) (pv 3)) pa_nil)))))
      (pss_one (ps_ret (pk I_Scene hr (pa_cons (pe_fld (pv 0) rfl) (pa_cons (pe_fld (pv 0) rfl) (pa_cons (pe_callTy c_tuple_of (by rfl) Z.ztuple (by decide +kernel) (pa_cons (pv 1) pa_nil)) (pa_cons (pe_fld (pv 0) rfl) (pa_cons (pe_fld (pv 0) rfl) pa_nil)))))))))), ?_⟩
    walk_at "g0"
    walk_at "go"
    rename_i l H1 nl e1 hl
    refine g_forZ3 ?_
    have ho1 := e1 _ _ ho
    walk_at "go"
    refine g_kForZ3 N (ex_t e1 hp) (ex_t e1 hq) (ex_t e1 hr2) stV_len enV_len spV_len (fun i σ H' => ∃ v2 v3 v4 : Option V, σ = [some (.ref a), some (.ref l), v2, v3, v4] ∧ Ex H H' ∧ H' l = some (.lst (enV i s.begun.en)))
      ⟨_, _, _, rfl, e1, hl⟩ (fun i σ H' _ hP => by
        obtain ⟨_, _, _, _, e, _⟩ := hP
        exact ⟨ex_t e hp, ex_t e hq, ex_t e hr2⟩) ?_ ?_
    · rintro i x y u σ H2 T H3 hi hx hy hu ⟨v2, v3, v4, rfl, e2, hl2⟩ e3 nT hT
      rw [show (stV N sA)[i]? = some (V.ref (sA i)) from mapV_at hi] at hx
      rw [show (enV N s.en)[i]? = some (oV (s.en i)) from mapV_at hi] at hy
      rw [show (spV N s.sp)[i]? = some (V.int (s.sp i)) from mapV_at hi] at hu
      cases hx
      cases hy
      cases hu
      have hTT := SqT.of (K := K) hT
      have ho3 := e3 _ _ (e2 _ _ ho)
      have hl3 := e3 _ _ hl2
      have hs3 := ex_t e3 (ex_t e2 (hs i hi))
      refine gg_tup hTT rfl ?_
      cases hen : s.en i with
      | none =>
        simp only [hen, oV] at hTT ⊢
        walk_at "go"
        refine g_kBM_list (SqL.of hl3) ?_
        walk_at "go"
        refine ⟨rfl, ?_⟩
        rw [dec_nn]
        walk_at "go"
        rename_i t4 H4 n4 e4 h4
        refine g_neTI (ys := []) (ex_t e4 hs3) (SqT.of h4) ?_
        by_cases hz : s.st i = []
        · rw [decide_eq_true hz]
          walk_at "go"
          refine g_append (e4 _ _ hl3) (lt1000 (by rw [enV_len]; omega)) fun H5 e5 h5 => ?_
          walk_at "go"
          refine ⟨_, _, _, rfl, Exb.ex nl (e2.trans (e3.trans e4)) e5, ?_⟩
          have : V.non = oV (s.begun.en i) := by
            show _ = oV (if s.en i = none ∧ s.st i ≠ [] then some (s.day + s.sp i) else s.en i)
            rw [if_neg (fun z => z.2 hz), hen]
            rfl
          rw [this] at h5
          unfold enV at h5 ⊢
          rw [mapV_next] at h5
          exact h5
        · rw [decide_eq_false hz]
          have ho4 := e4 _ _ ho3
          walk_at "go"
          refine g_append (e4 _ _ hl3) (lt1000 (by rw [enV_len]; omega)) fun H5 e5 h5 => ?_
          walk_at "go"
          refine ⟨_, _, _, rfl, Exb.ex nl (e2.trans (e3.trans e4)) e5, ?_⟩
          have : V.int (s.day + s.sp i) = oV (s.begun.en i) := by
            show _ = oV (if s.en i = none ∧ s.st i ≠ [] then some (s.day + s.sp i) else s.en i)
            rw [if_pos ⟨hen, hz⟩]
            rfl
          rw [this] at h5
          unfold enV at h5 ⊢
          rw [mapV_next] at h5
          exact h5
      | some e =>
        simp only [hen, oV] at hTT ⊢
        walk_at "go"
        refine g_kBM_list (SqL.of hl3) ?_
        walk_at "go"
        refine ⟨rfl, ?_⟩
        rw [dec_in]
        walk_at "go"
        refine g_append hl3 (lt1000 (by rw [enV_len]; omega)) fun H5 e5 h5 => ?_
        walk_at "go"
        refine ⟨_, _, _, rfl, Exb.ex nl (e2.trans e3) e5, ?_⟩
        have : V.int e = oV (s.begun.en i) := by
          show _ = oV (if s.en i = none ∧ s.st i ≠ [] then some (s.day + s.sp i) else s.en i)
          rw [if_neg (fun z => by rw [hen] at z; cases z.1), hen]
          rfl
        rw [this] at h5
        unfold enV at h5 ⊢
        rw [mapV_next] at h5
        exact h5
    · rintro σ H2 ⟨v2, v3, v4, rfl, e2, hl2⟩
      have ho2 := e2 _ _ ho
      walk_at "go"
      rename_i t3 H3 n3 e3 h3
      have ho3 := e3 _ _ ho2
      walk_at "go"
      have e03 := e2.trans e3
      refine g_mkScene fun x dx' fs' H4 nx e4 hx hf' => k x H4 (fresh_back e03 nx) (e03.trans e4) ⟨dx', fs', p, t3, r, hx, hf', ⟨sA, ex_t (e03.trans e4) hp, fun k hk => ex_t (e03.trans e4) (hs k hk)⟩, ex_t e4 (h3.sq (K := K)), ex_t (e03.trans e4) hr2⟩
/-! ### following -/
def kStar (K : PySem.W.Frag) (t : TA) (σ : L2.St) (Q : List V → Hp → Prop) : VK := fun x H1 => ∃ p xs, x = V.ref p ∧ (SqT K H1 p xs ∨ SqL K H1 p xs) ∧ t σ H1 fun ys H2 => Q (xs ++ ys) H2
theorem g_star {te : TE} {t : TA} {σ : L2.St} {H : Hp} {Q : List V → Hp → Prop} (q : te σ H (kStar K t σ Q)) : StX.tStar K te t σ H Q := q
theorem g_kStar {t : TA} {σ : L2.St} {H : Hp} {Q : List V → Hp → Prop} {p : Addr} {xs : List V} (h : SqT K H p xs) (q : t σ H fun ys H2 => Q (xs ++ ys) H2) : kStar K t σ Q (.ref p) H := ⟨p, xs, rfl, .inl h, q⟩
theorem g_kStarL {t : TA} {σ : L2.St} {H : Hp} {Q : List V → Hp → Prop} {p : Addr} {xs : List V} (h : SqL K H p xs) (q : t σ H fun ys H2 => Q (xs ++ ys) H2) : kStar K t σ Q (.ref p) H := ⟨p, xs, rfl, .inr h, q⟩
theorem g_eqOI {H : Hp} {Q : VK} {o : Option Int} {i : Int} (q : Q (.bl (decide (o = some i))) H) : rEqD K (oV o) (.int i) H Q := by
  cases o with
  | none =>
    refine g_eqD .non (.int i) rfl rfl ?_
    have : PyData.eqv .none (.int i) = false := by simp [PyData.eqv]
    rw [this]
    rw [decide_eq_false (by intro z; cases z)] at q
    exact q
  | some e =>
    refine g_eqD (.int e) (.int i) rfl rfl ?_
    have : PyData.eqv (.int e) (.int i) = decide (some e = some i) := by
      rw [Bool.eq_iff_iff]
      simp [PyData.eqv]
    rw [this]
    exact q
theorem ended_nodup {N : Nat} {s : Sc} : (s.dueK N).length ≤ N := by
  have := List.length_filter_le (fun k => decide (s.due k)) (List.range N)
  rw [List.length_range] at this
  exact this
theorem dueK_yes {s : Sc} {m : Nat} (h : s.due m) : s.dueK (m + 1) = s.dueK m ++ [m] := by
  unfold Sc.dueK
  rw [List.range_succ, List.filter_append]
  simp [h]
theorem dueK_no {s : Sc} {m : Nat} (h : ¬ s.due m) : s.dueK (m + 1) = s.dueK m := by
  unfold Sc.dueK
  rw [List.range_succ, List.filter_append]
  simp [h]
/-- triples of ints at places -/
def Ent (K : PySem.W.Frag) (H : Hp) (zs : List V) (es : List (Int × Int × Int)) : Prop := zs.length = es.length ∧ ∀ (m : Nat) (e : Int × Int × Int), es[m]? = some e → ∃ p : Addr, zs[m]? = some (V.ref p) ∧ SqT K H p [.int e.1, .int e.2.1, .int e.2.2]
theorem Ent.nil {H : Hp} : Ent K H [] [] := ⟨rfl, fun m e h => by cases h⟩
theorem Ent.ex {H H' : Hp} {zs : List V} {es : List (Int × Int × Int)} (x : Ex H H') (h : Ent K H zs es) : Ent K H' zs es := ⟨h.1, fun m e he => let ⟨p, h1, h2⟩ := h.2 m e he; ⟨p, h1, ex_t x h2⟩⟩
theorem Ent.exb {H H' : Hp} {l : Addr} {ys zs : List V} {es : List (Int × Int × Int)} (x : Exb l H H') (hl : H l = some (.lst ys)) (h : Ent K H zs es) : Ent K H' zs es := ⟨h.1, fun m e he => let ⟨p, h1, h2⟩ := h.2 m e he; ⟨p, h1, exb_t x hl h2⟩⟩
theorem Ent.snoc {H : Hp} {zs : List V} {es : List (Int × Int × Int)} {e : Int × Int × Int} {p : Addr} (h : Ent K H zs es) (hp : SqT K H p [.int e.1, .int e.2.1, .int e.2.2]) : Ent K H (zs ++ [.ref p]) (es ++ [e]) := by
  refine ⟨by rw [List.length_append, List.length_append, h.1]; rfl, fun m x hx => ?_⟩
  by_cases z : m < es.length
  · rw [List.getElem?_append_left z] at hx
    obtain ⟨p2, h1, h2⟩ := h.2 m x hx
    exact ⟨p2, by rw [List.getElem?_append_left (by rw [h.1]; exact z)]; exact h1, h2⟩
  · have hm := (List.getElem?_eq_some_iff.mp hx).1
    rw [List.length_append] at hm
    have hm : m = es.length := by simp at hm; omega
    rw [hm, List.getElem?_append_right (Nat.le_refl _), Nat.sub_self] at hx
    cases hx
    exact ⟨p, by rw [hm, ← h.1, List.getElem?_append_right (Nat.le_refl _), Nat.sub_self]; rfl, hp⟩
def sp_following (K : PySem.W.Frag) (SC : Addr) : Sp := fun vs H Q _ => ∃ (a : Addr) (N : Nat) (s : Sc), vs = [.ref a] ∧ ScOk N s ∧ ScIn K SC H a N s ∧
  ∀ p a' l zs H', H p = none → H a' = none → H l = none → l ≠ p → Ex H H' → H' p = some (.tup [.ref a', .ref l]) → ScIn K SC H' a' N (s.next N) → H' l = some (.lst zs) → Ent K H' zs (s.ended N) → Q (.ref p) H'
set_option maxHeartbeats 16000000 in
theorem ok_following (Z : Blt mg) (RS : SceneC K SC) (I_Scene : If P w K mg base "Scene" SC 1 ["self", "day", "stacks", "ends", "spans", "number"] (sp_Scene_init K SC)) (M_Scene_begun : Mf P w K mg base SC 3 "begun" ["self"] (sp_begun K SC)) (G : CFun K SC "following" "Scene.following" s_Scene_following) : Mf P w K mg base SC 4 "following" ["self"] (sp_following K SC) := by
  refine Mf.of G sc_Scene_following b_Scene_following (fun vs H Q E h => ?_) (fun f cdv A outer st H vs Q E hr h => ?_)
  · obtain ⟨a, N, s, rfl, _⟩ := h
    rfl
  · obtain ⟨a, N, s, rfl, W, S0, k⟩ := h
    obtain ⟨cl_Scene, n1, n2, n3, n4, n5⟩ := RS
    obtain ⟨dx, fs, p, q, r, ho, hf, ⟨sA, hp, hs⟩, hq, hr2⟩ := S0.obj
    obtain ⟨f1, f2, f3, f4, f5, f6, f7, f8⟩ := id hf
    have o2 := W.two
    have o8 := W.eight
    refine ⟨_, PSs.nox (pss_cons (ps_asg (pe_tup (pa_cons (pe_op op_add (pe_fld (pv 0) rfl) pe_int) (pa_cons (pe_callTy c_list_of (by rfl) Z.zlist (by decide +kernel) (pa_cons (pe_fld (pv 0) rfl) pa_nil)) (pa_cons (pe_callTy c_list_of (by rfl) Z.zlist (by decide +kernel) (pa_cons (pe_fld (pv 0) rfl) pa_nil)) (pa_cons (pe_lst pa_nil) pa_nil))))) (pg_tup (by rfl) (pgs_cons (pg_name (i := 1) sc_Scene_following.nd rfl (by first | exact Or.inl rfl | exact Or.inr rfl)) (pgs_cons (pg_name (i := 2) sc_Scene_following.nd rfl (by first | exact Or.inl rfl | exact Or.inr rfl)) (pgs_cons (pg_name (i := 3) sc_Scene_following.nd rfl (by first | exact Or.inl rfl | exact Or.inr rfl)) (pgs_cons (pg_name (i := 4) sc_Scene_following.nd rfl (by first | exact Or.inl rfl | exact Or.inr rfl)) pgs_nil))))))
      (pss_cons (ps_for PassesOwn.never rfl (pi_enumT (by rfl) Z.zenumerate (pa_cons (pe_fld (pv 0) rfl) pa_nil)) (pg_tup (by rfl) (pgs_cons (pg_name (i := 5) sc_Scene_following.nd rfl (by first | exact Or.inl rfl | exact Or.inr rfl)) (pgs_cons (pg_name (i := 6) sc_Scene_following.nd rfl (by first | exact Or.inl rfl | exact Or.inr rfl)) pgs_nil))) (pss_one (ps_if (pt_cmpR (op_eqD hr.units) (pv 6) (pv 1) (nomark _)) (pss_cons (ps_expr (pe_bm PySem.F.plainAttrs_list PySem.F.slot_list_append PySem.F.type_list_append mt_append (pv 4) (pa_cons (pe_tup (pa_cons (pv 1) (pa_cons (pv 5) (pa_cons (pe_ix ix_tup (pe_ix ix_tup (pe_fld (pv 0) rfl) (pv 5) (fun _ _ => rfl)) pe_int (fun _ _ => rfl)) pa_nil)))) pa_nil)))
          (pss_one (ps_asg pe_non (pg_sub (pv 3) (pv 5) set_list)))) pss_nil)))
      (pss_cons (ps_for PassesOwn.never rfl (pi_list (pv 4)) (pg_tup (by rfl) (pgs_cons (pg_name (i := 7) sc_Scene_following.nd rfl (by first | exact Or.inl rfl | exact Or.inr rfl)) (pgs_cons (pg_name (i := 5) sc_Scene_following.nd rfl (by first | exact Or.inl rfl | exact Or.inr rfl)) (pgs_cons (pg_name (i := 8) sc_Scene_following.nd rfl (by first | exact Or.inl rfl | exact Or.inr rfl)) pgs_nil)))) (pss_cons (ps_asg (pe_callTy c_tuple_of (by rfl) Z.ztuple (by decide +kernel) (pa_cons (pe_lc (own := [("other", 10)]) rfl sc_Scene_following.nd (pi_tup (pe_ix ix_list (pv 2) (pv 5) (fun _ _ => rfl))) (blkOk_by (N := N_Scene_following) (sc := defScope s_Scene_following) (by decide +kernel)) (fun _ _ _ _ _ => (pg_name (i := 10) sc_Scene_following.nd rfl (by first | exact Or.inl rfl | exact Or.inr rfl))) (fun _ _ _ _ _ => (pts_one (pt_cmpR op_ne (pv 10) (pv 8) (nomark _)))) (fun _ _ _ _ _ => (pv 10))) pa_nil)) (pg_sub (pv 2) (pv 5) set_list))
          (pss_cons (ps_set (i := 9) sc_Scene_following.nd rfl (by first | exact Or.inl rfl | exact Or.inr rfl) (pe_op op_mod (pe_callTy c_int1 (by rfl) Z.zint (by decide +kernel) (pa_cons (pe_op op_add (pv 5) pe_int) pa_nil)) (pe_callB c_len (by rfl) Z.zlen PySem.boot_len (pa_cons (pv 2) pa_nil))))
          (pss_one (ps_asg (pe_tup (StX.pa_star (pe_ix ix_list (pv 2) (pv 9) (fun _ _ => rfl)) (pa_cons (pv 8) pa_nil))) (pg_sub (pv 2) (pv 9) set_list))))))
      (pss_one (ps_ret (pe_tup (pa_cons (pm0 (pk I_Scene hr (pa_cons (pv 1) (pa_cons (pe_callTy c_tuple_of (by rfl) Z.ztuple (by decide +kernel) (pa_cons (pv 2) pa_nil)) (pa_cons (pe_callTy c_tuple_of (by rfl) Z.ztuple (by decide +kernel) (pa_cons (pv 3) pa_nil)) (pa_cons (pe_fld (pv 0) rfl) (pa_cons (pe_fld (pv 0) rfl) pa_nil)))))) cl_Scene M_Scene_begun hr) (pa_cons (pv 4) pa_nil)))))))), ?_⟩
    walk_at "g0"
    walk_at "go"
    rename_i L1 H1 nl1 e1 hl1 L2 H2 nl2 e2 hl2 L3 H3 nl3 e3 hl3 T4 H4 n4 e4 h4
    have e14 := ((e1.trans e2).trans e3).trans e4
    have hl14 := e4 _ _ (e3 _ _ (e2 _ _ hl1))
    have hl24 := e4 _ _ (e3 _ _ hl2)
    have hl34 := e4 _ _ hl3
    have n12 : L1 ≠ L2 := ne_of_none hl1 nl2
    have n13 : L1 ≠ L3 := ne_of_none (e2 _ _ hl1) nl3
    have n23 : L2 ≠ L3 := ne_of_none hl2 nl3
    have nh2 : H L2 = none := fresh_back e1 nl2
    have nh3 : H L3 = none := fresh_back (e1.trans e2) nl3
    clear h4 e4 hl3 hl2 hl1 e1 e2 e3 n4 nl2 nl3
    let endF : Nat → List (Int × Int × Int) := fun i => (s.dueK i).map fun (k : Nat) => (s.day + 1, (k : Int), (s.st k).headD 0)
    refine g_kForE (ex_t e14 hq) (fun i σ H' => ∃ (zs : List V) (v5 v6 v7 v8 v9 v10 : Option V), σ = [some (.ref a), some (.int (s.day + 1)), some (.ref L1), some (.ref L2), some (.ref L3), v5, v6, v7, v8, v9, v10] ∧ Ex H H' ∧ H' L1 = some (.lst (stV N sA)) ∧
        H' L2 = some (.lst (enV N fun j => if j < i ∧ s.due j then none else s.en j)) ∧ H' L3 = some (.lst zs) ∧ Ent K H' zs (endF i))
      ⟨[], _, _, _, _, _, _, rfl, e14, hl14, by
        have : enV N (fun j => if j < 0 ∧ s.due j then none else s.en j) = enV N s.en := enV_congr fun j _ => if_neg fun z => absurd z.1 (Nat.not_lt_zero j)
        rw [this]; exact hl24, hl34, Ent.nil⟩ (fun i σ H' _ hP => by
        obtain ⟨_, _, _, _, _, _, _, _, e, _⟩ := hP
        exact ex_t e hq) ?_ ?_
    · rintro i x σ H5 T H6 hx ⟨zs, v5, v6, v7, v8, v9, v10, rfl, e5, h15, h25, h35, hz⟩ e6 nT hT
      have hi : i < N := by
        have := (List.getElem?_eq_some_iff.mp hx).1
        rw [enV_len] at this
        exact this
      rw [show (enV N s.en)[i]? = some (oV (s.en i)) from mapV_at hi] at hx
      cases hx
      have hTT := SqT.of (K := K) hT
      have e56 := e5.trans e6
      have ho6 := e56 _ _ ho
      refine gg_tup hTT rfl ?_
      walk_at "go"
      refine g_eqOI ?_
      have hl16 := e6 _ _ h15
      have hl26 := e6 _ _ h25
      have hl36 := e6 _ _ h35
      have hz6 := hz.ex e6
      by_cases hd : s.due i
      · have hd' : s.en i = some (s.day + 1) := hd
        rw [decide_eq_true hd']
        obtain ⟨b, t, hb, hbt⟩ := W.head hi hd
        have hsi : (stV N sA)[i]? = some (V.ref (sA i)) := mapV_at hi
        have hs6 := ex_t e56 (hs i hi)
        have hp6 := ex_t e56 hp
        rw [hb] at hs6
        walk_at "go"
        refine g_kBM_list (SqL.of hl36) ?_
        walk_at "go"
        refine g_ixT hs6 (v := .int b) (show atI _ ((0 : Nat) : Int) = some _ from atI_nat rfl) ?_
        walk_at "go"
        rename_i q7 H7 n7 e7 h7
        have hzl : zs.length ≤ N := by
          rw [hz.1]
          show ((s.dueK i).map _).length ≤ N
          rw [List.length_map]
          exact Nat.le_trans ended_nodup (by omega)
        refine g_append (e7 _ _ hl36) (lt1000 (by omega)) fun H8 e8 h8 => ?_
        have hix : ixN (enV N fun j => if j < i ∧ s.due j then none else s.en j).length (i : Int) = some i := by
          unfold ixN
          rw [enV_len, if_pos (by omega), if_pos (by omega), Int.toNat_natCast]
        have h28 := e8 _ _ n23 (e7 _ _ hl26)
        have h18 := e8 _ _ n13 (e7 _ _ hl16)
        walk_at "go"
        rename_i H9 e9 h9
        have hz8 : Ent K H8 (zs ++ [.ref q7]) (endF (i + 1)) := by
          show Ent K H8 _ ((s.dueK (i + 1)).map _)
          rw [dueK_yes hd, List.map_append]
          refine ((hz6.ex e7).exb e8 (e7 _ _ hl36)).snoc ?_
          show SqT K H8 q7 [.int (s.day + 1), .int (i : Int), .int ((s.st i).headD 0)]
          rw [show (s.st i).headD 0 = b by rw [hb]; rfl]
          exact exb_t e8 (e7 _ _ hl36) (SqT.of h7)
        refine ⟨_, _, _, _, _, _, _, rfl, Exb.ex nh2 (Exb.ex nh3 (e56.trans e7) e8) e9, e9 _ _ n12 h18, ?_, e9 _ _ (Ne.symm n23) h8, hz8.exb e9 h28⟩
        have : (enV N fun j => if j < i ∧ s.due j then none else s.en j).set i V.non = enV N fun j => if j < i + 1 ∧ s.due j then none else s.en j := by
          unfold enV
          rw [mapV_set]
          refine mapV_congr fun j hj => ?_
          dsimp only
          by_cases z : j = i
          · rw [if_pos z, if_pos ⟨by omega, by rw [z]; exact hd⟩]; rfl
          · rw [if_neg z]
            by_cases y : j < i ∧ s.due j
            · rw [if_pos y, if_pos ⟨by omega, y.2⟩]
            · rw [if_neg y, if_neg (fun u => y ⟨by omega, u.2⟩)]
        rw [← this]
        exact h9
      · have hd' : ¬ s.en i = some (s.day + 1) := hd
        rw [decide_eq_false hd']
        walk_at "go"
        refine ⟨zs, _, _, _, _, _, _, rfl, e56, hl16, ?_, hl36, ?_⟩
        · have : (enV N fun j => if j < i ∧ s.due j then none else s.en j) = enV N fun j => if j < i + 1 ∧ s.due j then none else s.en j := by
            refine enV_congr fun j hj => ?_
            by_cases y : j < i ∧ s.due j
            · rw [if_pos y, if_pos ⟨by omega, y.2⟩]
            · rw [if_neg y, if_neg (fun u => y ⟨by
                have := u.1
                by_cases z : j = i
                · rw [z] at u; exact absurd u.2 hd
                · omega, u.2⟩)]
          rw [← this]
          exact hl26
        · show Ent K H6 zs ((s.dueK (i + 1)).map _)
          rw [dueK_no hd]
          exact hz6
    · rintro σ H5 ⟨zs, v5, v6, v7, v8, v9, v10, rfl, e5, h15, h25, h35, hz⟩
      rw [enV_len] at h25 hz
      have hzN : zs.length = (s.dueK N).length := by rw [hz.1]; exact List.length_map _
      have h25 : H5 L2 = some (.lst (enV N (s.next0 N).en)) := by
        rw [h25]
        refine congrArg (fun z => some (HO.lst z)) (enV_congr fun j hj => ?_)
        show _ = if s.due j then none else s.en j
        by_cases y : s.due j
        · rw [if_pos y, if_pos ⟨hj, y⟩]
        · rw [if_neg y, if_neg (fun u => y u.2)]
      walk_at "go"
      refine g_kForL (SqL.of h35) (fun m σ H' => ∃ (sB : Nat → Addr) (v5 v6 v7 v8 v9 v10 : Option V), σ = [some (.ref a), some (.int (s.day + 1)), some (.ref L1), some (.ref L2), some (.ref L3), v5, v6, v7, v8, v9, v10] ∧ Ex H H' ∧ H' L1 = some (.lst (stV N sB)) ∧
          (∀ j, j < N → SqT K H' (sB j) ((midSt N ((s.dueK N).take m) s.st j).map V.int)) ∧ H' L2 = some (.lst (enV N (s.next0 N).en)) ∧ H' L3 = some (.lst zs) ∧ Ent K H' zs (endF N))
        ⟨sA, _, _, _, _, _, _, rfl, e5, h15, fun j hj => by rw [List.take_zero, mid_nil]; exact ex_t e5 (hs j hj), h25, h35, hz⟩ (fun m σ H' _ hP => by
          obtain ⟨_, _, _, _, _, _, _, _, _, _, _, _, hx, _⟩ := hP
          exact SqL.of hx) ?_ ?_
      · rintro m x σ H6 hx ⟨sB, v5, v6, v7, v8, v9, v10, rfl, e6, h16, hs6, h26, h36, hz6⟩
        have hml := (List.getElem?_eq_some_iff.mp hx).1
        obtain ⟨k0, hk0⟩ : ∃ k, (s.dueK N)[m]? = some k := ⟨_, List.getElem?_eq_getElem (by omega)⟩
        have hen : (endF N)[m]? = some (s.day + 1, (k0 : Int), (s.st k0).headD 0) := by
          show ((s.dueK N).map _)[m]? = _
          rw [List.getElem?_map, hk0]
          rfl
        obtain ⟨p2, hp2, ht2⟩ := hz6.2 m _ hen
        rw [hx] at hp2
        cases hp2
        obtain ⟨hkl, hkd⟩ := Sc.mem_due.mp (List.mem_of_getElem? hk0)
        obtain ⟨b, t, hb, hbt⟩ := W.head hkl hkd
        have hnl := snxt_lt hkl
        have hnm := snxt_mod hkl
        have hnot : k0 ∉ (s.dueK N).take m := fun z => by
          obtain ⟨hm, e⟩ := List.getElem?_eq_some_iff.mp hk0
          obtain ⟨i, hi, hik⟩ := List.getElem_of_mem z
          rw [List.getElem_take] at hik
          rw [List.length_take] at hi
          exact List.pairwise_iff_getElem.mp Sc.due_nodup i m (by omega) hm (by omega) (by rw [hik, e])
        have htk : (s.dueK N).take (m + 1) = (s.dueK N).take m ++ [k0] := by
          obtain ⟨hm, e⟩ := List.getElem?_eq_some_iff.mp hk0
          rw [← List.take_append_getElem hm, e]
        rw [show (s.st k0).headD 0 = b by rw [hb]; rfl] at ht2
        have ht2 : SqT K H6 p2 [.int (s.day + 1), .int (k0 : Int), .int b] := ht2
        refine gg_tup ht2 rfl ?_
        have hsB : (stV N sB)[k0]? = some (V.ref (sB k0)) := mapV_at hkl
        have hsk := hs6 k0 hkl
        have hsn := hs6 _ hnl
        walk_at "go"
        have wB : ∀ {D : Addr}, H6 D = none → D ≠ L1 := fun hD z => by rw [z, h16] at hD; cases hD
        refine g_kLcU hsk (fun D j H' => Ex H6 H' ∧ H' D = some (.lst ((((midSt N ((s.dueK N).take m) s.st k0).take j).filter fun x => !decide (x = b)).map V.int)))
          (fun D H1 nD eD hD => ⟨eD, by rw [List.take_zero]; exact hD⟩) (fun D j H' nD _ hP => ex_t hP.1 hsk) (fun D j x H' nD hx hP => ?_) (fun D H7 nD hP => ?_)
        · obtain ⟨e7, hD⟩ := hP
          rw [List.getElem?_map] at hx
          obtain ⟨y, hy, rfl⟩ := Option.map_eq_some_iff.mp hx
          have hjl := (List.getElem?_eq_some_iff.mp hy).1
          have hml2 := mid_len W.toScW (ks := (s.dueK N).take m) hkl
          have htk2 : (midSt N ((s.dueK N).take m) s.st k0).take (j + 1) = (midSt N ((s.dueK N).take m) s.st k0).take j ++ [y] := by
            obtain ⟨h1, h2⟩ := List.getElem?_eq_some_iff.mp hy
            rw [← List.take_append_getElem h1, h2]
          walk_at "go"
          refine g_kLcT (fun hne => ?_) (fun heq => ?_)
          · walk_at "go"
            have hfl := List.length_filter_le (fun x => !decide (x = b)) ((midSt N ((s.dueK N).take m) s.st k0).take j)
            rw [List.length_take] at hfl
            refine g_kLcE hD (lt1000 (by rw [List.length_map]; omega)) fun H8 e8 h8 => ⟨Exb.ex nD e7 e8, ?_⟩
            rw [htk2, List.filter_append, List.map_append, h8]
            rw [show [y].filter (fun x => !decide (x = b)) = [y] from List.filter_cons_of_pos hne]
            rfl
          · refine ⟨e7, ?_⟩
            rw [htk2, List.filter_append, hD]
            rw [show [y].filter (fun x => !decide (x = b)) = [] from List.filter_cons_of_neg (by rw [heq]; exact Bool.false_ne_true)]
            rw [List.append_nil]
        · obtain ⟨e7, hD⟩ := hP
          rw [List.length_map, List.take_length, mid_out W.toScW hkl hkd hnot hb] at hD
          have h17 := e7 _ _ h16
          walk_at "go"
          rename_i t8 H8 n8 e8 h8
          have h18 := e8 _ _ h17
          have hixk : ixN (stV N sB).length (k0 : Int) = some k0 := by
            unfold ixN
            rw [stV_len, if_pos (by omega), if_pos (by omega), Int.toNat_natCast]
          refine g_setL h18 hixk fun H9 e9 h19 => ?_
          have es1 : (stV N sB).set k0 (V.ref t8) = stV N (fun j => if j = k0 then t8 else sB j) := by
            unfold stV
            rw [mapV_set]
            exact mapV_congr fun j hj => by by_cases z : j = k0 <;> simp [z]
          rw [es1] at h19
          have e79 := (e7.trans e8)
          have hll := stV_len (N := N) (sA := fun j => if j = k0 then t8 else sB j)
          walk_at "go"
          rw [hll, hnm]
          have hsB2 : (stV N (fun j => if j = k0 then t8 else sB j))[snxt N k0]? = some (V.ref (sB (snxt N k0))) := by
            rw [show (stV N (fun j => if j = k0 then t8 else sB j))[snxt N k0]? = some (V.ref (if snxt N k0 = k0 then t8 else sB (snxt N k0))) from mapV_at hnl, if_neg (snxt_ne o2 hkl)]
          have hsn9 := exb_t e9 h18 (ex_t e79 hsn)
          walk_at "go"
          refine g_star ?_
          walk_at "go"
          refine g_kStar hsn9 ?_
          walk_at "go"
          have hmn := mid_len W.toScW (ks := (s.dueK N).take m) hnl
          refine g_kT (sz1000 (by rw [List.length_append, List.length_map]; simp; omega)) fun t10 H10 n10 e10 h10 => ?_
          have h1a := e10 _ _ h19
          walk_at "go"
          have hixn : ixN (stV N (fun j => if j = k0 then t8 else sB j)).length ((snxt N k0 : Nat) : Int) = some (snxt N k0) := by
            unfold ixN
            rw [stV_len, if_pos (by omega), if_pos (by omega), Int.toNat_natCast]
          refine g_setL h1a hixn fun H11 e11 h11 => ?_
          have es2 : (stV N (fun j => if j = k0 then t8 else sB j)).set (snxt N k0) (V.ref t10) = stV N (fun j => if j = snxt N k0 then t10 else if j = k0 then t8 else sB j) := by
            unfold stV
            rw [mapV_set]
            exact mapV_congr fun j hj => by by_cases z : j = snxt N k0 <;> simp [z]
          rw [es2] at h11
          have n8L : t8 ≠ L1 := fun z => by rw [z, h17] at n8; cases n8
          have n10L : t10 ≠ L1 := fun z => by rw [z, h19] at n10; cases n10
          have tr : ∀ {q : Addr} {xs : List V}, SqT K H6 q xs → SqT K H11 q xs := fun hq => exb_t e11 h1a (ex_t e10 (exb_t e9 h18 (ex_t e79 hq)))
          have trL : ∀ {q : Addr} {xs : List V}, q ≠ L1 → H6 q = some (.lst xs) → H11 q = some (.lst xs) := fun hq z => e11 _ _ hq (e10 _ _ (e9 _ _ hq (e79 _ _ z)))
          have eh : Ex H H11 := Exb.ex nl1 ((Exb.ex nl1 (e6.trans e79) e9).trans e10) e11
          refine ⟨fun j => if j = snxt N k0 then t10 else if j = k0 then t8 else sB j, _, _, _, _, _, _, rfl, eh, h11, fun j hj => ?_, trL (Ne.symm n12) h26, trL (Ne.symm n13) h36, ?_⟩
          · rw [htk]
            by_cases z : j = snxt N k0
            · simp only [z, if_true]
              rw [mid_into o2 hkl hnot hb, List.map_append]
              exact exb_t e11 h1a (SqT.of h10)
            · by_cases y : j = k0
              · simp only [y, if_true, if_neg (Ne.symm (snxt_ne o2 hkl))]
                rw [mid_own o2 hkl hb]
                exact exb_t e11 h1a (ex_t e10 (exb_t e9 h18 (h8.sq (K := K))))
              · simp only [if_neg z, if_neg y]
                rw [mid_else hj hkl y z]
                exact tr (hs6 j hj)
          · exact ⟨hz6.1, fun i e he => let ⟨p, y1, y2⟩ := hz6.2 i e he; ⟨p, y1, tr y2⟩⟩
      · rintro σ H6 ⟨sB, v5, v6, v7, v8, v9, v10, rfl, e6, h16, hs6, h26, h36, hz6⟩
        rw [hzN, List.take_length] at hs6
        have ho6 := e6 _ _ ho
        walk_at "go"
        rename_i t1 H7 n7 e7 h7 t2 H8 n8 e8 h8
        have e08 := (e6.trans e7).trans e8
        refine g_mkScene fun x dx' fs' H9 nx e9 hx hf' => ?_
        have e79 := (e7.trans e8).trans e9
        have SI : ScIn K SC H9 x N (s.next0 N) := ⟨dx', fs', t1, t2, r, hx, hf', ⟨sB, ex_t (e8.trans e9) (h7.sq (K := K)), fun j hj => by
          have := ex_t e79 (hs6 j hj)
          rw [mid_all hj] at this
          exact this⟩, ex_t e9 (h8.sq (K := K)), ex_t (e08.trans e9) hr2⟩
        obtain ⟨_, _, _, _, _, _, m1, _⟩ := hf'
        walk_at "go"
        refine ⟨x, N, s.next0 N, rfl, o8, SI, fun a' H10 na e10 SI10 => ?_⟩
        have h3x := e10 _ _ (e79 _ _ h36)
        have z10 := hz6.ex (e79.trans e10)
        walk_at "go"
        rename_i p' H11 n11 e11 h11
        have e011 := ((e08.trans e9).trans e10).trans e11
        have hL3p : L3 ≠ p' := ne_of_none h3x n11
        exact k p' a' L3 zs H11 (fresh_back ((e08.trans e9).trans e10) n11) (fresh_back (e08.trans e9) na) nh3 hL3p e011 h11 (SI10.ex e11) (e11 _ _ h3x) (z10.ex e11)
end
end G48

namespace G48
open PySem PySem.Spec PyProof.Rows L2 Evl
abbrev N_first_scene : List Str := ["ring", "stacks", "number", "heap"]
theorem sc_first_scene : FnScope N_first_scene ["ring"] (defScope s_first_scene) := ⟨rfl, rfl, rfl, by decide +kernel, rfl, by decide +kernel, by decide +kernel⟩
theorem b_first_scene : BindL "first_scene" "first_scene" s_first_scene ["ring"] := fun _ _ _ _ _ _ us hl => match us, hl with | [_], _ => rfl
end G48
/-! the first scene -/
namespace G48
open PySem PySem.Spec PyProof.Rows L2 Evl
/-! the steps -/
local macro_rules | `(tactic| walk_at "as") => `(tactic| with_reducible assumption)
local macro_rules | `(tactic| walk_at "hp") => `(tactic| first
  | with_reducible assumption
  | ((with_reducible apply SqT.of); walk_at "as")
  | ((with_reducible apply SqL.of); walk_at "as")
  | ((with_reducible apply ex_at); (focus walk_at "as"); walk_at "hp")
  | ((with_reducible apply ex_t); (focus walk_at "as"); walk_at "hp")
  | ((with_reducible apply ex_l); (focus walk_at "as"); walk_at "hp")
  | ((with_reducible apply exb_ins); (focus walk_at "as"); (focus walk_at "hp"); walk_at "hp")
  | ((with_reducible apply exb_t); (focus walk_at "as"); (focus walk_at "hp"); walk_at "hp")
  | ((with_reducible apply exb_at); (focus walk_at "as"); (focus walk_at "ne"); walk_at "hp")
  | ((with_reducible apply exb_l); (focus walk_at "as"); (focus walk_at "ne"); walk_at "hp"))
local macro_rules | `(tactic| walk_at "ne") => `(tactic| first
  | with_reducible assumption
  | exact Ne.symm (by with_reducible assumption)
  | exact ne_of_none (by with_reducible assumption) (by with_reducible assumption)
  | exact Ne.symm (ne_of_none (by with_reducible assumption) (by with_reducible assumption)))
local macro_rules | `(tactic| walk_at "tr") => `(tactic| first
  | rfl
  | with_reducible assumption
  | exact decide_eq_true (by first | with_reducible assumption | omega)
  | exact decide_eq_false (by first | with_reducible assumption | omega)
  | (rw [Bool.not_eq_true']; exact decide_eq_false (by first | with_reducible assumption | omega))
  | (rw [Bool.not_eq_false']; exact decide_eq_true (by first | with_reducible assumption | omega)))
local macro_rules | `(tactic| walk_at "nn") => `(tactic| first | with_reducible assumption | (exact List.cons_ne_nil _ _))
local macro_rules | `(tactic| walk_at "sz") => `(tactic| first | (exact sz1000 (Nat.le_of_ble_eq_true rfl)) | (refine sz1000 ?_; simp only [List.length_map, List.length_cons, List.length_nil, List.length_append]; omega) | with_reducible assumption)
local macro_rules | `(tactic| walk_at "sl") => `(tactic| first | with_reducible assumption | (refine lt1000 ?_; simp only [List.length_map, List.length_cons, List.length_nil, List.length_append]; omega) | (refine lt1000 ?_; omega))
local macro_rules | `(tactic| walk_at "ix") => `(tactic| first | rfl | with_reducible assumption)
local macro_rules | `(tactic| walk_at "rg") => `(tactic| exact RgOk.of_le (by omega) (by omega) (by omega) (by omega))
local macro_rules | `(tactic| walk_at "sp") => `(tactic| fail "sp")
local macro_rules | `(tactic| walk_at "cl") => `(tactic| with_reducible assumption)
local macro_rules | `(tactic| walk_at "lk") => `(tactic| with_reducible assumption)
local macro_rules | `(tactic| walk_at "it") => `(tactic| first | rfl | with_reducible assumption | exact atI_nat (by with_reducible assumption))
local macro_rules | `(tactic| walk_at "g1") => `(tactic| first
  | (with_reducible apply g_var); (focus rfl)
  | with_reducible apply g_c
  | with_reducible apply g_seq
  | with_reducible apply g_asg
  | with_reducible apply gg_name
  | with_reducible apply g_op
  | with_reducible apply g_cons
  | with_reducible apply g_nil
  | with_reducible apply g_cb
  | with_reducible apply g_fld
  | ((with_reducible apply g_kFld); (focus walk_at "hp"); (focus walk_at "cl"); (focus walk_at "cl"); (focus walk_at "lk"))
  | with_reducible apply g_call
  | walk_at "sp"
  | with_reducible apply g_ret
  | with_reducible apply g_drop
  | with_reducible apply g_test
  | with_reducible apply g_B
  | with_reducible apply g_kTest
  | with_reducible apply g_ifS
  | with_reducible apply g_kIfST
  | with_reducible apply g_kIfSF
  | with_reducible apply g_add
  | with_reducible apply g_sub
  | with_reducible apply g_lt
  | with_reducible apply g_le
  | with_reducible apply g_gt
  | with_reducible apply g_ge
  | with_reducible apply g_eqI
  | with_reducible apply g_neI
  | ((with_reducible apply g_mod); (focus first | decide | omega))
  | ((with_reducible apply g_mul); (focus first | (left; constructor <;> omega) | (right; constructor <;> omega)))
  | ((with_reducible apply g_fdiv); (focus (constructor <;> omega)))
  | ((with_reducible apply g_ixT); (focus walk_at "hp"); (focus walk_at "it"))
  | ((with_reducible apply g_ixL); (focus walk_at "hp"); (focus walk_at "it"))
  | with_reducible apply g_and
  | with_reducible apply g_or
  | with_reducible apply g_not
  | with_reducible apply g_kNotT
  | with_reducible apply g_kNotF
  | with_reducible apply g_if
  | with_reducible apply g_kAndT
  | with_reducible apply g_kAndF
  | with_reducible apply g_kOrT
  | with_reducible apply g_kOrF
  | with_reducible apply g_kIfT
  | with_reducible apply g_kIfF
  | with_reducible apply g_next
  | with_reducible apply g_andV
  | with_reducible apply g_orV
  | with_reducible apply g_notV
  | with_reducible apply g_kNotV
  | with_reducible apply g_kAndVT
  | with_reducible apply g_kAndVF
  | with_reducible apply g_chain
  | with_reducible apply g_kChainT
  | with_reducible apply g_kChainF
  | with_reducible apply g_tup
  | with_reducible apply g_lst
  | ((with_reducible apply g_kT); (focus walk_at "sz"); intro _ _ _ _ _)
  | ((with_reducible apply g_kL); (focus walk_at "sz"); intro _ _ _ _ _)
  | with_reducible apply g_un
  | with_reducible apply g_neg
  | with_reducible apply g_meth
  | ((with_reducible apply g_kMeth); (focus walk_at "hp"); (focus walk_at "lk"))
  | with_reducible apply g_prop
  | ((with_reducible apply g_kProp); (focus walk_at "hp"))
  | with_reducible apply g_make
  | with_reducible apply g_par
  | with_reducible apply g_kPar
  | ((with_reducible apply g_lenLM); (focus walk_at "hp"))
  | ((with_reducible apply g_lenTM); (focus walk_at "hp"))
  | ((with_reducible apply g_lenL); (focus walk_at "hp"))
  | ((with_reducible apply g_lenT); (focus walk_at "hp"))
  | with_reducible apply g_int1
  | with_reducible apply g_max2
  | with_reducible apply g_min2
  | ((with_reducible apply g_listL); (focus walk_at "hp"); intro _ _ _ _ _)
  | ((with_reducible apply g_listT); (focus walk_at "hp"); intro _ _ _ _ _)
  | ((with_reducible apply g_tupL); (focus walk_at "hp"); intro _ _ _ _ _)
  | ((with_reducible apply g_sum); (focus walk_at "hp"))
  | with_reducible apply g_sfld
  | with_reducible apply g_sl
  | with_reducible apply g_nopart
  | with_reducible apply g_part
  | with_reducible apply g_kPart
  | with_reducible apply g_lstRg
  | with_reducible apply g_rg1
  | with_reducible apply g_kRg1
  | with_reducible apply g_bm
  | with_reducible apply gg_sub
  | ((with_reducible apply gg_tup); (focus walk_at "hp"); (focus rfl))
  | with_reducible apply gg_cons
  | with_reducible apply gg_nil
  | with_reducible apply g_forL
  | with_reducible apply g_forT
  | with_reducible apply g_forR1
  | with_reducible apply g_forR2
  | with_reducible apply g_forE
  | with_reducible apply g_forEL
  | ((with_reducible apply g_maxT); (focus walk_at "hp"); (focus walk_at "nn"))
  | ((with_reducible apply g_maxL); (focus walk_at "hp"); (focus walk_at "nn"))
  | ((with_reducible apply g_catA); (focus walk_at "hp"); (focus walk_at "hp"); (focus walk_at "sz"); intro _ _ _ _)
  | ((with_reducible apply g_slA); (focus walk_at "hp"); intro _ _ _ _)
  | ((with_reducible apply g_tupD); (focus walk_at "hp"); intro _ _ _ _ _)
  | ((with_reducible apply g_setL); (focus walk_at "hp"); (focus walk_at "ix"); intro _ _ _)
  | ((with_reducible apply g_append); (focus walk_at "hp"); (focus walk_at "sl"); intro _ _ _)
  | ((with_reducible apply g_aug); (focus rfl))
  | with_reducible apply g_ipI
  | with_reducible apply g_retN
  | with_reducible apply g_lcR1
  | with_reducible apply g_lcR2
  | with_reducible apply g_lcL
  | with_reducible apply g_lcU
  | with_reducible apply g_lcN
  | ((with_reducible apply g_kLcG); (focus rfl))
  | with_reducible apply g_yes
  | with_reducible apply g_kLcTT
  | with_reducible apply g_kLcTF
  | ((with_reducible apply g_kLcE); (focus walk_at "hp"); (focus walk_at "sl"); intro _ _ _)
  | ((with_reducible apply g_pow); (focus (constructor <;> (try constructor) <;> decide)))
  | ((with_reducible apply g_kLRg); (focus walk_at "rg"); intro _ _ _ _ _)
  | ((with_reducible apply g_cat); (focus walk_at "hp"); (focus walk_at "hp"); (focus walk_at "sz"); intro _ _ _ _ _)
  | ((with_reducible apply g_slL); (focus walk_at "hp"); intro _ _ _ _ _)
  | with_reducible apply g_bmT
  | with_reducible apply g_break
  | with_reducible apply g_cont)
local macro_rules | `(tactic| walk_at "g0") => `(tactic| try dsimp only [L2.cxOf, L2.Cx.nox, L2.Cx.wish])
local macro_rules | `(tactic| walk_at "yn") => `(tactic| first
  | ((with_reducible apply y_kIfS); (focus walk_at "tr"))
  | ((with_reducible apply n_kIfS); (focus walk_at "tr"))
  | ((with_reducible apply y_kOr); (focus walk_at "tr"))
  | ((with_reducible apply n_kOr); (focus walk_at "tr"))
  | ((with_reducible apply y_kAnd); (focus walk_at "tr"))
  | ((with_reducible apply n_kAnd); (focus walk_at "tr"))
  | ((with_reducible apply y_kNot); (focus walk_at "tr"))
  | ((with_reducible apply n_kNot); (focus walk_at "tr"))
  | ((with_reducible apply y_kIf); (focus walk_at "tr"))
  | ((with_reducible apply n_kIf); (focus walk_at "tr"))
  | ((with_reducible apply y_kAndV); (focus walk_at "tr"))
  | ((with_reducible apply n_kAndV); (focus walk_at "tr"))
  | ((with_reducible apply y_kOrV); (focus walk_at "tr"))
  | ((with_reducible apply n_kOrV); (focus walk_at "tr"))
  | ((with_reducible apply y_kChain); (focus walk_at "tr"))
  | ((with_reducible apply n_kChain); (focus walk_at "tr"))
  | ((with_reducible apply y_kLcT); (focus walk_at "tr"))
  | ((with_reducible apply n_kLcT); (focus walk_at "tr"))
  | ((with_reducible apply y_kWh); (focus walk_at "tr"))
  | ((with_reducible apply n_kWh); (focus walk_at "tr")))
local macro_rules | `(tactic| walk_at "go") => `(tactic| repeat (first | walk_at "g1" | walk_at "yn"))
local macro_rules | `(tactic| walk_at "hp") => `(tactic| first
  | ((with_reducible apply RingIn.ex); (focus walk_at "as"); walk_at "hp")
  | ((with_reducible apply RingAt.ex); (focus walk_at "as"); walk_at "hp")
  | ((with_reducible apply RingIn.exb); (focus walk_at "as"); (focus walk_at "hp"); walk_at "hp")
  | ((with_reducible apply RingAt.exb); (focus walk_at "as"); (focus walk_at "hp"); walk_at "hp")
  | ((with_reducible apply TupK.ex); (focus walk_at "as"); walk_at "hp")
  | ((with_reducible apply TupK.exb); (focus walk_at "as"); (focus walk_at "hp"); walk_at "hp"))
local macro_rules | `(tactic| walk_at "lk") => `(tactic| first | with_reducible exact rf_spans | with_reducible exact rf_heaps | with_reducible exact rf_total | with_reducible exact rf_nr | with_reducible exact rf_wd)
local macro_rules | `(tactic| walk_at "sp") => `(tactic| first
  | ((with_reducible apply g_isiTup); (focus walk_at "hp"))
  | ((with_reducible apply g_isiLst); (focus walk_at "hp"))
  | ((with_reducible apply g_isint); (focus omega); (focus omega))
  | ((with_reducible apply g_checkn); (focus omega); (focus omega))
  | ((with_reducible apply g_rbooks); (focus walk_at "hp"))
  | ((with_reducible apply g_rpace); (focus walk_at "hp"); intro _ _ _ _)
  | ((with_reducible apply g_rlen); (focus walk_at "hp"))
  | ((with_reducible apply g_rneed); (focus walk_at "hp"); (focus omega))
  | ((with_reducible apply g_rneedM); (focus walk_at "hp"))
  | ((with_reducible apply g_rwithM); (focus walk_at "hp"))
  | ((with_reducible apply g_rspans); (focus walk_at "hp"); (focus with_reducible assumption))
  | ((with_reducible apply g_rheaps); (focus walk_at "hp"); (focus with_reducible assumption))
  | ((with_reducible apply g_rtotal); (focus walk_at "hp"); (focus with_reducible assumption)))

section
variable {P : Program} {w : World} {K : PySem.W.Frag} {mg : Str → Option Value} {base : Heap} {C SC : Addr}
/-! ### first_scene -/
def kTRg (Q : VK) (a b : Int) (H1 : Hp) : Prop := RgOk a b ∧ ∀ q, H1 q = none → Q (.ref q) (upd H1 q (.tup (rgV a b)))
theorem g_rgT {tg : L2.St → Hp → (Int → Int → Hp → Prop) → Prop} {σ : L2.St} {H : Hp} {Q : VK} (q : tg σ H (kTRg Q)) : tTupRg tg σ H Q := q
theorem g_kTRg {i j : Int} {H : Hp} {Q : VK} (h : RgOk i j) (q : ∀ p H2, H p = none → Ex H H2 → H2 p = some (.tup (rgV i j)) → Q (.ref p) H2) : kTRg Q i j H := ⟨h, fun p hp => q p _ hp (Ex.new hp) upd_same⟩
theorem frng_V (a : Int) (n : Nat) : rgV a (a + (n : Int)) = (frng a n).map V.int := by
  unfold rgV frng
  rw [List.map_map]
  have e : (a + (n : Int) - a).toNat = n := by omega
  rw [e]
  rfl
theorem RingOk.fH_at {ds hs : List Int} (O : RingOk ds hs) {k : Nat} (hk : k < ds.length) : (hs.map V.int)[k]? = some (.int (fH hs k : Int)) ∧ fH hs k ≤ 12 := by
  have hl : k < hs.length := by rw [O.len]; exact hk
  have e : hs[k]? = some hs[k] := List.getElem?_eq_getElem hl
  have h0 := O.hh _ (List.getElem_mem hl)
  have ef : fH hs k = hs[k].toNat := by
    unfold fH
    rw [List.getD_eq_getElem?_getD, e]
    rfl
  rw [List.getElem?_map, e, ef]
  refine ⟨?_, by omega⟩
  show some (V.int hs[k]) = _
  congr 2
  omega
theorem ScW.first0 {ds hs : List Int} (O : RingOk ds hs) : ScW ds.length (Sc.first0 ds hs) where
  two := O.two
  eight := O.eight
  uni := fun b => by
    have h := first_count (hs := hs) (fun x hx => (O.hh x hx).1) b (k := ds.length) (by rw [O.len]; exact Nat.le_refl _)
    show sumN ds.length (fun j => (firstSt hs j).count b) ≤ 1
    rw [h]
    split <;> omega
  few := by
    have h := first_len (hs := hs) (fun x hx => (O.hh x hx).1) (k := ds.length) (by rw [O.len]; exact Nat.le_refl _)
    rw [← O.len, List.take_length] at h
    have := O.twelve
    show sumN ds.length (fun j => (firstSt hs j).length) ≤ 12
    rw [← O.len]
    omega
  sp := fun k hk => by
    have e : ds.getD k 0 = ds[k] := by rw [List.getD_eq_getElem?_getD, List.getElem?_eq_getElem hk]; rfl
    show 1 ≤ ds.getD k 0 ∧ ds.getD k 0 ≤ 30
    rw [e]
    exact O.dd _ (List.getElem_mem hk)
  day := Int.le_refl _
  ends := fun k hk e he => by cases he
theorem ScOk.first {ds hs : List Int} (O : RingOk ds hs) : ScOk ds.length (Sc.first ds hs) := (ScW.first0 O).begun
def scAt (ds hs : List Int) : Nat → Sc
  | 0 => Sc.first ds hs
  | t + 1 => (scAt ds hs t).next ds.length
theorem scAt_ok {ds hs : List Int} (O : RingOk ds hs) : ∀ t, ScOk ds.length (scAt ds hs t)
  | 0 => ScOk.first O
  | t + 1 => (scAt_ok O t).next
def sp_first_scene (K : PySem.W.Frag) (C SC : Addr) : Sp := fun vs H Q _ => ∃ (r a b : Addr) (ds hs : List Int), vs = [.ref r] ∧ RingIn K C H r a b ds hs ∧ ∀ x H', H x = none → Ex H H' → ScIn K SC H' x ds.length (Sc.first ds hs) → Q (.ref x) H'
set_option maxHeartbeats 8000000 in
theorem ok_first_scene (Z : Blt mg) (R : RingC K C) (RS : SceneC K SC) (I_Scene : If P w K mg base "Scene" SC 1 ["self", "day", "stacks", "ends", "spans", "number"] (sp_Scene_init K SC)) (M_Scene_begun : Mf P w K mg base SC 3 "begun" ["self"] (sp_begun K SC)) (M_Ring___len__ : Mf P w K mg base C 1 "__len__" ["self"] (sp_Ring_len K C)) (G : GFun K mg "first_scene" s_first_scene) : Df P w K mg base 4 "first_scene" ["ring"] (sp_first_scene K C SC) := by
  refine Df.of G sc_first_scene b_first_scene (fun vs H Q E h => ?_) (fun f cdv A outer st H vs Q E hr h => ?_)
  · obtain ⟨r, a, b, ds, hs, rfl, _⟩ := h
    rfl
  · obtain ⟨r, a, b, ds, hs, rfl, RI, k⟩ := h
    obtain ⟨cl_Scene, n1, n2, n3, n4, n5⟩ := RS
    obtain ⟨cl_Ring, nS, nH, nT⟩ := R
    have O := RI.ok
    have o2 := O.two
    have o8 := O.eight
    have o12 := O.twelve
    have nn : ∀ x ∈ hs, 0 ≤ x := fun x hx => (O.hh x hx).1
    obtain ⟨dx, ho⟩ := RI.obj
    have hS := RI.sp
    have hT := RI.hp
    refine ⟨_, PSs.nox (pss_cons (ps_par (i := 1) (j := 2) rfl sc_first_scene.nd rfl rfl (by decide) rfl rfl (pa_cons (pe_lst pa_nil) (pa_cons pe_int pa_nil)) (by rfl))
      (pss_cons (ps_for PassesOwn.never rfl (pi_tup (pe_fld (pv 0) rfl)) (pg_name (i := 3) sc_first_scene.nd rfl (by first | exact Or.inl rfl | exact Or.inr rfl)) (pss_cons (ps_expr (pe_bm PySem.F.plainAttrs_list PySem.F.slot_list_append PySem.F.type_list_append mt_append (pv 1) (pa_cons (pe_tupRg rfl (by rfl) Z.ztuple (prg_2 (by rfl) Z.zrange (pv 2) (pe_op op_add (pv 2) (pv 3)))) pa_nil)))
          (pss_one (ps_aug (i := 2) sc_first_scene.nd rfl (by first | exact Or.inl rfl | exact Or.inr rfl) (pv 3) ip_add))))
      (pss_one (ps_ret (pm0 (pk I_Scene hr (pa_cons pe_int (pa_cons (pe_callTy c_tuple_of (by rfl) Z.ztuple (by decide +kernel) (pa_cons (pv 1) pa_nil)) (pa_cons (pe_op op_repT (pe_tup (pa_cons pe_non pa_nil)) (pe_callB (call_lenO M_Ring___len__ hr) (by rfl) Z.zlen PySem.boot_len (pa_cons (pv 0) pa_nil))) (pa_cons (pe_fld (pv 0) rfl) (pa_cons (pv 2) pa_nil)))))) cl_Scene M_Scene_begun hr))))), ?_⟩
    walk_at "g0"
    walk_at "go"
    rename_i l H1 nl e1 hl
    have ho1 := e1 _ _ ho
    walk_at "go"
    refine g_kForT (ex_t e1 hT) (fun i σ H' => ∃ (sA : Nat → Addr) (v3 : Option V), σ = [some (.ref r), some (.ref l), some (.int (hs.take i).sum), v3] ∧ Ex H H' ∧ H' l = some (.lst (stV i sA)) ∧ ∀ j, j < i → SqT K H' (sA j) ((firstSt hs j).map V.int))
      ⟨fun _ => 0, _, rfl, e1, hl, fun j hj => absurd hj (Nat.not_lt_zero j)⟩ (fun i σ H' _ hP => by
        obtain ⟨_, _, _, e, _⟩ := hP
        exact ex_t e hT) ?_ ?_
    · rintro i x σ H2 hx ⟨sA, v3, rfl, e2, h2, hsA⟩
      have hil : i < ds.length := by
        have := (List.getElem?_eq_some_iff.mp hx).1
        rw [List.length_map, O.len] at this
        exact this
      have hB := (O.fH_at hil).2
      rw [(O.fH_at hil).1] at hx
      cases hx
      have htk : 0 ≤ (hs.take i).sum ∧ (hs.take i).sum ≤ 12 := by
        have h1 := first_len nn (k := i) (by rw [O.len]; omega)
        have h2 := (ScW.first0 O).few
        have h3 : sumN i (fun j => (firstSt hs j).length) ≤ sumN ds.length (fun j => (firstSt hs j).length) := by
          have : ∀ (n m : Nat) (f : Nat → Nat), n ≤ m → sumN n f ≤ sumN m f := fun n m f h => by
            induction h with
            | refl => exact Nat.le_refl _
            | step _ ih => rw [sumN_succ]; omega
          exact this _ _ _ (by omega)
        have h4 : sumN ds.length (fun j => (firstSt hs j).length) ≤ 12 := h2
        omega
      walk_at "go"
      refine g_kBM_list (SqL.of h2) ?_
      refine g_rgT ?_
      refine g_rg2 ?_
      walk_at "go"
      refine ⟨_, _, rfl, rfl, g_kTRg (RgOk.of_le (by omega) (by omega) (by omega) (by omega)) fun t3 H3 n3 e3 h3 => ?_⟩
      rw [frng_V] at h3
      walk_at "go"
      refine g_append (e3 _ _ h2) (lt1000 (by rw [stV_len]; omega)) fun H4 e4 h4 => ?_
      have h4' : H4 l = some (.lst (stV (i + 1) (fun j => if j = i then t3 else sA j))) := by
        rw [h4]
        unfold stV
        rw [← mapV_next]
        refine congrArg (fun z => some (HO.lst z)) ?_
        congr 1
        · exact mapV_congr fun j hj => by
            dsimp only
            rw [if_neg (by omega)]
        · simp
      walk_at "go"
      rw [← ftake nn (by rw [O.len]; exact hil)]
      refine ⟨fun j => if j = i then t3 else sA j, _, rfl, Exb.ex nl (e2.trans e3) e4, h4', fun j hj => ?_⟩
      by_cases z : j = i
      · simp only [z, if_true]
        exact exb_t e4 (e3 _ _ h2) (SqT.of h3)
      · simp only [if_neg z]
        exact exb_t e4 (e3 _ _ h2) (ex_t e3 (hsA j (by omega)))
    · rintro σ H2 ⟨sA, v3, rfl, e2, h2, hsA⟩
      rw [List.length_map, O.len] at h2 hsA ⊢
      rw [show hs.take ds.length = hs by rw [← O.len, List.take_length]]
      have ho2 := e2 _ _ ho
      have RI2 := RI.ex e2
      walk_at "go"
      rename_i t3 H3 n3 e3 h3 t4 H4 n4 e4 h4
      refine ⟨t4, (ds.length : Int), [.non], rfl, rfl, SqT.of h4, by simp, by omega, by omega, by simp, fun t5 n5 => ?_⟩
      have e5 : Ex H4 (upd H4 t5 (.tup (List.replicate ((ds.length : Int)).toNat [V.non]).flatten)) := Ex.new n5
      have h5 : upd H4 t5 (.tup (List.replicate ((ds.length : Int)).toNat [V.non]).flatten) t5 = some (.tup (enV ds.length fun _ => none)) := by
        rw [upd_same, Int.toNat_natCast]
        congr 2
        unfold enV
        rw [List.flatten_replicate_singleton, List.map_const', List.length_range]
        rfl
      generalize upd H4 t5 (.tup (List.replicate ((ds.length : Int)).toNat [V.non]).flatten) = H5 at e5 h5
      have ho5 := e5 _ _ (e4 _ _ (e3 _ _ ho2))
      walk_at "go"
      have e35 := (e3.trans e4).trans e5
      have e05 := e2.trans e35
      refine g_mkScene fun x dx' fs' H9 nx e9 hx hf' => ?_
      have SI : ScIn K SC H9 x ds.length (Sc.first0 ds hs) := ⟨dx', fs', t3, t5, a, hx, hf', ⟨sA, ex_t ((e4.trans e5).trans e9) (h3.sq (K := K)), fun j hj => ex_t (e35.trans e9) (hsA j hj)⟩, ex_t e9 (SqT.of h5), by
        have : spV ds.length (fun k => ds.getD k 0) = ds.map V.int := by
          unfold spV
          refine List.ext_getElem? fun j => ?_
          by_cases hj : j < ds.length
          · rw [mapV_at hj, List.getElem?_map, List.getElem?_eq_getElem hj]
            dsimp only
            rw [List.getD_eq_getElem?_getD, List.getElem?_eq_getElem hj]
            rfl
          · rw [List.getElem?_eq_none (by simp; omega), List.getElem?_eq_none (by simp; omega)]
        show SqT K H9 a (spV ds.length fun k => ds.getD k 0)
        rw [this]
        exact ex_t (e05.trans e9) hS⟩
      obtain ⟨_, _, _, _, _, m1, _, _⟩ := hf'
      walk_at "go"
      exact ⟨x, ds.length, Sc.first0 ds hs, rfl, o8, SI, fun a' H10 na e10 SI10 => k a' H10 (fresh_back (e05.trans e9) na) ((e05.trans e9).trans e10) SI10⟩
end
end G48

namespace G48
open PySem PySem.Spec PyProof.Rows L2 Evl
abbrev N__law_begun : List Str := ["_law_model", "_law_day", "_law_stacks", "_law_ends", "_law_days", "_law_number", "_law_later", "_law_k"]
theorem sc__law_begun : FnScope N__law_begun ["_law_model"] (defScope s__law_begun) := ⟨rfl, rfl, rfl, by decide +kernel, rfl, by decide +kernel, by decide +kernel⟩
theorem b__law_begun : BindL "_law_begun" "_law_begun" s__law_begun ["_law_model"] := fun _ _ _ _ _ _ us hl => match us, hl with | [_], _ => rfl
abbrev N__law_first : List Str := ["_law_days", "_law_heaps", "_law_stacks", "_law_number", "_law_heap"]
theorem sc__law_first : FnScope N__law_first ["_law_days", "_law_heaps"] (defScope s__law_first) := ⟨rfl, rfl, rfl, by decide +kernel, rfl, by decide +kernel, by decide +kernel⟩
theorem b__law_first : BindL "_law_first" "_law_first" s__law_first ["_law_days", "_law_heaps"] := fun _ _ _ _ _ _ us hl => match us, hl with | [_, _], _ => rfl
end G48
--lib Z
/-! the own model [day, stacks, ends, days, number]: any scene -/
namespace G48
open PySem PySem.Spec PyProof.Rows L2 Evl
/-! the steps -/
local macro_rules | `(tactic| walk_at "as") => `(tactic| with_reducible assumption)
local macro_rules | `(tactic| walk_at "hp") => `(tactic| first
  | with_reducible assumption
  | ((with_reducible apply SqT.of); walk_at "as")
  | ((with_reducible apply SqL.of); walk_at "as")
  | ((with_reducible apply ex_at); (focus walk_at "as"); walk_at "hp")
  | ((with_reducible apply ex_t); (focus walk_at "as"); walk_at "hp")
  | ((with_reducible apply ex_l); (focus walk_at "as"); walk_at "hp")
  | ((with_reducible apply exb_ins); (focus walk_at "as"); (focus walk_at "hp"); walk_at "hp")
  | ((with_reducible apply exb_t); (focus walk_at "as"); (focus walk_at "hp"); walk_at "hp")
  | ((with_reducible apply exb_at); (focus walk_at "as"); (focus walk_at "ne"); walk_at "hp")
  | ((with_reducible apply exb_l); (focus walk_at "as"); (focus walk_at "ne"); walk_at "hp"))
local macro_rules | `(tactic| walk_at "ne") => `(tactic| first
  | with_reducible assumption
  | exact Ne.symm (by with_reducible assumption)
  | exact ne_of_none (by with_reducible assumption) (by with_reducible assumption)
  | exact Ne.symm (ne_of_none (by with_reducible assumption) (by with_reducible assumption)))
local macro_rules | `(tactic| walk_at "tr") => `(tactic| first
  | rfl
  | with_reducible assumption
  | exact decide_eq_true (by first | with_reducible assumption | omega)
  | exact decide_eq_false (by first | with_reducible assumption | omega)
  | (rw [Bool.not_eq_true']; exact decide_eq_false (by first | with_reducible assumption | omega))
  | (rw [Bool.not_eq_false']; exact decide_eq_true (by first | with_reducible assumption | omega)))
local macro_rules | `(tactic| walk_at "nn") => `(tactic| first | with_reducible assumption | (exact List.cons_ne_nil _ _))
local macro_rules | `(tactic| walk_at "sz") => `(tactic| first | (exact sz1000 (Nat.le_of_ble_eq_true rfl)) | (refine sz1000 ?_; simp only [List.length_map, List.length_cons, List.length_nil, List.length_append]; omega) | with_reducible assumption)
local macro_rules | `(tactic| walk_at "sl") => `(tactic| first | with_reducible assumption | (refine lt1000 ?_; simp only [List.length_map, List.length_cons, List.length_nil, List.length_append]; omega) | (refine lt1000 ?_; omega))
local macro_rules | `(tactic| walk_at "ix") => `(tactic| first | rfl | with_reducible assumption)
local macro_rules | `(tactic| walk_at "rg") => `(tactic| exact RgOk.of_le (by omega) (by omega) (by omega) (by omega))
local macro_rules | `(tactic| walk_at "sp") => `(tactic| fail "sp")
local macro_rules | `(tactic| walk_at "cl") => `(tactic| with_reducible assumption)
local macro_rules | `(tactic| walk_at "lk") => `(tactic| with_reducible assumption)
local macro_rules | `(tactic| walk_at "it") => `(tactic| first | rfl | with_reducible assumption | exact atI_nat (by with_reducible assumption))
local macro_rules | `(tactic| walk_at "g1") => `(tactic| first
  | (with_reducible apply g_var); (focus rfl)
  | with_reducible apply g_c
  | with_reducible apply g_seq
  | with_reducible apply g_asg
  | with_reducible apply gg_name
  | with_reducible apply g_op
  | with_reducible apply g_cons
  | with_reducible apply g_nil
  | with_reducible apply g_cb
  | with_reducible apply g_fld
  | ((with_reducible apply g_kFld); (focus walk_at "hp"); (focus walk_at "cl"); (focus walk_at "cl"); (focus walk_at "lk"))
  | with_reducible apply g_call
  | walk_at "sp"
  | with_reducible apply g_ret
  | with_reducible apply g_drop
  | with_reducible apply g_test
  | with_reducible apply g_B
  | with_reducible apply g_kTest
  | with_reducible apply g_ifS
  | with_reducible apply g_kIfST
  | with_reducible apply g_kIfSF
  | with_reducible apply g_add
  | with_reducible apply g_sub
  | with_reducible apply g_lt
  | with_reducible apply g_le
  | with_reducible apply g_gt
  | with_reducible apply g_ge
  | with_reducible apply g_eqI
  | with_reducible apply g_neI
  | ((with_reducible apply g_mod); (focus first | decide | omega))
  | ((with_reducible apply g_mul); (focus first | (left; constructor <;> omega) | (right; constructor <;> omega)))
  | ((with_reducible apply g_fdiv); (focus (constructor <;> omega)))
  | ((with_reducible apply g_ixT); (focus walk_at "hp"); (focus walk_at "it"))
  | ((with_reducible apply g_ixL); (focus walk_at "hp"); (focus walk_at "it"))
  | with_reducible apply g_and
  | with_reducible apply g_or
  | with_reducible apply g_not
  | with_reducible apply g_kNotT
  | with_reducible apply g_kNotF
  | with_reducible apply g_if
  | with_reducible apply g_kAndT
  | with_reducible apply g_kAndF
  | with_reducible apply g_kOrT
  | with_reducible apply g_kOrF
  | with_reducible apply g_kIfT
  | with_reducible apply g_kIfF
  | with_reducible apply g_next
  | with_reducible apply g_andV
  | with_reducible apply g_orV
  | with_reducible apply g_notV
  | with_reducible apply g_kNotV
  | with_reducible apply g_kAndVT
  | with_reducible apply g_kAndVF
  | with_reducible apply g_chain
  | with_reducible apply g_kChainT
  | with_reducible apply g_kChainF
  | with_reducible apply g_tup
  | with_reducible apply g_lst
  | ((with_reducible apply g_kT); (focus walk_at "sz"); intro _ _ _ _ _)
  | ((with_reducible apply g_kL); (focus walk_at "sz"); intro _ _ _ _ _)
  | with_reducible apply g_un
  | with_reducible apply g_neg
  | with_reducible apply g_meth
  | ((with_reducible apply g_kMeth); (focus walk_at "hp"); (focus walk_at "lk"))
  | with_reducible apply g_prop
  | ((with_reducible apply g_kProp); (focus walk_at "hp"))
  | with_reducible apply g_make
  | with_reducible apply g_par
  | with_reducible apply g_kPar
  | ((with_reducible apply g_lenLM); (focus walk_at "hp"))
  | ((with_reducible apply g_lenTM); (focus walk_at "hp"))
  | ((with_reducible apply g_lenL); (focus walk_at "hp"))
  | ((with_reducible apply g_lenT); (focus walk_at "hp"))
  | with_reducible apply g_int1
  | with_reducible apply g_max2
  | with_reducible apply g_min2
  | ((with_reducible apply g_listL); (focus walk_at "hp"); intro _ _ _ _ _)
  | ((with_reducible apply g_listT); (focus walk_at "hp"); intro _ _ _ _ _)
  | ((with_reducible apply g_tupL); (focus walk_at "hp"); intro _ _ _ _ _)
  | ((with_reducible apply g_sum); (focus walk_at "hp"))
  | with_reducible apply g_sfld
  | with_reducible apply g_sl
  | with_reducible apply g_nopart
  | with_reducible apply g_part
  | with_reducible apply g_kPart
  | with_reducible apply g_lstRg
  | with_reducible apply g_rg1
  | with_reducible apply g_kRg1
  | with_reducible apply g_bm
  | with_reducible apply gg_sub
  | ((with_reducible apply gg_tup); (focus walk_at "hp"); (focus rfl))
  | with_reducible apply gg_cons
  | with_reducible apply gg_nil
  | with_reducible apply g_forL
  | with_reducible apply g_forT
  | with_reducible apply g_forR1
  | with_reducible apply g_forR2
  | with_reducible apply g_forE
  | with_reducible apply g_forEL
  | ((with_reducible apply g_maxT); (focus walk_at "hp"); (focus walk_at "nn"))
  | ((with_reducible apply g_maxL); (focus walk_at "hp"); (focus walk_at "nn"))
  | ((with_reducible apply g_catA); (focus walk_at "hp"); (focus walk_at "hp"); (focus walk_at "sz"); intro _ _ _ _)
  | ((with_reducible apply g_slA); (focus walk_at "hp"); intro _ _ _ _)
  | ((with_reducible apply g_tupD); (focus walk_at "hp"); intro _ _ _ _ _)
  | ((with_reducible apply g_setL); (focus walk_at "hp"); (focus walk_at "ix"); intro _ _ _)
  | ((with_reducible apply g_append); (focus walk_at "hp"); (focus walk_at "sl"); intro _ _ _)
  | ((with_reducible apply g_aug); (focus rfl))
  | with_reducible apply g_ipI
  | with_reducible apply g_retN
  | with_reducible apply g_lcR1
  | with_reducible apply g_lcR2
  | with_reducible apply g_lcL
  | with_reducible apply g_lcU
  | with_reducible apply g_lcN
  | ((with_reducible apply g_kLcG); (focus rfl))
  | with_reducible apply g_yes
  | with_reducible apply g_kLcTT
  | with_reducible apply g_kLcTF
  | ((with_reducible apply g_kLcE); (focus walk_at "hp"); (focus walk_at "sl"); intro _ _ _)
  | ((with_reducible apply g_pow); (focus (constructor <;> (try constructor) <;> decide)))
  | ((with_reducible apply g_kLRg); (focus walk_at "rg"); intro _ _ _ _ _)
  | ((with_reducible apply g_cat); (focus walk_at "hp"); (focus walk_at "hp"); (focus walk_at "sz"); intro _ _ _ _ _)
  | ((with_reducible apply g_slL); (focus walk_at "hp"); intro _ _ _ _ _)
  | with_reducible apply g_bmT
  | with_reducible apply g_break
  | with_reducible apply g_cont)
local macro_rules | `(tactic| walk_at "g0") => `(tactic| try dsimp only [L2.cxOf, L2.Cx.nox, L2.Cx.wish])
local macro_rules | `(tactic| walk_at "yn") => `(tactic| first
  | ((with_reducible apply y_kIfS); (focus walk_at "tr"))
  | ((with_reducible apply n_kIfS); (focus walk_at "tr"))
  | ((with_reducible apply y_kOr); (focus walk_at "tr"))
  | ((with_reducible apply n_kOr); (focus walk_at "tr"))
  | ((with_reducible apply y_kAnd); (focus walk_at "tr"))
  | ((with_reducible apply n_kAnd); (focus walk_at "tr"))
  | ((with_reducible apply y_kNot); (focus walk_at "tr"))
  | ((with_reducible apply n_kNot); (focus walk_at "tr"))
  | ((with_reducible apply y_kIf); (focus walk_at "tr"))
  | ((with_reducible apply n_kIf); (focus walk_at "tr"))
  | ((with_reducible apply y_kAndV); (focus walk_at "tr"))
  | ((with_reducible apply n_kAndV); (focus walk_at "tr"))
  | ((with_reducible apply y_kOrV); (focus walk_at "tr"))
  | ((with_reducible apply n_kOrV); (focus walk_at "tr"))
  | ((with_reducible apply y_kChain); (focus walk_at "tr"))
  | ((with_reducible apply n_kChain); (focus walk_at "tr"))
  | ((with_reducible apply y_kLcT); (focus walk_at "tr"))
  | ((with_reducible apply n_kLcT); (focus walk_at "tr"))
  | ((with_reducible apply y_kWh); (focus walk_at "tr"))
  | ((with_reducible apply n_kWh); (focus walk_at "tr")))
local macro_rules | `(tactic| walk_at "go") => `(tactic| repeat (first | walk_at "g1" | walk_at "yn"))
local macro_rules | `(tactic| walk_at "hp") => `(tactic| first
  | ((with_reducible apply RingIn.ex); (focus walk_at "as"); walk_at "hp")
  | ((with_reducible apply RingAt.ex); (focus walk_at "as"); walk_at "hp")
  | ((with_reducible apply RingIn.exb); (focus walk_at "as"); (focus walk_at "hp"); walk_at "hp")
  | ((with_reducible apply RingAt.exb); (focus walk_at "as"); (focus walk_at "hp"); walk_at "hp")
  | ((with_reducible apply TupK.ex); (focus walk_at "as"); walk_at "hp")
  | ((with_reducible apply TupK.exb); (focus walk_at "as"); (focus walk_at "hp"); walk_at "hp"))
local macro_rules | `(tactic| walk_at "lk") => `(tactic| first | with_reducible exact rf_spans | with_reducible exact rf_heaps | with_reducible exact rf_total | with_reducible exact rf_nr | with_reducible exact rf_wd)
local macro_rules | `(tactic| walk_at "sp") => `(tactic| first
  | ((with_reducible apply g_isiTup); (focus walk_at "hp"))
  | ((with_reducible apply g_isiLst); (focus walk_at "hp"))
  | ((with_reducible apply g_isint); (focus omega); (focus omega))
  | ((with_reducible apply g_checkn); (focus omega); (focus omega))
  | ((with_reducible apply g_rbooks); (focus walk_at "hp"))
  | ((with_reducible apply g_rpace); (focus walk_at "hp"); intro _ _ _ _)
  | ((with_reducible apply g_rlen); (focus walk_at "hp"))
  | ((with_reducible apply g_rneed); (focus walk_at "hp"); (focus omega))
  | ((with_reducible apply g_rneedM); (focus walk_at "hp"))
  | ((with_reducible apply g_rwithM); (focus walk_at "hp"))
  | ((with_reducible apply g_rspans); (focus walk_at "hp"); (focus with_reducible assumption))
  | ((with_reducible apply g_rheaps); (focus walk_at "hp"); (focus with_reducible assumption))
  | ((with_reducible apply g_rtotal); (focus walk_at "hp"); (focus with_reducible assumption)))

local macro_rules | `(tactic| walk_at "sp") => `(tactic| first
  | ((with_reducible apply g_taken); (focus walk_at "hp"); (focus first | decide | omega); (focus first | decide | omega); intro _ _ _ _ _ _))
local macro_rules | `(tactic| walk_at "hp") => `(tactic| first
  | ((with_reducible apply DiceAt.ex); (focus walk_at "as"); walk_at "hp")
  | ((with_reducible apply exb_tD); (focus walk_at "as"); (focus walk_at "hp"); walk_at "hp")
  | ((with_reducible apply exb_insD); (focus walk_at "as"); (focus walk_at "hp"); walk_at "hp")
  | ((with_reducible apply RingIn.exD); (focus walk_at "as"); (focus walk_at "hp"); walk_at "hp")
  | ((with_reducible apply TupK.exD); (focus walk_at "as"); (focus walk_at "hp"); walk_at "hp"))

theorem gg_unl {K : PySem.W.Frag} {H : Hp} {σ : L2.St} {QS : L2.St → Hp → Prop} {a : Addr} {xs : List V} {n : Nat} {gs : TGs} (h : SqL K H a xs) (l : xs.length = n) (q : gs xs σ H QS) : gUnl K n gs (.ref a) σ H QS := ⟨a, xs, rfl, h, l, q⟩
local macro_rules | `(tactic| walk_at "g1") => `(tactic| ((with_reducible apply gg_unl); (focus walk_at "hp"); (focus rfl)))
theorem g_repM {H : Hp} {Q : VK} {l : Addr} {n : Nat} {x : V} (h : H l = some (.lst [x])) (hn : n ≤ 900) (q : ∀ p H', H p = none → Ex H H' → H' p = some (.lst (List.replicate n x)) → Q (.ref p) H') : rRep (.ref l) (.int (n : Int)) H Q := by
  refine ⟨l, n, [x], rfl, rfl, h, by omega, by omega, ?_, fun p hp => q p _ hp (Ex.new hp) ?_⟩
  · refine sz1000 ?_
    simp
    omega
  · rw [upd_same, Int.toNat_natCast, List.flatten_replicate_singleton]
/-- the model at m: the scene s -/
structure OM (K : PySem.W.Frag) (H : Hp) (m : Addr) (N : Nat) (s : Sc) : Prop where
  obj : ∃ (sl el da : Addr) (lA : Nat → Addr), H m = some (.lst [.int s.day, .ref sl, .ref el, .ref da, .int s.nb]) ∧ H sl = some (.lst (stV N lA)) ∧ H el = some (.lst (enV N s.en)) ∧ SqT K H da (spV N s.sp) ∧ ∀ k, k < N → H (lA k) = some (.lst ((s.st k).map V.int))
section
variable {K : PySem.W.Frag} {H H' : Hp} {m : Addr} {N : Nat} {s : Sc}
theorem OM.ex (e : Ex H H') (h : OM K H m N s) : OM K H' m N s :=
  ⟨let ⟨sl, el, da, lA, a, b, c, d, f⟩ := h.obj; ⟨sl, el, da, lA, e _ _ a, e _ _ b, e _ _ c, ex_t e d, fun k hk => e _ _ (f k hk)⟩⟩
end
section
variable {P : Program} {w : World} {K : PySem.W.Frag} {mg : Str → Option Value} {base : Heap} {C : Addr}
def sp_mbegun (K : PySem.W.Frag) : Sp := fun vs H Q _ => ∃ (m : Addr) (N : Nat) (s : Sc), vs = [.ref m] ∧ N ≤ 8 ∧ (∀ k, k < N → (s.st k).length ≤ 12) ∧ OM K H m N s ∧ ∀ m' H', H m' = none → Ex H H' → OM K H' m' N s.begun → Q (.ref m') H'
set_option maxHeartbeats 8000000 in
theorem ok_mbegun (Z : Blt mg) (G : GFun K mg "_law_begun" s__law_begun) : Df P w K mg base 1 "_law_begun" ["_law_model"] (sp_mbegun K) := by
  refine Df.of G sc__law_begun b__law_begun (fun vs H Q E h => ?_) (fun f cdv A outer st H vs Q E hr h => ?_)
  · obtain ⟨m, N, s, rfl, _⟩ := h
    rfl
  · obtain ⟨m, N, s, rfl, h8, h12, M, q⟩ := h
    obtain ⟨sl, el, da, lA, hm, hsl, hel, hda, hl⟩ := M.obj
    refine ⟨_, PSs.nox (pss_cons (ps_asg (pv 0) (pg_unl rfl (pgs_cons (pg_name (i := 1) sc__law_begun.nd rfl (by first | exact Or.inl rfl | exact Or.inr rfl)) (pgs_cons (pg_name (i := 2) sc__law_begun.nd rfl (by first | exact Or.inl rfl | exact Or.inr rfl)) (pgs_cons (pg_name (i := 3) sc__law_begun.nd rfl (by first | exact Or.inl rfl | exact Or.inr rfl)) (pgs_cons (pg_name (i := 4) sc__law_begun.nd rfl (by first | exact Or.inl rfl | exact Or.inr rfl)) (pgs_cons (pg_name (i := 5) sc__law_begun.nd rfl (by first | exact Or.inl rfl | exact Or.inr rfl)) pgs_nil)))))))
      (pss_cons (ps_set (i := 6) sc__law_begun.nd rfl (by first | exact Or.inl rfl | exact Or.inr rfl) (pe_lst pa_nil))
      (pss_cons (ps_for PassesOwn.never rfl (pi_range1 (by rfl) Z.zrange (pa_cons (pe_callB c_len (by rfl) Z.zlen PySem.boot_len (pa_cons (pv 4) pa_nil)) pa_nil)) (pg_name (i := 7) sc__law_begun.nd rfl (by first | exact Or.inl rfl | exact Or.inr rfl)) (pss_one (ps_expr (pe_bm PySem.F.plainAttrs_list PySem.F.slot_list_append PySem.F.type_list_append mt_append (pv 6) (pa_cons (pe_ifExp (PW.pt (pw_and (pt_cmpR op_isN (pe_ix ix_list (pv 3) (pv 7) (fun _ _ => rfl)) pe_non (nomark _)) (pw_and1 (pt_cmpR (op_neD hr.units) (pe_ix ix_list (pv 2) (pv 7) (fun _ _ => rfl)) (pe_lst pa_nil) (nomark _))))) (pe_op op_add (pv 1) (pe_ix ix_tup (pv 4) (pv 7) (fun _ _ => rfl))) (pe_ix ix_list (pv 3) (pv 7) (fun _ _ => rfl))) pa_nil)))))
      (pss_one (ps_ret (pe_lst (pa_cons (pv 1) (pa_cons (pv 2) (pa_cons (pv 6) (pa_cons (pv 4) (pa_cons (pv 5) pa_nil))))))))))), ?_⟩
    walk_at "g0"
    walk_at "go"
    rename_i l H1 nl e1 hl1
    rw [spV_len]
    refine g_kForR1 ⟨by omega, by omega⟩ (fun i σ H' => ∃ v7 : Option V, σ = [some (.ref m), some (.int s.day), some (.ref sl), some (.ref el), some (.ref da), some (.int s.nb), some (.ref l), v7] ∧ Ex H H' ∧ H' l = some (.lst (enV i s.begun.en)))
      ⟨_, rfl, e1, hl1⟩ ?_ ?_
    · rintro i σ H2 hi ⟨v7, rfl, e2, hl2⟩
      have hi' : i < N := by omega
      have hel2 := e2 _ _ hel
      have hsl2 := e2 _ _ hsl
      have hda2 := ex_t e2 hda
      have hli2 := e2 _ _ (hl i hi')
      have ae : (enV N s.en)[i]? = some (oV (s.en i)) := mapV_at hi'
      have as : (stV N lA)[i]? = some (.ref (lA i)) := mapV_at hi'
      have ad : (spV N s.sp)[i]? = some (.int (s.sp i)) := mapV_at hi'
      have ei : (enV i s.begun.en).length ≤ 8 := by rw [enV_len]; omega
      have hnext : enV i s.begun.en ++ [oV (s.begun.en i)] = enV (i + 1) s.begun.en := mapV_next
      walk_at "go"
      refine g_kBM_list (SqL.of hl2) ?_
      walk_at "go"
      cases hen : s.en i with
      | some e =>
        have hb : s.begun.en i = some e := by
          show (if s.en i = none ∧ s.st i ≠ [] then _ else s.en i) = some e
          rw [if_neg (by rw [hen]; intro z; cases z.1), hen]
        rw [hen] at ae
        refine ⟨rfl, ?_⟩
        show kTest _ (V.bl (decide (V.int e = V.non))) _
        rw [dec_in]
        walk_at "go"
        rename_i H3 e3 h3
        refine ⟨_, rfl, Exb.ex nl e2 e3, ?_⟩
        rw [h3, ← hnext, hb]
      | none =>
        rw [hen] at ae
        refine ⟨rfl, ?_⟩
        show kTest _ (V.bl (decide (V.non = V.non))) _
        rw [dec_nn]
        walk_at "go"
        rename_i l3 H3 n3 e3 h3
        refine g_neLI (xs := s.st i) (ys := []) (SqL.of (e3 _ _ hli2)) (SqL.of h3) ?_
        have hl3 := e3 _ _ hl2
        by_cases z : s.st i = []
        · have hb : s.begun.en i = none := by
            show (if s.en i = none ∧ s.st i ≠ [] then _ else s.en i) = none
            rw [if_neg (fun y => y.2 z), hen]
          rw [decide_eq_true z]
          walk_at "go"
          rename_i H4 e4 h4
          refine ⟨_, rfl, Exb.ex nl (e2.trans e3) e4, ?_⟩
          rw [h4, ← hnext, hb]
        · have hb : s.begun.en i = some (s.day + s.sp i) := by
            show (if s.en i = none ∧ s.st i ≠ [] then some (s.day + s.sp i) else s.en i) = _
            rw [if_pos ⟨hen, z⟩]
          rw [decide_eq_false z]
          walk_at "go"
          rename_i H4 e4 h4
          refine ⟨_, rfl, Exb.ex nl (e2.trans e3) e4, ?_⟩
          rw [h4, ← hnext, hb]
          rfl
    · rintro σ H2 ⟨v7, rfl, e2, hl2⟩
      rw [Int.toNat_natCast] at hl2
      walk_at "go"
      rename_i m' H3 nm e3 hm3
      exact q m' H3 (fresh_back e2 nm) (e2.trans e3) ⟨sl, l, da, lA, hm3, (e2.trans e3) _ _ hsl, e3 _ _ hl2, ex_t (e2.trans e3) hda, fun k hk => (e2.trans e3) _ _ (hl k hk)⟩
def sp_mfirst (K : PySem.W.Frag) : Sp := fun vs H Q _ => ∃ (a b : Addr) (ds hs : List Int), vs = [.ref a, .ref b] ∧ SqT K H a (ds.map V.int) ∧ SqT K H b (hs.map V.int) ∧ RingOk ds hs ∧ ∀ m H', H m = none → Ex H H' → OM K H' m ds.length (Sc.first ds hs) → Q (.ref m) H'
set_option maxHeartbeats 8000000 in
theorem ok_mfirst (Z : Blt mg) (D__law_begun : Df P w K mg base 1 "_law_begun" ["_law_model"] (sp_mbegun K)) (G : GFun K mg "_law_first" s__law_first) : Df P w K mg base 2 "_law_first" ["_law_days", "_law_heaps"] (sp_mfirst K) := by
  refine Df.of G sc__law_first b__law_first (fun vs H Q E h => ?_) (fun f cdv A outer st H vs Q E hr h => ?_)
  · obtain ⟨a, b, ds, hs, rfl, _⟩ := h
    rfl
  · obtain ⟨a, b, ds, hs, rfl, ha, hb, O, q⟩ := h
    have o2 := O.two
    have o8 := O.eight
    have o1 := O.one
    have o12 := O.twelve
    have nn : ∀ x ∈ hs, 0 ≤ x := fun x hx => (O.hh x hx).1
    refine ⟨_, PSs.nox (pss_cons (ps_par (i := 2) (j := 3) rfl sc__law_first.nd rfl rfl (by decide) rfl rfl (pa_cons (pe_lst pa_nil) (pa_cons pe_int pa_nil)) (by rfl))
      (pss_cons (ps_for PassesOwn.never rfl (pi_tup (pv 1)) (pg_name (i := 4) sc__law_first.nd rfl (by first | exact Or.inl rfl | exact Or.inr rfl)) (pss_cons (ps_expr (pe_bm PySem.F.plainAttrs_list PySem.F.slot_list_append PySem.F.type_list_append mt_append (pv 2) (pa_cons (pe_listRg rfl (by rfl) Z.zlist (prg_2 (by rfl) Z.zrange (pv 3) (pe_op op_add (pv 3) (pv 4)))) pa_nil)))
          (pss_one (ps_set (i := 3) sc__law_first.nd rfl (by first | exact Or.inl rfl | exact Or.inr rfl) (pe_op op_add (pv 3) (pv 4))))))
      (pss_one (ps_ret (pg D__law_begun hr (pa_cons (pe_lst (pa_cons pe_int (pa_cons (pv 2) (pa_cons (pe_op op_rep (pe_lst (pa_cons pe_non pa_nil)) (pe_callB c_len (by rfl) Z.zlen PySem.boot_len (pa_cons (pv 0) pa_nil))) (pa_cons (pv 0) (pa_cons (pv 3) pa_nil)))))) pa_nil)))))), ?_⟩
    walk_at "g0"
    walk_at "go"
    rename_i l H1 nl e1 hl
    have hb1 := ex_t e1 hb
    walk_at "go"
    refine g_kForT hb1 (fun i σ H' => ∃ (lA : Nat → Addr) (v : Option V), σ = [some (.ref a), some (.ref b), some (.ref l), some (.int (hs.take i).sum), v] ∧ Ex H H' ∧ H' l = some (.lst (stV i lA)) ∧ ∀ j, j < i → lA j ≠ l ∧ H' (lA j) = some (.lst ((firstSt hs j).map V.int)))
      ⟨fun _ => 0, _, rfl, e1, hl, fun j hj => absurd hj (Nat.not_lt_zero j)⟩ (fun i σ H' _ hP => by
        obtain ⟨_, _, _, e, _⟩ := hP
        exact ex_t e hb) ?_ ?_
    · rintro i x σ H2 hx ⟨lA, v, rfl, e2, h2, hlA⟩
      have hil : i < ds.length := by
        have := (List.getElem?_eq_some_iff.mp hx).1
        rw [List.length_map, O.len] at this
        exact this
      have hB := (O.fH_at hil).2
      rw [(O.fH_at hil).1] at hx
      cases hx
      have htk : 0 ≤ (hs.take i).sum ∧ (hs.take i).sum ≤ 12 := by
        have h1 := first_len nn (k := i) (by rw [O.len]; omega)
        have h2 := (ScW.first0 O).few
        have h3 : sumN i (fun j => (firstSt hs j).length) ≤ sumN ds.length (fun j => (firstSt hs j).length) := by
          have : ∀ (n m : Nat) (f : Nat → Nat), n ≤ m → sumN n f ≤ sumN m f := fun n m f h => by
            induction h with
            | refl => exact Nat.le_refl _
            | step _ ih => rw [sumN_succ]; omega
          exact this _ _ _ (by omega)
        have h4 : sumN ds.length (fun j => (firstSt hs j).length) ≤ 12 := h2
        omega
      walk_at "go"
      refine g_kBM_list (SqL.of h2) ?_
      walk_at "go"
      refine g_rg2 ?_
      walk_at "go"
      refine ⟨_, _, rfl, rfl, g_kLRg (RgOk.of_le (by omega) (by omega) (by omega) (by omega)) fun D H8 nD e8 h8 => ?_⟩
      rw [frng_V] at h8
      have hp8 := e8 _ _ h2
      walk_at "go"
      refine g_append hp8 (lt1000 (by rw [stV_len]; omega)) fun H9 e9 h9 => ?_
      have h9 : H9 l = some (.lst (stV (i + 1) fun j => if j = i then D else lA j)) := by
        rw [h9]
        unfold stV
        rw [← mapV_next]
        refine congrArg (fun z => some (HO.lst z)) ?_
        congr 1
        · exact mapV_congr fun j hj => by
            dsimp only
            rw [if_neg (by omega)]
        · simp
      have nDl : D ≠ l := Ne.symm (ne_of_none h2 nD)
      walk_at "go"
      rw [← ftake nn (k := i) (by rw [O.len]; exact hil)]
      refine ⟨fun j => if j = i then D else lA j, _, rfl, Exb.ex nl (e2.trans e8) e9, h9, fun j hj => ?_⟩
      by_cases z : j = i
      · simp only [if_pos z]
        rw [z]
        exact ⟨nDl, e9 _ _ nDl h8⟩
      · simp only [if_neg z]
        obtain ⟨y1, y2⟩ := hlA j (by omega)
        exact ⟨y1, e9 _ _ y1 (e8 _ _ y2)⟩
    · rintro σ H2 ⟨lA, v, rfl, e2, h2, hlA⟩
      rw [List.length_map, O.len] at h2 hlA ⊢
      rw [show hs.take ds.length = hs by rw [← O.len, List.take_length]]
      have ha2 := ex_t e2 ha
      walk_at "go"
      rename_i l3 H3 n3 e3 h3
      refine g_repM h3 (by omega) fun el H4 n4 e4 h4 => ?_
      walk_at "go"
      rename_i m H5 n5 e5 h5
      have e25 := (e3.trans e4).trans e5
      have M : OM K H5 m ds.length (Sc.first0 ds hs) := ⟨l, el, a, lA, h5, e25 _ _ h2, by
          rw [e5 _ _ h4]
          refine congrArg (fun z => some (HO.lst z)) ?_
          show List.replicate ds.length V.non = (List.range ds.length).map fun _ => V.non
          rw [List.map_const', List.length_range], by
          have : spV ds.length (fun k => ds.getD k 0) = ds.map V.int := by
            unfold spV
            refine List.ext_getElem? fun j => ?_
            by_cases hj : j < ds.length
            · rw [mapV_at hj, List.getElem?_map, List.getElem?_eq_getElem hj]
              dsimp only
              rw [List.getD_eq_getElem?_getD, List.getElem?_eq_getElem hj]
              rfl
            · rw [List.getElem?_eq_none (by simp; omega), List.getElem?_eq_none (by simp; omega)]
          show SqT K H5 a (spV ds.length fun k => ds.getD k 0)
          rw [this]
          exact ex_t (e2.trans e25) ha, fun k hk => e25 _ _ (hlA k hk).2⟩
      refine ⟨m, ds.length, Sc.first0 ds hs, rfl, o8, fun k hk => (ScW.first0 O).len hk, M, fun m' H6 n6 e6 M6 => ?_⟩
      exact q m' H6 (fresh_back (e2.trans e25) n6) ((e2.trans e25).trans e6) M6
end
end G48

namespace G48
open PySem PySem.Spec PyProof.Rows L2 Evl
abbrev N__law_next : List Str := ["_law_model", "_law_day", "_law_stacks", "_law_ends", "_law_days", "_law_number", "_law_ended", "_law_when", "_law_k", "_law_book", "_law_stack"]
theorem sc__law_next : FnScope N__law_next ["_law_model"] (defScope s__law_next) := ⟨rfl, rfl, rfl, by decide +kernel, rfl, by decide +kernel, by decide +kernel⟩
theorem b__law_next : BindL "_law_next" "_law_next" s__law_next ["_law_model"] := fun _ _ _ _ _ _ us hl => match us, hl with | [_], _ => rfl
end G48
--lib Z
/-! the own model: the next day -/
namespace G48
open PySem PySem.Spec PyProof.Rows L2 Evl
/-! the steps -/
local macro_rules | `(tactic| walk_at "as") => `(tactic| with_reducible assumption)
local macro_rules | `(tactic| walk_at "hp") => `(tactic| first
  | with_reducible assumption
  | ((with_reducible apply SqT.of); walk_at "as")
  | ((with_reducible apply SqL.of); walk_at "as")
  | ((with_reducible apply ex_at); (focus walk_at "as"); walk_at "hp")
  | ((with_reducible apply ex_t); (focus walk_at "as"); walk_at "hp")
  | ((with_reducible apply ex_l); (focus walk_at "as"); walk_at "hp")
  | ((with_reducible apply exb_ins); (focus walk_at "as"); (focus walk_at "hp"); walk_at "hp")
  | ((with_reducible apply exb_t); (focus walk_at "as"); (focus walk_at "hp"); walk_at "hp")
  | ((with_reducible apply exb_at); (focus walk_at "as"); (focus walk_at "ne"); walk_at "hp")
  | ((with_reducible apply exb_l); (focus walk_at "as"); (focus walk_at "ne"); walk_at "hp"))
local macro_rules | `(tactic| walk_at "ne") => `(tactic| first
  | with_reducible assumption
  | exact Ne.symm (by with_reducible assumption)
  | exact ne_of_none (by with_reducible assumption) (by with_reducible assumption)
  | exact Ne.symm (ne_of_none (by with_reducible assumption) (by with_reducible assumption)))
local macro_rules | `(tactic| walk_at "tr") => `(tactic| first
  | rfl
  | with_reducible assumption
  | exact decide_eq_true (by first | with_reducible assumption | omega)
  | exact decide_eq_false (by first | with_reducible assumption | omega)
  | (rw [Bool.not_eq_true']; exact decide_eq_false (by first | with_reducible assumption | omega))
  | (rw [Bool.not_eq_false']; exact decide_eq_true (by first | with_reducible assumption | omega)))
local macro_rules | `(tactic| walk_at "nn") => `(tactic| first | with_reducible assumption | (exact List.cons_ne_nil _ _))
local macro_rules | `(tactic| walk_at "sz") => `(tactic| first | (exact sz1000 (Nat.le_of_ble_eq_true rfl)) | (refine sz1000 ?_; simp only [List.length_map, List.length_cons, List.length_nil, List.length_append]; omega) | with_reducible assumption)
local macro_rules | `(tactic| walk_at "sl") => `(tactic| first | with_reducible assumption | (refine lt1000 ?_; simp only [List.length_map, List.length_cons, List.length_nil, List.length_append]; omega) | (refine lt1000 ?_; omega))
local macro_rules | `(tactic| walk_at "ix") => `(tactic| first | rfl | with_reducible assumption)
local macro_rules | `(tactic| walk_at "rg") => `(tactic| exact RgOk.of_le (by omega) (by omega) (by omega) (by omega))
local macro_rules | `(tactic| walk_at "sp") => `(tactic| fail "sp")
local macro_rules | `(tactic| walk_at "cl") => `(tactic| with_reducible assumption)
local macro_rules | `(tactic| walk_at "lk") => `(tactic| with_reducible assumption)
local macro_rules | `(tactic| walk_at "it") => `(tactic| first | rfl | with_reducible assumption | exact atI_nat (by with_reducible assumption))
local macro_rules | `(tactic| walk_at "g1") => `(tactic| first
  | (with_reducible apply g_var); (focus rfl)
  | with_reducible apply g_c
  | with_reducible apply g_seq
  | with_reducible apply g_asg
  | with_reducible apply gg_name
  | with_reducible apply g_op
  | with_reducible apply g_cons
  | with_reducible apply g_nil
  | with_reducible apply g_cb
  | with_reducible apply g_fld
  | ((with_reducible apply g_kFld); (focus walk_at "hp"); (focus walk_at "cl"); (focus walk_at "cl"); (focus walk_at "lk"))
  | with_reducible apply g_call
  | walk_at "sp"
  | with_reducible apply g_ret
  | with_reducible apply g_drop
  | with_reducible apply g_test
  | with_reducible apply g_B
  | with_reducible apply g_kTest
  | with_reducible apply g_ifS
  | with_reducible apply g_kIfST
  | with_reducible apply g_kIfSF
  | with_reducible apply g_add
  | with_reducible apply g_sub
  | with_reducible apply g_lt
  | with_reducible apply g_le
  | with_reducible apply g_gt
  | with_reducible apply g_ge
  | with_reducible apply g_eqI
  | with_reducible apply g_neI
  | ((with_reducible apply g_mod); (focus first | decide | omega))
  | ((with_reducible apply g_mul); (focus first | (left; constructor <;> omega) | (right; constructor <;> omega)))
  | ((with_reducible apply g_fdiv); (focus (constructor <;> omega)))
  | ((with_reducible apply g_ixT); (focus walk_at "hp"); (focus walk_at "it"))
  | ((with_reducible apply g_ixL); (focus walk_at "hp"); (focus walk_at "it"))
  | with_reducible apply g_and
  | with_reducible apply g_or
  | with_reducible apply g_not
  | with_reducible apply g_kNotT
  | with_reducible apply g_kNotF
  | with_reducible apply g_if
  | with_reducible apply g_kAndT
  | with_reducible apply g_kAndF
  | with_reducible apply g_kOrT
  | with_reducible apply g_kOrF
  | with_reducible apply g_kIfT
  | with_reducible apply g_kIfF
  | with_reducible apply g_next
  | with_reducible apply g_andV
  | with_reducible apply g_orV
  | with_reducible apply g_notV
  | with_reducible apply g_kNotV
  | with_reducible apply g_kAndVT
  | with_reducible apply g_kAndVF
  | with_reducible apply g_chain
  | with_reducible apply g_kChainT
  | with_reducible apply g_kChainF
  | with_reducible apply g_tup
  | with_reducible apply g_lst
  | ((with_reducible apply g_kT); (focus walk_at "sz"); intro _ _ _ _ _)
  | ((with_reducible apply g_kL); (focus walk_at "sz"); intro _ _ _ _ _)
  | with_reducible apply g_un
  | with_reducible apply g_neg
  | with_reducible apply g_meth
  | ((with_reducible apply g_kMeth); (focus walk_at "hp"); (focus walk_at "lk"))
  | with_reducible apply g_prop
  | ((with_reducible apply g_kProp); (focus walk_at "hp"))
  | with_reducible apply g_make
  | with_reducible apply g_par
  | with_reducible apply g_kPar
  | ((with_reducible apply g_lenLM); (focus walk_at "hp"))
  | ((with_reducible apply g_lenTM); (focus walk_at "hp"))
  | ((with_reducible apply g_lenL); (focus walk_at "hp"))
  | ((with_reducible apply g_lenT); (focus walk_at "hp"))
  | with_reducible apply g_int1
  | with_reducible apply g_max2
  | with_reducible apply g_min2
  | ((with_reducible apply g_listL); (focus walk_at "hp"); intro _ _ _ _ _)
  | ((with_reducible apply g_listT); (focus walk_at "hp"); intro _ _ _ _ _)
  | ((with_reducible apply g_tupL); (focus walk_at "hp"); intro _ _ _ _ _)
  | ((with_reducible apply g_sum); (focus walk_at "hp"))
  | with_reducible apply g_sfld
  | with_reducible apply g_sl
  | with_reducible apply g_nopart
  | with_reducible apply g_part
  | with_reducible apply g_kPart
  | with_reducible apply g_lstRg
  | with_reducible apply g_rg1
  | with_reducible apply g_kRg1
  | with_reducible apply g_bm
  | with_reducible apply gg_sub
  | ((with_reducible apply gg_tup); (focus walk_at "hp"); (focus rfl))
  | with_reducible apply gg_cons
  | with_reducible apply gg_nil
  | with_reducible apply g_forL
  | with_reducible apply g_forT
  | with_reducible apply g_forR1
  | with_reducible apply g_forR2
  | with_reducible apply g_forE
  | with_reducible apply g_forEL
  | ((with_reducible apply g_maxT); (focus walk_at "hp"); (focus walk_at "nn"))
  | ((with_reducible apply g_maxL); (focus walk_at "hp"); (focus walk_at "nn"))
  | ((with_reducible apply g_catA); (focus walk_at "hp"); (focus walk_at "hp"); (focus walk_at "sz"); intro _ _ _ _)
  | ((with_reducible apply g_slA); (focus walk_at "hp"); intro _ _ _ _)
  | ((with_reducible apply g_tupD); (focus walk_at "hp"); intro _ _ _ _ _)
  | ((with_reducible apply g_setL); (focus walk_at "hp"); (focus walk_at "ix"); intro _ _ _)
  | ((with_reducible apply g_append); (focus walk_at "hp"); (focus walk_at "sl"); intro _ _ _)
  | ((with_reducible apply g_aug); (focus rfl))
  | with_reducible apply g_ipI
  | with_reducible apply g_retN
  | with_reducible apply g_lcR1
  | with_reducible apply g_lcR2
  | with_reducible apply g_lcL
  | with_reducible apply g_lcU
  | with_reducible apply g_lcN
  | ((with_reducible apply g_kLcG); (focus rfl))
  | with_reducible apply g_yes
  | with_reducible apply g_kLcTT
  | with_reducible apply g_kLcTF
  | ((with_reducible apply g_kLcE); (focus walk_at "hp"); (focus walk_at "sl"); intro _ _ _)
  | ((with_reducible apply g_pow); (focus (constructor <;> (try constructor) <;> decide)))
  | ((with_reducible apply g_kLRg); (focus walk_at "rg"); intro _ _ _ _ _)
  | ((with_reducible apply g_cat); (focus walk_at "hp"); (focus walk_at "hp"); (focus walk_at "sz"); intro _ _ _ _ _)
  | ((with_reducible apply g_slL); (focus walk_at "hp"); intro _ _ _ _ _)
  | with_reducible apply g_bmT
  | with_reducible apply g_break
  | with_reducible apply g_cont)
local macro_rules | `(tactic| walk_at "g0") => `(tactic| try dsimp only [L2.cxOf, L2.Cx.nox, L2.Cx.wish])
local macro_rules | `(tactic| walk_at "yn") => `(tactic| first
  | ((with_reducible apply y_kIfS); (focus walk_at "tr"))
  | ((with_reducible apply n_kIfS); (focus walk_at "tr"))
  | ((with_reducible apply y_kOr); (focus walk_at "tr"))
  | ((with_reducible apply n_kOr); (focus walk_at "tr"))
  | ((with_reducible apply y_kAnd); (focus walk_at "tr"))
  | ((with_reducible apply n_kAnd); (focus walk_at "tr"))
  | ((with_reducible apply y_kNot); (focus walk_at "tr"))
  | ((with_reducible apply n_kNot); (focus walk_at "tr"))
  | ((with_reducible apply y_kIf); (focus walk_at "tr"))
  | ((with_reducible apply n_kIf); (focus walk_at "tr"))
  | ((with_reducible apply y_kAndV); (focus walk_at "tr"))
  | ((with_reducible apply n_kAndV); (focus walk_at "tr"))
  | ((with_reducible apply y_kOrV); (focus walk_at "tr"))
  | ((with_reducible apply n_kOrV); (focus walk_at "tr"))
  | ((with_reducible apply y_kChain); (focus walk_at "tr"))
  | ((with_reducible apply n_kChain); (focus walk_at "tr"))
  | ((with_reducible apply y_kLcT); (focus walk_at "tr"))
  | ((with_reducible apply n_kLcT); (focus walk_at "tr"))
  | ((with_reducible apply y_kWh); (focus walk_at "tr"))
  | ((with_reducible apply n_kWh); (focus walk_at "tr")))
local macro_rules | `(tactic| walk_at "go") => `(tactic| repeat (first | walk_at "g1" | walk_at "yn"))
local macro_rules | `(tactic| walk_at "hp") => `(tactic| first
  | ((with_reducible apply RingIn.ex); (focus walk_at "as"); walk_at "hp")
  | ((with_reducible apply RingAt.ex); (focus walk_at "as"); walk_at "hp")
  | ((with_reducible apply RingIn.exb); (focus walk_at "as"); (focus walk_at "hp"); walk_at "hp")
  | ((with_reducible apply RingAt.exb); (focus walk_at "as"); (focus walk_at "hp"); walk_at "hp")
  | ((with_reducible apply TupK.ex); (focus walk_at "as"); walk_at "hp")
  | ((with_reducible apply TupK.exb); (focus walk_at "as"); (focus walk_at "hp"); walk_at "hp"))
local macro_rules | `(tactic| walk_at "lk") => `(tactic| first | with_reducible exact rf_spans | with_reducible exact rf_heaps | with_reducible exact rf_total | with_reducible exact rf_nr | with_reducible exact rf_wd)
local macro_rules | `(tactic| walk_at "sp") => `(tactic| first
  | ((with_reducible apply g_isiTup); (focus walk_at "hp"))
  | ((with_reducible apply g_isiLst); (focus walk_at "hp"))
  | ((with_reducible apply g_isint); (focus omega); (focus omega))
  | ((with_reducible apply g_checkn); (focus omega); (focus omega))
  | ((with_reducible apply g_rbooks); (focus walk_at "hp"))
  | ((with_reducible apply g_rpace); (focus walk_at "hp"); intro _ _ _ _)
  | ((with_reducible apply g_rlen); (focus walk_at "hp"))
  | ((with_reducible apply g_rneed); (focus walk_at "hp"); (focus omega))
  | ((with_reducible apply g_rneedM); (focus walk_at "hp"))
  | ((with_reducible apply g_rwithM); (focus walk_at "hp"))
  | ((with_reducible apply g_rspans); (focus walk_at "hp"); (focus with_reducible assumption))
  | ((with_reducible apply g_rheaps); (focus walk_at "hp"); (focus with_reducible assumption))
  | ((with_reducible apply g_rtotal); (focus walk_at "hp"); (focus with_reducible assumption)))

local macro_rules | `(tactic| walk_at "sp") => `(tactic| first
  | ((with_reducible apply g_taken); (focus walk_at "hp"); (focus first | decide | omega); (focus first | decide | omega); intro _ _ _ _ _ _))
local macro_rules | `(tactic| walk_at "hp") => `(tactic| first
  | ((with_reducible apply DiceAt.ex); (focus walk_at "as"); walk_at "hp")
  | ((with_reducible apply exb_tD); (focus walk_at "as"); (focus walk_at "hp"); walk_at "hp")
  | ((with_reducible apply exb_insD); (focus walk_at "as"); (focus walk_at "hp"); walk_at "hp")
  | ((with_reducible apply RingIn.exD); (focus walk_at "as"); (focus walk_at "hp"); walk_at "hp")
  | ((with_reducible apply TupK.exD); (focus walk_at "as"); (focus walk_at "hp"); walk_at "hp"))

local macro_rules | `(tactic| walk_at "g1") => `(tactic| ((with_reducible apply gg_unl); (focus walk_at "hp"); (focus rfl)))
/-- fresh stacks at D, ends at E -/
def LS (H0 H' : Hp) (D E : Addr) (N : Nat) (st : Nat → List Int) (en : Nat → Option Int) (fA : Nat → Addr) : Prop := H' D = some (.lst (stV N fA)) ∧ H' E = some (.lst (enV N en)) ∧ (∀ j, j < N → H0 (fA j) = none ∧ fA j ≠ D ∧ fA j ≠ E ∧ H' (fA j) = some (.lst ((st j).map V.int))) ∧ ∀ i j, i < N → j < N → fA i = fA j → i = j
theorem LS.ex {H0 H1 H2 : Hp} {D E : Addr} {N : Nat} {st : Nat → List Int} {en : Nat → Option Int} {fA : Nat → Addr} (e : Ex H1 H2) (h : LS H0 H1 D E N st en fA) : LS H0 H2 D E N st en fA :=
  ⟨e _ _ h.1, e _ _ h.2.1, fun j hj => let ⟨a, b, c, d⟩ := h.2.2.1 j hj; ⟨a, b, c, e _ _ d⟩, h.2.2.2⟩
theorem LS.congr {H0 H1 : Hp} {D E : Addr} {N : Nat} {st st' : Nat → List Int} {en en' : Nat → Option Int} {fA : Nat → Addr} (h : LS H0 H1 D E N st en fA) (h1 : ∀ j, j < N → st' j = st j) (h2 : ∀ j, j < N → en' j = en j) : LS H0 H1 D E N st' en' fA :=
  ⟨h.1, by rw [enV_congr h2]; exact h.2.1, fun j hj => by rw [h1 j hj]; exact h.2.2.1 j hj, h.2.2.2⟩
section
variable {P : Program} {w : World} {K : PySem.W.Frag} {mg : Str → Option Value} {base : Heap} {C : Addr}
def sp_mnext (K : PySem.W.Frag) : Sp := fun vs H Q _ => ∃ (m : Addr) (N : Nat) (s : Sc), vs = [.ref m] ∧ ScOk N s ∧ OM K H m N s ∧
  ∀ p m' l zs H', H p = none → Ex H H' → H' p = some (.tup [.ref m', .ref l]) → OM K H' m' N (s.next N) → H' l = some (.lst zs) → Ent K H' zs (s.ended N) → Q (.ref p) H'
set_option maxHeartbeats 16000000 in
theorem ok_mnext (Z : Blt mg) (D__law_begun : Df P w K mg base 1 "_law_begun" ["_law_model"] (sp_mbegun K)) (G : GFun K mg "_law_next" s__law_next) : Df P w K mg base 2 "_law_next" ["_law_model"] (sp_mnext K) := by
  refine Df.of G sc__law_next b__law_next (fun vs H Q E h => ?_) (fun f cdv A outer st H vs Q E hr h => ?_)
  · obtain ⟨m, N, s, rfl, _⟩ := h
    rfl
  · obtain ⟨m, N, s, rfl, W, M, q⟩ := h
    have o2 := W.two
    have o8 := W.eight
    obtain ⟨sl, el, da, lA, hm, hsl, hel, hda, hl⟩ := M.obj
    refine ⟨_, PSs.nox (pss_cons (ps_asg (pv 0) (pg_unl rfl (pgs_cons (pg_name (i := 1) sc__law_next.nd rfl (by first | exact Or.inl rfl | exact Or.inr rfl)) (pgs_cons (pg_name (i := 2) sc__law_next.nd rfl (by first | exact Or.inl rfl | exact Or.inr rfl)) (pgs_cons (pg_name (i := 3) sc__law_next.nd rfl (by first | exact Or.inl rfl | exact Or.inr rfl)) (pgs_cons (pg_name (i := 4) sc__law_next.nd rfl (by first | exact Or.inl rfl | exact Or.inr rfl)) (pgs_cons (pg_name (i := 5) sc__law_next.nd rfl (by first | exact Or.inl rfl | exact Or.inr rfl)) pgs_nil)))))))
      (pss_cons (ps_asg (pe_tup (pa_cons (pe_lc (own := [("_law_stack", 10)]) rfl sc__law_next.nd (pi_list (pv 2)) (blkOk_by (N := N__law_next) (sc := defScope s__law_next) (by decide +kernel)) (fun _ _ _ _ _ => (pg_name (i := 10) sc__law_next.nd rfl (by first | exact Or.inl rfl | exact Or.inr rfl))) (fun _ _ _ _ _ => pts_nil) (fun _ _ _ _ _ => (pe_callTy (c_list_ofK K) (by rfl) Z.zlist (by decide +kernel) (pa_cons (pv 10) pa_nil)))) (pa_cons (pe_callTy c_list_of (by rfl) Z.zlist (by decide +kernel) (pa_cons (pv 3) pa_nil)) pa_nil))) (pg_tup (by rfl) (pgs_cons (pg_name (i := 2) sc__law_next.nd rfl (by first | exact Or.inl rfl | exact Or.inr rfl)) (pgs_cons (pg_name (i := 3) sc__law_next.nd rfl (by first | exact Or.inl rfl | exact Or.inr rfl)) pgs_nil))))
      (pss_cons (ps_setLc (i := 6) (own := [("_law_k", 8)]) rfl sc__law_next.nd rfl rfl (sw_true rfl rfl rfl (by decide +kernel)) (pi_range1 (by rfl) Z.zrange (pa_cons (pe_callB c_len (by rfl) Z.zlen PySem.boot_len (pa_cons (pv 4) pa_nil)) pa_nil)) (blkOk_by (N := N__law_next) (sc := defScope s__law_next) (by decide +kernel)) (fun _ _ _ _ _ => (pg_name (i := 8) sc__law_next.nd rfl (by first | exact Or.inl rfl | exact Or.inr rfl))) (fun _ _ _ _ _ => (pts_one (pt_cmpR (op_eqDK K hr.units) (pe_ix (ix_listK K) (pv 3) (pv 8) (fun _ _ => rfl)) (pe_op op_add (pv 1) pe_int) (nomark _)))) (fun _ _ _ _ _ => (pe_tup (pa_cons (pe_op op_add (pv 1) pe_int) (pa_cons (pv 8) (pa_cons (pe_ix (ix_listK K) (pe_ix (ix_listK K) (pv 2) (pv 8) (fun _ _ => rfl)) pe_int (fun _ _ => rfl)) pa_nil))))))
      (pss_cons (ps_for PassesOwn.never rfl (pi_list (pv 6)) (pg_tup (by rfl) (pgs_cons (pg_name (i := 7) sc__law_next.nd rfl (by first | exact Or.inl rfl | exact Or.inr rfl)) (pgs_cons (pg_name (i := 8) sc__law_next.nd rfl (by first | exact Or.inl rfl | exact Or.inr rfl)) (pgs_cons (pg_name (i := 9) sc__law_next.nd rfl (by first | exact Or.inl rfl | exact Or.inr rfl)) pgs_nil)))) (pss_one (ps_asg (pe_tup (pa_cons (pe_slice sl_list (pe_ix ix_list (pv 2) (pv 8) (fun _ _ => rfl)) (po_some pe_int) po_none) (pa_cons pe_non pa_nil))) (pg_tup (by rfl) (pgs_cons (pg_sub (pv 2) (pv 8) set_list) (pgs_cons (pg_sub (pv 3) (pv 8) set_list) pgs_nil))))))
      (pss_cons (ps_for PassesOwn.never rfl (pi_list (pv 6)) (pg_tup (by rfl) (pgs_cons (pg_name (i := 7) sc__law_next.nd rfl (by first | exact Or.inl rfl | exact Or.inr rfl)) (pgs_cons (pg_name (i := 8) sc__law_next.nd rfl (by first | exact Or.inl rfl | exact Or.inr rfl)) (pgs_cons (pg_name (i := 9) sc__law_next.nd rfl (by first | exact Or.inl rfl | exact Or.inr rfl)) pgs_nil)))) (pss_one (ps_expr (pe_bm PySem.F.plainAttrs_list PySem.F.slot_list_append PySem.F.type_list_append mt_append (pe_ix ix_list (pv 2) (pe_op op_mod (pe_callTy c_int1 (by rfl) Z.zint (by decide +kernel) (pa_cons (pe_op op_add (pv 8) pe_int) pa_nil)) (pe_callB c_len (by rfl) Z.zlen PySem.boot_len (pa_cons (pv 4) pa_nil))) (fun _ _ => rfl)) (pa_cons (pv 9) pa_nil)))))
      (pss_one (ps_ret (pe_tup (pa_cons (pg D__law_begun hr (pa_cons (pe_lst (pa_cons (pe_op op_add (pv 1) pe_int) (pa_cons (pv 2) (pa_cons (pv 3) (pa_cons (pv 4) (pa_cons (pv 5) pa_nil)))))) pa_nil)) (pa_cons (pv 6) pa_nil)))))))))), ?_⟩
    walk_at "g0"
    walk_at "go"
    refine g_kLcL (SqL.of hsl) (fun D i H' => ∃ fA : Nat → Addr, Ex H H' ∧ H' D = some (.lst (stV i fA)) ∧ (∀ j, j < i → H (fA j) = none ∧ fA j ≠ D ∧ H' (fA j) = some (.lst ((s.st j).map V.int))) ∧ ∀ a b, a < i → b < i → fA a = fA b → a = b)
      (fun D H1 nD e1 hD => ⟨fun _ => 0, e1, hD, fun j hj => absurd hj (Nat.not_lt_zero j), fun j k hj => absurd hj (Nat.not_lt_zero j)⟩) (fun D i H1 nD _ hP => by
        obtain ⟨_, e, _⟩ := hP
        exact SqL.of (e _ _ hsl)) ?_ ?_
    · rintro D i x H1 nD hx ⟨fA, e1, hD, hfA, hinj⟩
      have hi : i < N := by
        have := (List.getElem?_eq_some_iff.mp hx).1
        rw [stV_len] at this
        exact this
      rw [show (stV N lA)[i]? = some (.ref (lA i)) from mapV_at hi] at hx
      cases hx
      have hli := e1 _ _ (hl i hi)
      walk_at "go"
      rename_i q1 H2 nq e2 hq
      have hD2 := e2 _ _ hD
      have nqD : q1 ≠ D := Ne.symm (ne_of_none hD nq)
      refine g_kLcE hD2 (lt1000 (by rw [stV_len]; omega)) fun H3 e3 h3 => ⟨fun j => if j = i then q1 else fA j, Exb.ex nD (e1.trans e2) e3, ?_, fun j hj => ?_, fun a b ha hb hab => ?_⟩
      · rw [h3]
        unfold stV
        rw [← mapV_next]
        refine congrArg (fun z => some (HO.lst z)) ?_
        congr 1
        · exact mapV_congr fun j hj => by
            dsimp only
            rw [if_neg (by omega)]
        · simp
      · by_cases z : j = i
        · simp only [if_pos z]
          rw [z]
          exact ⟨fresh_back e1 nq, nqD, e3 _ _ nqD hq⟩
        · simp only [if_neg z]
          obtain ⟨y1, y2, y3⟩ := hfA j (by omega)
          exact ⟨y1, y2, e3 _ _ y2 (e2 _ _ y3)⟩
      · by_cases z : a = i
        · by_cases z2 : b = i
          · omega
          · simp only [if_pos z, if_neg z2] at hab
            obtain ⟨_, _, y3⟩ := hfA b (by omega)
            rw [← hab, nq] at y3
            cases y3
        · by_cases z2 : b = i
          · simp only [if_neg z, if_pos z2] at hab
            obtain ⟨_, _, y3⟩ := hfA a (by omega)
            rw [hab, nq] at y3
            cases y3
          · simp only [if_neg z, if_neg z2] at hab
            exact hinj a b (by omega) (by omega) hab
    · rintro D H1 nD ⟨fA, e1, hD, hfA, hinj⟩
      rw [stV_len] at hD hfA hinj
      have hel1 := e1 _ _ hel
      walk_at "go"
      rename_i E H2 nE e2 hE T H3 nT e3 hT
      have e13 := (e1.trans e2).trans e3
      have L3 : LS H H3 D E N s.st s.en fA := ⟨(e2.trans e3) _ _ hD, e3 _ _ hE, fun j hj => let ⟨a, b, c⟩ := hfA j hj; ⟨a, b, (fun z => by rw [z, nE] at c; cases c), (e2.trans e3) _ _ c⟩, hinj⟩
      have hda3 := ex_t e13 hda
      have nDE : D ≠ E := ne_of_none hD nE
      have nE0 : H E = none := fresh_back e1 nE
      clear hT nT e2 e3 hE hD hfA hinj hel1 nE e1
      walk_at "go"
      rw [spV_len]
      let endF : Nat → List (Int × Int × Int) := fun i => (s.dueK i).map fun (k : Nat) => (s.day + 1, (k : Int), (s.st k).headD 0)
      refine g_kLcR1 ⟨by omega, by omega⟩ (fun L i H' => ∃ zs : List V, Ex H3 H' ∧ H' L = some (.lst zs) ∧ Ent K H' zs (endF i)) (fun L H4 nL e4 hL => ⟨[], e4, hL, Ent.nil⟩) ?_ ?_
      · rintro L i H4 nL hi ⟨zs, e4, hL, hz⟩
        have hi' : i < N := by omega
        obtain ⟨hD4, hE4, hf4, _⟩ := L3.ex e4
        have ae : (enV N s.en)[i]? = some (oV (s.en i)) := mapV_at hi'
        have as : (stV N fA)[i]? = some (.ref (fA i)) := mapV_at hi'
        have hli4 := (hf4 i hi').2.2.2
        walk_at "go"
        refine g_eqOI ?_
        by_cases hd : s.due i
        · have hd' : s.en i = some (s.day + 1) := hd
          rw [decide_eq_true hd']
          obtain ⟨b, t, hb, hbt⟩ := W.head hi' hd
          rw [hb] at hli4
          walk_at "go"
          refine g_ixL (SqL.of hli4) (v := .int b) (show atI _ ((0 : Nat) : Int) = some _ from atI_nat rfl) ?_
          walk_at "go"
          rename_i q5 H5 n5 e5 h5
          have hzl : zs.length ≤ N := by
            rw [hz.1]
            show ((s.dueK i).map _).length ≤ N
            rw [List.length_map]
            exact Nat.le_trans ended_nodup (by omega)
          refine g_kLcE (e5 _ _ hL) (lt1000 (by omega)) fun H6 e6 h6 => ⟨_, Exb.ex nL (e4.trans e5) e6, h6, ?_⟩
          show Ent K H6 _ ((s.dueK (i + 1)).map _)
          rw [dueK_yes hd, List.map_append]
          refine ((hz.ex e5).exb e6 (e5 _ _ hL)).snoc ?_
          show SqT K H6 q5 [.int (s.day + 1), .int (i : Int), .int ((s.st i).headD 0)]
          rw [show (s.st i).headD 0 = b by rw [hb]; rfl]
          exact exb_t e6 (e5 _ _ hL) (SqT.of h5)
        · rw [decide_eq_false (show ¬ s.en i = some (s.day + 1) from hd)]
          walk_at "go"
          refine ⟨zs, e4, hL, ?_⟩
          show Ent K H4 zs ((s.dueK (i + 1)).map _)
          rw [dueK_no hd]
          exact hz
      · rintro L H4 nL ⟨zs, e4, hL, hz⟩
        rw [Int.toNat_natCast] at hz
        have hz : Ent K H4 zs (s.ended N) := hz
        have hzN : zs.length = (s.dueK N).length := by rw [hz.1]; exact List.length_map _
        have L4 := L3.ex e4
        have e04 := e13.trans e4
        have nL0 : H L = none := fresh_back e13 nL
        have nLD : L ≠ D := fun z => by rw [z, L3.1] at nL; cases nL
        have nLE : L ≠ E := fun z => by rw [z, L3.2.1] at nL; cases nL
        have nLf : ∀ j, j < N → L ≠ fA j := fun j hj z => by rw [z, (L3.2.2.1 j hj).2.2.2] at nL; cases nL
        clear L3 e13 e4 hda3 nL
        walk_at "go"
        have tkn : ∀ i k, (s.dueK N)[i]? = some k → k < N ∧ s.due k ∧ k ∉ (s.dueK N).take i ∧ (s.dueK N).take (i + 1) = (s.dueK N).take i ++ [k] := fun i k hk => by
          obtain ⟨hkl, hkd⟩ := Sc.mem_due.mp (List.mem_of_getElem? hk)
          refine ⟨hkl, hkd, fun z => ?_, ?_⟩
          · obtain ⟨hm, e⟩ := List.getElem?_eq_some_iff.mp hk
            obtain ⟨j, hj, hjk⟩ := List.getElem_of_mem z
            rw [List.getElem_take] at hjk
            rw [List.length_take] at hj
            exact List.pairwise_iff_getElem.mp Sc.due_nodup j i (by omega) hm (by omega) (by rw [hjk, e])
          · obtain ⟨hm, e⟩ := List.getElem?_eq_some_iff.mp hk
            rw [← List.take_append_getElem hm, e]
        let stA : Nat → Nat → List Int := fun i j => if j ∈ (s.dueK N).take i then (s.st j).tail else s.st j
        let enA : Nat → Nat → Option Int := fun i j => if j ∈ (s.dueK N).take i then none else s.en j
        have stl : ∀ i j, j < N → (stA i j).length ≤ 12 := fun i j hj => by
          have := W.toScW.len hj
          show (if j ∈ (s.dueK N).take i then (s.st j).tail else s.st j).length ≤ 12
          split
          · rw [List.length_tail]; omega
          · exact this
        refine g_kForL (SqL.of hL) (fun i σ H' => ∃ (fB : Nat → Addr) (v7 v8 v9 v10 : Option V), σ = [some (.ref m), some (.int s.day), some (.ref D), some (.ref E), some (.ref da), some (.int s.nb), some (.ref L), v7, v8, v9, v10] ∧ Ex H H' ∧ H' L = some (.lst zs) ∧ Ent K H' zs (s.ended N) ∧
            LS H H' D E N (stA i) (enA i) fB ∧ ∀ j, j < N → L ≠ fB j)
          ⟨fA, _, _, _, _, rfl, e04, hL, hz, L4.congr (fun j _ => if_neg (by rw [List.take_zero]; exact List.not_mem_nil)) (fun j _ => if_neg (by rw [List.take_zero]; exact List.not_mem_nil)), nLf⟩ (fun i σ H' _ hP => by
            obtain ⟨_, _, _, _, _, _, _, h, _⟩ := hP
            exact SqL.of h) ?_ ?_
        · rintro i x σ H5 hx ⟨fB, v7, v8, v9, v10, rfl, e5, hL5, hz5, L5, nLB⟩
          have hml := (List.getElem?_eq_some_iff.mp hx).1
          obtain ⟨k, hk⟩ : ∃ k, (s.dueK N)[i]? = some k := ⟨_, List.getElem?_eq_getElem (by omega)⟩
          have hen : (s.ended N)[i]? = some (s.day + 1, (k : Int), (s.st k).headD 0) := by
            show ((s.dueK N).map _)[i]? = _
            rw [List.getElem?_map, hk]
            rfl
          obtain ⟨p, hp1, hp2⟩ := hz5.2 i _ hen
          rw [hx] at hp1
          cases hp1
          have hp2 : SqT K H5 p [.int (s.day + 1), .int (k : Int), .int ((s.st k).headD 0)] := hp2
          obtain ⟨hkl, hkd, hnot, htk⟩ := tkn i k hk
          obtain ⟨hD5, hE5, hf5, hinj5⟩ := id L5
          have as : (stV N fB)[k]? = some (.ref (fB k)) := mapV_at hkl
          have hk5 := (hf5 k hkl).2.2.2
          have sk : stA i k = s.st k := if_neg hnot
          rw [sk] at hk5
          have hixD : ixN (stV N fB).length (k : Int) = some k := by
            unfold ixN
            rw [stV_len, if_pos (by omega), if_pos (by omega), Int.toNat_natCast]
          have hixE : ixN (enV N (enA i)).length (k : Int) = some k := by
            unfold ixN
            rw [enV_len, if_pos (by omega), if_pos (by omega), Int.toNat_natCast]
          refine gg_tup hp2 rfl ?_
          walk_at "go"
          rename_i q6 H6 n6 e6 h6 T H7 n7 e7 hT H8 e8 h8 H9 e9 h9
          have e57 := e6.trans e7
          have ecut : cutV ((s.st k).map V.int) (some 1) none = (s.st k).tail.map V.int := by
            unfold cutV
            rw [show (some (1 : Int)) = some ((1 : Nat) : Int) from rfl, HT.sIx_none, HT.sIx_nat, List.length_map]
            by_cases z : 1 ≤ (s.st k).length
            · rw [Nat.min_eq_left z, List.take_of_length_le (by rw [List.length_drop, List.length_map]; omega), ← List.map_drop, List.drop_one]
            · have : s.st k = [] := List.eq_nil_of_length_eq_zero (by omega)
              rw [this]
              rfl
          rw [ecut] at h6
          have nqD : q6 ≠ D := fun z => by rw [z, hD5] at n6; cases n6
          have nqE : q6 ≠ E := fun z => by rw [z, hE5] at n6; cases n6
          have nqL : L ≠ q6 := fun z => by rw [← z, hL5] at n6; cases n6
          have nqf : ∀ j, j < N → fB j ≠ q6 := fun j hj z => by have := (hf5 j hj).2.2.2; rw [z, n6] at this; cases this
          have hD7 := e57 _ _ hD5
          have hE8 := e8 _ _ (Ne.symm nDE) (e57 _ _ hE5)
          have mem1 : ∀ j, (j ∈ (s.dueK N).take (i + 1)) = (j = k ∨ j ∈ (s.dueK N).take i) := fun j => by
            rw [htk, eq_iff_iff, List.mem_append, List.mem_singleton]
            exact ⟨fun h => h.elim .inr .inl, fun h => h.elim .inr .inl⟩
          refine ⟨fun j => if j = k then q6 else fB j, _, _, _, _, rfl, Exb.ex nE0 (Exb.ex nD (e5.trans e57) e8) e9, e9 _ _ nLE (e8 _ _ nLD (e57 _ _ hL5)), ((hz5.ex e57).exb e8 hD7).exb e9 hE8, ⟨?_, ?_, fun j hj => ?_, fun a b ha hb hab => ?_⟩, fun j hj => ?_⟩
          · rw [e9 _ _ nDE h8]
            refine congrArg (fun z => some (HO.lst z)) ?_
            unfold stV
            rw [mapV_set]
            refine mapV_congr fun j _ => ?_
            dsimp only
            by_cases z : j = k
            · rw [if_pos z, if_pos z]
            · rw [if_neg z, if_neg z]
          · rw [h9]
            refine congrArg (fun z => some (HO.lst z)) ?_
            unfold enV
            rw [mapV_set]
            refine mapV_congr fun j _ => ?_
            show (if j = k then V.non else oV (if j ∈ (s.dueK N).take i then none else s.en j)) = oV (if j ∈ (s.dueK N).take (i + 1) then none else s.en j)
            simp only [mem1]
            by_cases z : j = k
            · rw [if_pos z, if_pos (.inl z)]
              rfl
            · rw [if_neg z]
              by_cases y : j ∈ (s.dueK N).take i
              · rw [if_pos y, if_pos (.inr y)]
              · rw [if_neg y, if_neg (fun u => u.elim z y)]
          · by_cases z : j = k
            · simp only [if_pos z]
              refine ⟨fresh_back e5 n6, nqD, nqE, ?_⟩
              rw [e9 _ _ nqE (e8 _ _ nqD (e7 _ _ h6))]
              show _ = some (HO.lst ((if j ∈ (s.dueK N).take (i + 1) then (s.st j).tail else s.st j).map V.int))
              rw [if_pos (by rw [mem1]; exact .inl z), z]
            · simp only [if_neg z]
              obtain ⟨y1, y2, y3, y4⟩ := hf5 j hj
              refine ⟨y1, y2, y3, ?_⟩
              rw [e9 _ _ y3 (e8 _ _ y2 (e57 _ _ y4))]
              show some (HO.lst ((if j ∈ (s.dueK N).take i then (s.st j).tail else s.st j).map V.int)) = some (HO.lst ((if j ∈ (s.dueK N).take (i + 1) then (s.st j).tail else s.st j).map V.int))
              have : (j ∈ (s.dueK N).take (i + 1)) = (j ∈ (s.dueK N).take i) := by rw [mem1, eq_iff_iff]; exact ⟨fun h => h.elim (fun u => absurd u z) id, .inr⟩
              simp only [this]
          · by_cases z : a = k
            · by_cases z2 : b = k
              · omega
              · simp only [if_pos z, if_neg z2] at hab
                exact absurd hab.symm (nqf b hb)
            · by_cases z2 : b = k
              · simp only [if_neg z, if_pos z2] at hab
                exact absurd hab (nqf a ha)
              · simp only [if_neg z, if_neg z2] at hab
                exact hinj5 a b ha hb hab
          · by_cases z : j = k
            · simp only [if_pos z]
              exact nqL
            · simp only [if_neg z]
              exact nLB j hj
        · rintro σ H5 ⟨fB, v7, v8, v9, v10, rfl, e5, hL5, hz5, L5, nLB⟩
          rw [hzN] at L5
          let mj : Nat → Nat → List Int := fun i j => (if s.due j then (s.st j).tail else s.st j) ++ (if sprv N j ∈ (s.dueK N).take i then (s.st (sprv N j)).take 1 else [])
          have L5 : LS H H5 D E N (mj 0) (s.next0 N).en fB := L5.congr (fun j hj => by
            show (if s.due j then (s.st j).tail else s.st j) ++ (if sprv N j ∈ (s.dueK N).take 0 then (s.st (sprv N j)).take 1 else []) = if j ∈ (s.dueK N).take (s.dueK N).length then (s.st j).tail else s.st j
            rw [if_neg (show ¬ sprv N j ∈ (s.dueK N).take 0 by simp), List.append_nil, List.take_length]
            have : (j ∈ s.dueK N) = s.due j := by rw [eq_iff_iff, Sc.mem_due]; exact ⟨fun h => h.2, fun h => ⟨hj, h⟩⟩
            simp only [this]) fun j hj => by
            show (if s.due j then none else s.en j) = if j ∈ (s.dueK N).take (s.dueK N).length then none else s.en j
            rw [List.take_length]
            have : (j ∈ s.dueK N) = s.due j := by rw [eq_iff_iff, Sc.mem_due]; exact ⟨fun h => h.2, fun h => ⟨hj, h⟩⟩
            simp only [this]
          have mjl : ∀ i j, j < N → (mj i j).length ≤ 13 := fun i j hj => by
            have h1 := W.toScW.len hj
            show ((if s.due j then (s.st j).tail else s.st j) ++ (if sprv N j ∈ (s.dueK N).take i then (s.st (sprv N j)).take 1 else [])).length ≤ 13
            rw [List.length_append]
            have h2 : (if s.due j then (s.st j).tail else s.st j).length ≤ 12 := by
              split
              · rw [List.length_tail]; omega
              · exact h1
            have h3 : (if sprv N j ∈ (s.dueK N).take i then (s.st (sprv N j)).take 1 else []).length ≤ 1 := by
              split
              · rw [List.length_take]; omega
              · exact Nat.zero_le _
            omega
          walk_at "go"
          refine g_kForL (SqL.of hL5) (fun i σ H' => ∃ (v7 v8 v9 v10 : Option V), σ = [some (.ref m), some (.int s.day), some (.ref D), some (.ref E), some (.ref da), some (.int s.nb), some (.ref L), v7, v8, v9, v10] ∧ Ex H H' ∧ H' L = some (.lst zs) ∧ Ent K H' zs (s.ended N) ∧
              LS H H' D E N (mj i) (s.next0 N).en fB)
            ⟨_, _, _, _, rfl, e5, hL5, hz5, L5⟩ (fun i σ H' _ hP => by
              obtain ⟨_, _, _, _, _, _, h, _⟩ := hP
              exact SqL.of h) ?_ ?_
          · rintro i x σ H6 hx ⟨v7, v8, v9, v10, rfl, e6, hL6, hz6, L6⟩
            have hml := (List.getElem?_eq_some_iff.mp hx).1
            obtain ⟨k, hk⟩ : ∃ k, (s.dueK N)[i]? = some k := ⟨_, List.getElem?_eq_getElem (by omega)⟩
            have hen : (s.ended N)[i]? = some (s.day + 1, (k : Int), (s.st k).headD 0) := by
              show ((s.dueK N).map _)[i]? = _
              rw [List.getElem?_map, hk]
              rfl
            obtain ⟨p, hp1, hp2⟩ := hz6.2 i _ hen
            rw [hx] at hp1
            cases hp1
            have hp2 : SqT K H6 p [.int (s.day + 1), .int (k : Int), .int ((s.st k).headD 0)] := hp2
            obtain ⟨hkl, hkd, hnot, htk⟩ := tkn i k hk
            obtain ⟨hD6, hE6, hf6, hinj6⟩ := id L6
            obtain ⟨b, t, hb, hbt⟩ := W.head hkl hkd
            rw [show (s.st k).headD 0 = b by rw [hb]; rfl] at hp2
            have hnl := snxt_lt hkl
            have hnm := snxt_mod hkl
            have hps := sprv_snxt hkl
            have as : (stV N fB)[snxt N k]? = some (.ref (fB (snxt N k))) := mapV_at hnl
            obtain ⟨y1, y2, y3, y4⟩ := hf6 _ hnl
            have hda6 := ex_t e6 hda
            refine gg_tup hp2 rfl ?_
            walk_at "go"
            rw [spV_len]
            walk_at "go"
            rw [hnm]
            walk_at "go"
            refine g_kBM_list (SqL.of y4) ?_
            walk_at "go"
            refine g_append y4 (lt1000 (by rw [List.length_map]; have := mjl i _ hnl; omega)) fun H7 e7 h7 => ?_
            walk_at "go"
            refine ⟨_, _, _, _, rfl, Exb.ex y1 e6 e7, e7 _ _ (nLB _ hnl) hL6, hz6.exb e7 y4, e7 _ _ (Ne.symm y2) hD6, e7 _ _ (Ne.symm y3) hE6, fun j hj => ?_, hinj6⟩
            by_cases z : j = snxt N k
            · rw [z]
              refine ⟨y1, y2, y3, ?_⟩
              rw [h7]
              have : mj (i + 1) (snxt N k) = mj i (snxt N k) ++ [b] := by
                show (if s.due (snxt N k) then _ else _) ++ (if sprv N (snxt N k) ∈ (s.dueK N).take (i + 1) then _ else _) = ((if s.due (snxt N k) then _ else _) ++ (if sprv N (snxt N k) ∈ (s.dueK N).take i then _ else _)) ++ [b]
                rw [hps, htk, if_pos (show k ∈ (s.dueK N).take i ++ [k] by simp), if_neg hnot, hb, List.append_nil]
                rfl
              rw [this]
              refine congrArg (fun z => some (HO.lst z)) ?_
              exact (List.map_append (f := V.int) (l₁ := mj i (snxt N k)) (l₂ := [b])).symm
            · obtain ⟨u1, u2, u3, u4⟩ := hf6 j hj
              refine ⟨u1, u2, u3, ?_⟩
              rw [e7 _ _ (fun y => z (hinj6 _ _ hj hnl y)) u4]
              have : mj (i + 1) j = mj i j := by
                have e2 : (sprv N j ∈ (s.dueK N).take i ++ [k]) = (sprv N j ∈ (s.dueK N).take i) := by
                  rw [eq_iff_iff, List.mem_append, List.mem_singleton]
                  exact ⟨fun h => h.elim id fun y => absurd ((sprv_eq hj hkl).mp y) z, .inl⟩
                show (if s.due j then _ else _) ++ (if sprv N j ∈ (s.dueK N).take (i + 1) then _ else _) = (if s.due j then _ else _) ++ (if sprv N j ∈ (s.dueK N).take i then _ else _)
                rw [htk]
                simp only [e2]
              rw [this]
          · rintro σ H6 ⟨v7, v8, v9, v10, rfl, e6, hL6, hz6, L6⟩
            obtain ⟨hD6, hE6, hf6, hinj6⟩ := id L6
            walk_at "go"
            rename_i m2 H7 n7 e7 h7
            have hfin : ∀ j, j < N → mj zs.length j = (s.next0 N).st j := fun j hj => by
              show (if s.due j then (s.st j).tail else s.st j) ++ (if sprv N j ∈ (s.dueK N).take zs.length then (s.st (sprv N j)).take 1 else []) = (if s.due j then (s.st j).tail else s.st j) ++ (if s.due (sprv N j) then (s.st (sprv N j)).take 1 else [])
              have e2 : (sprv N j ∈ s.dueK N) = s.due (sprv N j) := by rw [eq_iff_iff, Sc.mem_due]; exact ⟨fun h => h.2, fun h => ⟨sprv_lt hj, h⟩⟩
              rw [hzN, List.take_length]
              simp only [e2]
            have M7 : OM K H7 m2 N (s.next0 N) := ⟨D, E, da, fB, h7, e7 _ _ hD6, e7 _ _ hE6, ex_t (e6.trans e7) hda, fun j hj => by rw [← hfin j hj]; exact e7 _ _ (hf6 j hj).2.2.2⟩
            refine ⟨m2, N, s.next0 N, rfl, o8, fun j hj => W.next0.len hj, M7, fun m3 H8 n8 e8 M8 => ?_⟩
            walk_at "go"
            rename_i p9 H9 n9 e9 h9
            have e69 := (e7.trans e8).trans e9
            exact q p9 m3 L zs H9 (fresh_back ((e6.trans e7).trans e8) n9) (e6.trans e69) h9 (M8.ex e9) (e69 _ _ hL6) (hz6.ex e69)
end
end G48

namespace G48
open PySem PySem.Spec PyProof.Rows L2 Evl
abbrev N_checksum_of : List Str := ["values", "result", "value"]
theorem sc_checksum_of : FnScope N_checksum_of ["values"] (defScope s_checksum_of) := ⟨rfl, rfl, rfl, by decide +kernel, rfl, by decide +kernel, by decide +kernel⟩
theorem b_checksum_of : BindL "checksum_of" "checksum_of" s_checksum_of ["values"] := fun _ _ _ _ _ _ us hl => match us, hl with | [_], _ => rfl
abbrev N_encode_ring : List Str := ["ring", "values", "span", "heap"]
theorem sc_encode_ring : FnScope N_encode_ring ["ring"] (defScope s_encode_ring) := ⟨rfl, rfl, rfl, by decide +kernel, rfl, by decide +kernel, by decide +kernel⟩
theorem b_encode_ring : BindL "encode_ring" "encode_ring" s_encode_ring ["ring"] := fun _ _ _ _ _ _ us hl => match us, hl with | [_], _ => rfl
abbrev N_check_byte : List Str := ["data", "offset", "low", "high"]
theorem sc_check_byte : FnScope N_check_byte ["data", "offset", "low", "high"] (defScope s_check_byte) := ⟨rfl, rfl, rfl, by decide +kernel, rfl, by decide +kernel, by decide +kernel⟩
theorem b_check_byte : BindL "check_byte" "check_byte" s_check_byte ["data", "offset", "low", "high"] := fun _ _ _ _ _ _ us hl => match us, hl with | [_, _, _, _], _ => rfl
abbrev N_decode_ring : List Str := ["data", "spans", "heaps", "offset", "turn", "checksum"]
theorem sc_decode_ring : FnScope N_decode_ring ["data"] (defScope s_decode_ring) := ⟨rfl, rfl, rfl, by decide +kernel, rfl, by decide +kernel, by decide +kernel⟩
theorem b_decode_ring : BindL "decode_ring" "decode_ring" s_decode_ring ["data"] := fun _ _ _ _ _ _ us hl => match us, hl with | [_], _ => rfl
end G48
--lib Z
/-! rings as bytes: checksums, encode_ring, decode_ring of what was encoded -/
namespace G48
open PySem PySem.Spec PyProof.Rows L2 Evl
/-! the steps -/
local macro_rules | `(tactic| walk_at "as") => `(tactic| with_reducible assumption)
local macro_rules | `(tactic| walk_at "hp") => `(tactic| first
  | with_reducible assumption
  | ((with_reducible apply SqT.of); walk_at "as")
  | ((with_reducible apply SqL.of); walk_at "as")
  | ((with_reducible apply ex_at); (focus walk_at "as"); walk_at "hp")
  | ((with_reducible apply ex_t); (focus walk_at "as"); walk_at "hp")
  | ((with_reducible apply ex_l); (focus walk_at "as"); walk_at "hp")
  | ((with_reducible apply exb_ins); (focus walk_at "as"); (focus walk_at "hp"); walk_at "hp")
  | ((with_reducible apply exb_t); (focus walk_at "as"); (focus walk_at "hp"); walk_at "hp")
  | ((with_reducible apply exb_at); (focus walk_at "as"); (focus walk_at "ne"); walk_at "hp")
  | ((with_reducible apply exb_l); (focus walk_at "as"); (focus walk_at "ne"); walk_at "hp"))
local macro_rules | `(tactic| walk_at "ne") => `(tactic| first
  | with_reducible assumption
  | exact Ne.symm (by with_reducible assumption)
  | exact ne_of_none (by with_reducible assumption) (by with_reducible assumption)
  | exact Ne.symm (ne_of_none (by with_reducible assumption) (by with_reducible assumption)))
local macro_rules | `(tactic| walk_at "tr") => `(tactic| first
  | rfl
  | with_reducible assumption
  | exact decide_eq_true (by first | with_reducible assumption | omega)
  | exact decide_eq_false (by first | with_reducible assumption | omega)
  | (rw [Bool.not_eq_true']; exact decide_eq_false (by first | with_reducible assumption | omega))
  | (rw [Bool.not_eq_false']; exact decide_eq_true (by first | with_reducible assumption | omega)))
local macro_rules | `(tactic| walk_at "nn") => `(tactic| first | with_reducible assumption | (exact List.cons_ne_nil _ _))
local macro_rules | `(tactic| walk_at "sz") => `(tactic| first | (exact sz1000 (Nat.le_of_ble_eq_true rfl)) | (refine sz1000 ?_; simp only [List.length_map, List.length_cons, List.length_nil, List.length_append]; omega) | with_reducible assumption)
local macro_rules | `(tactic| walk_at "sl") => `(tactic| first | with_reducible assumption | (refine lt1000 ?_; simp only [List.length_map, List.length_cons, List.length_nil, List.length_append]; omega) | (refine lt1000 ?_; omega))
local macro_rules | `(tactic| walk_at "ix") => `(tactic| first | rfl | with_reducible assumption)
local macro_rules | `(tactic| walk_at "rg") => `(tactic| exact RgOk.of_le (by omega) (by omega) (by omega) (by omega))
local macro_rules | `(tactic| walk_at "sp") => `(tactic| fail "sp")
local macro_rules | `(tactic| walk_at "cl") => `(tactic| with_reducible assumption)
local macro_rules | `(tactic| walk_at "lk") => `(tactic| with_reducible assumption)
local macro_rules | `(tactic| walk_at "it") => `(tactic| first | rfl | with_reducible assumption | exact atI_nat (by with_reducible assumption))
local macro_rules | `(tactic| walk_at "g1") => `(tactic| first
  | (with_reducible apply g_var); (focus rfl)
  | with_reducible apply g_c
  | with_reducible apply g_seq
  | with_reducible apply g_asg
  | with_reducible apply gg_name
  | with_reducible apply g_op
  | with_reducible apply g_cons
  | with_reducible apply g_nil
  | with_reducible apply g_cb
  | with_reducible apply g_fld
  | ((with_reducible apply g_kFld); (focus walk_at "hp"); (focus walk_at "cl"); (focus walk_at "cl"); (focus walk_at "lk"))
  | with_reducible apply g_call
  | walk_at "sp"
  | with_reducible apply g_ret
  | with_reducible apply g_drop
  | with_reducible apply g_test
  | with_reducible apply g_B
  | with_reducible apply g_kTest
  | with_reducible apply g_ifS
  | with_reducible apply g_kIfST
  | with_reducible apply g_kIfSF
  | with_reducible apply g_add
  | with_reducible apply g_sub
  | with_reducible apply g_lt
  | with_reducible apply g_le
  | with_reducible apply g_gt
  | with_reducible apply g_ge
  | with_reducible apply g_eqI
  | with_reducible apply g_neI
  | ((with_reducible apply g_mod); (focus first | decide | omega))
  | ((with_reducible apply g_mul); (focus first | (left; constructor <;> omega) | (right; constructor <;> omega)))
  | ((with_reducible apply g_fdiv); (focus (constructor <;> omega)))
  | ((with_reducible apply g_ixT); (focus walk_at "hp"); (focus walk_at "it"))
  | ((with_reducible apply g_ixL); (focus walk_at "hp"); (focus walk_at "it"))
  | with_reducible apply g_and
  | with_reducible apply g_or
  | with_reducible apply g_not
  | with_reducible apply g_kNotT
  | with_reducible apply g_kNotF
  | with_reducible apply g_if
  | with_reducible apply g_kAndT
  | with_reducible apply g_kAndF
  | with_reducible apply g_kOrT
  | with_reducible apply g_kOrF
  | with_reducible apply g_kIfT
  | with_reducible apply g_kIfF
  | with_reducible apply g_next
  | with_reducible apply g_andV
  | with_reducible apply g_orV
  | with_reducible apply g_notV
  | with_reducible apply g_kNotV
  | with_reducible apply g_kAndVT
  | with_reducible apply g_kAndVF
  | with_reducible apply g_chain
  | with_reducible apply g_kChainT
  | with_reducible apply g_kChainF
  | with_reducible apply g_tup
  | with_reducible apply g_lst
  | ((with_reducible apply g_kT); (focus walk_at "sz"); intro _ _ _ _ _)
  | ((with_reducible apply g_kL); (focus walk_at "sz"); intro _ _ _ _ _)
  | with_reducible apply g_un
  | with_reducible apply g_neg
  | with_reducible apply g_meth
  | ((with_reducible apply g_kMeth); (focus walk_at "hp"); (focus walk_at "lk"))
  | with_reducible apply g_prop
  | ((with_reducible apply g_kProp); (focus walk_at "hp"))
  | with_reducible apply g_make
  | with_reducible apply g_par
  | with_reducible apply g_kPar
  | ((with_reducible apply g_lenLM); (focus walk_at "hp"))
  | ((with_reducible apply g_lenTM); (focus walk_at "hp"))
  | ((with_reducible apply g_lenL); (focus walk_at "hp"))
  | ((with_reducible apply g_lenT); (focus walk_at "hp"))
  | with_reducible apply g_int1
  | with_reducible apply g_max2
  | with_reducible apply g_min2
  | ((with_reducible apply g_listL); (focus walk_at "hp"); intro _ _ _ _ _)
  | ((with_reducible apply g_listT); (focus walk_at "hp"); intro _ _ _ _ _)
  | ((with_reducible apply g_tupL); (focus walk_at "hp"); intro _ _ _ _ _)
  | ((with_reducible apply g_sum); (focus walk_at "hp"))
  | with_reducible apply g_sfld
  | with_reducible apply g_sl
  | with_reducible apply g_nopart
  | with_reducible apply g_part
  | with_reducible apply g_kPart
  | with_reducible apply g_lstRg
  | with_reducible apply g_rg1
  | with_reducible apply g_kRg1
  | with_reducible apply g_bm
  | with_reducible apply gg_sub
  | ((with_reducible apply gg_tup); (focus walk_at "hp"); (focus rfl))
  | with_reducible apply gg_cons
  | with_reducible apply gg_nil
  | with_reducible apply g_forL
  | with_reducible apply g_forT
  | with_reducible apply g_forR1
  | with_reducible apply g_forR2
  | with_reducible apply g_forE
  | with_reducible apply g_forEL
  | ((with_reducible apply g_maxT); (focus walk_at "hp"); (focus walk_at "nn"))
  | ((with_reducible apply g_maxL); (focus walk_at "hp"); (focus walk_at "nn"))
  | ((with_reducible apply g_catA); (focus walk_at "hp"); (focus walk_at "hp"); (focus walk_at "sz"); intro _ _ _ _)
  | ((with_reducible apply g_slA); (focus walk_at "hp"); intro _ _ _ _)
  | ((with_reducible apply g_tupD); (focus walk_at "hp"); intro _ _ _ _ _)
  | ((with_reducible apply g_setL); (focus walk_at "hp"); (focus walk_at "ix"); intro _ _ _)
  | ((with_reducible apply g_append); (focus walk_at "hp"); (focus walk_at "sl"); intro _ _ _)
  | ((with_reducible apply g_aug); (focus rfl))
  | with_reducible apply g_ipI
  | with_reducible apply g_retN
  | with_reducible apply g_lcR1
  | with_reducible apply g_lcR2
  | with_reducible apply g_lcL
  | with_reducible apply g_lcU
  | with_reducible apply g_lcN
  | ((with_reducible apply g_kLcG); (focus rfl))
  | with_reducible apply g_yes
  | with_reducible apply g_kLcTT
  | with_reducible apply g_kLcTF
  | ((with_reducible apply g_kLcE); (focus walk_at "hp"); (focus walk_at "sl"); intro _ _ _)
  | ((with_reducible apply g_pow); (focus (constructor <;> (try constructor) <;> decide)))
  | ((with_reducible apply g_kLRg); (focus walk_at "rg"); intro _ _ _ _ _)
  | ((with_reducible apply g_cat); (focus walk_at "hp"); (focus walk_at "hp"); (focus walk_at "sz"); intro _ _ _ _ _)
  | ((with_reducible apply g_slL); (focus walk_at "hp"); intro _ _ _ _ _)
  | with_reducible apply g_bmT
  | with_reducible apply g_break
  | with_reducible apply g_cont)
local macro_rules | `(tactic| walk_at "g0") => `(tactic| try dsimp only [L2.cxOf, L2.Cx.nox, L2.Cx.wish])
local macro_rules | `(tactic| walk_at "yn") => `(tactic| first
  | ((with_reducible apply y_kIfS); (focus walk_at "tr"))
  | ((with_reducible apply n_kIfS); (focus walk_at "tr"))
  | ((with_reducible apply y_kOr); (focus walk_at "tr"))
  | ((with_reducible apply n_kOr); (focus walk_at "tr"))
  | ((with_reducible apply y_kAnd); (focus walk_at "tr"))
  | ((with_reducible apply n_kAnd); (focus walk_at "tr"))
  | ((with_reducible apply y_kNot); (focus walk_at "tr"))
  | ((with_reducible apply n_kNot); (focus walk_at "tr"))
  | ((with_reducible apply y_kIf); (focus walk_at "tr"))
  | ((with_reducible apply n_kIf); (focus walk_at "tr"))
  | ((with_reducible apply y_kAndV); (focus walk_at "tr"))
  | ((with_reducible apply n_kAndV); (focus walk_at "tr"))
  | ((with_reducible apply y_kOrV); (focus walk_at "tr"))
  | ((with_reducible apply n_kOrV); (focus walk_at "tr"))
  | ((with_reducible apply y_kChain); (focus walk_at "tr"))
  | ((with_reducible apply n_kChain); (focus walk_at "tr"))
  | ((with_reducible apply y_kLcT); (focus walk_at "tr"))
  | ((with_reducible apply n_kLcT); (focus walk_at "tr"))
  | ((with_reducible apply y_kWh); (focus walk_at "tr"))
  | ((with_reducible apply n_kWh); (focus walk_at "tr")))
local macro_rules | `(tactic| walk_at "go") => `(tactic| repeat (first | walk_at "g1" | walk_at "yn"))
local macro_rules | `(tactic| walk_at "hp") => `(tactic| first
  | ((with_reducible apply RingIn.ex); (focus walk_at "as"); walk_at "hp")
  | ((with_reducible apply RingAt.ex); (focus walk_at "as"); walk_at "hp")
  | ((with_reducible apply RingIn.exb); (focus walk_at "as"); (focus walk_at "hp"); walk_at "hp")
  | ((with_reducible apply RingAt.exb); (focus walk_at "as"); (focus walk_at "hp"); walk_at "hp")
  | ((with_reducible apply TupK.ex); (focus walk_at "as"); walk_at "hp")
  | ((with_reducible apply TupK.exb); (focus walk_at "as"); (focus walk_at "hp"); walk_at "hp"))
local macro_rules | `(tactic| walk_at "lk") => `(tactic| first | with_reducible exact rf_spans | with_reducible exact rf_heaps | with_reducible exact rf_total | with_reducible exact rf_nr | with_reducible exact rf_wd)
local macro_rules | `(tactic| walk_at "sp") => `(tactic| first
  | ((with_reducible apply g_isiTup); (focus walk_at "hp"))
  | ((with_reducible apply g_isiLst); (focus walk_at "hp"))
  | ((with_reducible apply g_isint); (focus omega); (focus omega))
  | ((with_reducible apply g_checkn); (focus omega); (focus omega))
  | ((with_reducible apply g_rbooks); (focus walk_at "hp"))
  | ((with_reducible apply g_rpace); (focus walk_at "hp"); intro _ _ _ _)
  | ((with_reducible apply g_rlen); (focus walk_at "hp"))
  | ((with_reducible apply g_rneed); (focus walk_at "hp"); (focus omega))
  | ((with_reducible apply g_rneedM); (focus walk_at "hp"))
  | ((with_reducible apply g_rwithM); (focus walk_at "hp"))
  | ((with_reducible apply g_rspans); (focus walk_at "hp"); (focus with_reducible assumption))
  | ((with_reducible apply g_rheaps); (focus walk_at "hp"); (focus with_reducible assumption))
  | ((with_reducible apply g_rtotal); (focus walk_at "hp"); (focus with_reducible assumption)))

local macro_rules | `(tactic| walk_at "g1") => `(tactic| first | with_reducible apply g_forZ2 | with_reducible apply g_star | with_reducible apply g_par3 | with_reducible apply g_kPar3)
def chk (ns : List Int) : Int := ns.foldl (fun r v => (r * 7 + v) % 251) 1
theorem chk_snoc {ns : List Int} {v : Int} : chk (ns ++ [v]) = (chk ns * 7 + v) % 251 := by unfold chk; rw [List.foldl_append]; rfl
theorem chk_lt {ns : List Int} : 0 ≤ chk ns ∧ chk ns < 251 := by
  rcases List.eq_nil_or_concat ns with rfl | ⟨l, v, rfl⟩
  · exact ⟨by decide, by decide⟩
  · rw [List.concat_eq_append, chk_snoc]
    omega
theorem chk_take {ns : List Int} {i : Nat} {v : Int} (h : ns[i]? = some v) : chk (ns.take (i + 1)) = (chk (ns.take i) * 7 + v) % 251 := by
  obtain ⟨h1, h2⟩ := List.getElem?_eq_some_iff.mp h
  rw [← chk_snoc, ← List.take_append_getElem h1, h2]
/-- the bytes ahead of the checksum, so many readers told -/
def cod (ds hs : List Int) (i : Nat) : List Int := [82, (ds.length : Int)] ++ ((List.range i).map fun j => [ds.getD j 0, hs.getD j 0]).flatten
def codeR (ds hs : List Int) : List Int := cod ds hs ds.length ++ [chk (cod ds hs ds.length)]
theorem cod_next {ds hs : List Int} {i : Nat} : cod ds hs (i + 1) = cod ds hs i ++ [ds.getD i 0, hs.getD i 0] := by
  unfold cod
  rw [List.range_succ, List.map_append, List.flatten_append, ← List.append_assoc]
  rfl
theorem cod_len {ds hs : List Int} : ∀ {i : Nat}, (cod ds hs i).length = 2 + 2 * i
  | 0 => rfl
  | i + 1 => by rw [cod_next, List.length_append, cod_len (i := i)]; simp; omega
theorem cod_pre {ds hs : List Int} {i : Nat} : ∀ {j : Nat}, i ≤ j → ∃ r, cod ds hs j = cod ds hs i ++ r
  | 0, h => ⟨[], by rw [show i = 0 by omega, List.append_nil]⟩
  | j + 1, h => by
    by_cases z : i = j + 1
    · exact ⟨[], by rw [z, List.append_nil]⟩
    · obtain ⟨r, e⟩ := cod_pre (ds := ds) (hs := hs) (i := i) (j := j) (by omega)
      exact ⟨r ++ [ds.getD j 0, hs.getD j 0], by rw [cod_next, e, List.append_assoc]⟩
theorem code_at {ds hs : List Int} {j : Nat} (hj : j < ds.length) : (codeR ds hs)[2 + 2 * j]? = some (ds.getD j 0) ∧ (codeR ds hs)[2 + 2 * j + 1]? = some (hs.getD j 0) := by
  obtain ⟨r, e⟩ := cod_pre (ds := ds) (hs := hs) (i := j + 1) (j := ds.length) (by omega)
  unfold codeR
  rw [e, cod_next]
  have hl := cod_len (ds := ds) (hs := hs) (i := j)
  constructor
  · rw [List.append_assoc, List.append_assoc, List.getElem?_append_right (by omega), hl, Nat.sub_self]
    rfl
  · rw [List.append_assoc, List.append_assoc, List.getElem?_append_right (by omega), hl, show 2 + 2 * j + 1 - (2 + 2 * j) = 1 by omega]
    rfl
theorem code_0 {ds hs : List Int} : (codeR ds hs)[0]? = some 82 ∧ (codeR ds hs)[1]? = some (ds.length : Int) := ⟨rfl, rfl⟩
theorem code_c {ds hs : List Int} : (codeR ds hs)[2 + 2 * ds.length]? = some (chk (cod ds hs ds.length)) := by
  unfold codeR
  rw [List.getElem?_append_right (by rw [cod_len]; exact Nat.le_refl _), cod_len, Nat.sub_self]
  rfl
theorem code_len {ds hs : List Int} : (codeR ds hs).length = 2 * ds.length + 3 := by unfold codeR; rw [List.length_append, cod_len]; simp; omega
theorem getD_mem {ds : List Int} {j : Nat} (h : j < ds.length) : ds.getD j 0 ∈ ds := by
  rw [List.getD_eq_getElem?_getD, List.getElem?_eq_getElem h]
  exact List.getElem_mem h
theorem cod_b8 {ds hs : List Int} (O : RingOk ds hs) : ∀ {i : Nat}, i ≤ ds.length → ∀ v ∈ cod ds hs i, 0 ≤ v ∧ v < 256
  | 0, _ => fun v hv => by
    have o8 := O.eight
    rcases List.mem_cons.mp hv with rfl | hv
    · omega
    · rcases List.mem_cons.mp hv with rfl | hv
      · omega
      · cases hv
  | i + 1, h => fun v hv => by
    rw [cod_next] at hv
    rcases List.mem_append.mp hv with hv | hv
    · exact cod_b8 O (i := i) (by omega) v hv
    · have h1 := O.dd _ (getD_mem (ds := ds) (j := i) (by omega))
      have h2 := O.hh _ (getD_mem (ds := hs) (j := i) (by rw [O.len]; omega))
      rcases List.mem_cons.mp hv with rfl | hv
      · omega
      · rw [List.mem_singleton.mp hv]
        omega
theorem code_b8 {ds hs : List Int} (O : RingOk ds hs) : ∀ v ∈ codeR ds hs, 0 ≤ v ∧ v < 256 := fun v hv => by
  rcases List.mem_append.mp hv with hv | hv
  · exact cod_b8 O (Nat.le_refl _) v hv
  · rw [List.mem_singleton.mp hv]
    have := chk_lt (ns := cod ds hs ds.length)
    omega
theorem map_getD {ds : List Int} : (List.range ds.length).map (fun j => ds.getD j 0) = ds := by
  refine List.ext_getElem? fun j => ?_
  by_cases h : j < ds.length
  · rw [List.getElem?_map, List.getElem?_range h, List.getElem?_eq_getElem h]
    show some (ds.getD j 0) = _
    rw [List.getD_eq_getElem?_getD, List.getElem?_eq_getElem h]
    rfl
  · rw [List.getElem?_eq_none (by simp; omega), List.getElem?_eq_none (by omega)]
theorem take_getD {ds : List Int} {i : Nat} (h : i < ds.length) : ds.take (i + 1) = ds.take i ++ [ds.getD i 0] := by
  rw [List.take_add_one, List.getElem?_eq_getElem h, List.getD_eq_getElem?_getD, List.getElem?_eq_getElem h]
  rfl
theorem RingOk.tk {ds hs : List Int} (O : RingOk ds hs) {k : Nat} (hk : k ≤ ds.length) : 0 ≤ (hs.take k).sum ∧ (hs.take k).sum ≤ 12 := by
  have nn : ∀ x ∈ hs, 0 ≤ x := fun x hx => (O.hh x hx).1
  have h1 := first_len nn (k := k) (by rw [O.len]; exact hk)
  have h2 := (ScW.first0 O).few
  have h3 : sumN k (fun j => (firstSt hs j).length) ≤ sumN ds.length (fun j => (firstSt hs j).length) := by
    have : ∀ (n m : Nat) (f : Nat → Nat), n ≤ m → sumN n f ≤ sumN m f := fun n m f h => by
      induction h with
      | refl => exact Nat.le_refl _
      | step _ ih => rw [sumN_succ]; omega
    exact this _ _ _ hk
  have h4 : sumN ds.length (fun j => (firstSt hs j).length) ≤ 12 := h2
  omega
section
variable {P : Program} {w : World} {K : PySem.W.Frag} {mg : Str → Option Value} {base : Heap} {C SC : Addr}
def sp_checksum (K : PySem.W.Frag) : Sp := fun vs H Q _ => ∃ (l : Addr) (ns : List Int), vs = [.ref l] ∧ SqL K H l (ns.map V.int) ∧ (∀ v ∈ ns, 0 ≤ v ∧ v < 256) ∧ Q (.int (chk ns)) H
theorem ok_checksum (Z : Blt mg) (c_CHECKSUM_FACTOR : ∃ t, mg "CHECKSUM_FACTOR" = some (.int 7 t)) (c_CHECKSUM_MODULUS : ∃ t, mg "CHECKSUM_MODULUS" = some (.int 251 t)) (G : GFun K mg "checksum_of" s_checksum_of) : Df P w K mg base 1 "checksum_of" ["values"] (sp_checksum K) := by
  refine Df.of G sc_checksum_of b_checksum_of (fun vs H Q E h => ?_) (fun f cdv A outer st H vs Q E hr h => ?_)
  · obtain ⟨l, ns, rfl, _⟩ := h
    rfl
  · obtain ⟨l, ns, rfl, hl, h8, q⟩ := h
    refine ⟨_, PSs.nox (pss_cons (ps_set (i := 1) sc_checksum_of.nd rfl (by first | exact Or.inl rfl | exact Or.inr rfl) pe_int)
      (pss_cons (ps_for PassesOwn.never rfl (pi_list (pv 0)) (pg_name (i := 2) sc_checksum_of.nd rfl (by first | exact Or.inl rfl | exact Or.inr rfl)) (pss_one (ps_set (i := 1) sc_checksum_of.nd rfl (by first | exact Or.inl rfl | exact Or.inr rfl) (pe_op op_mod (pe_callTy c_int1 (by rfl) Z.zint (by decide +kernel) (pa_cons (pe_op op_add (pe_op op_mul (pv 1) (pint c_CHECKSUM_FACTOR)) (pv 2)) pa_nil)) (pint c_CHECKSUM_MODULUS)))))
      (pss_one (ps_ret (pv 1))))), ?_⟩
    walk_at "g0"
    walk_at "go"
    refine g_kForL hl (fun i σ H' => ∃ v2 : Option V, σ = [some (.ref l), some (.int (chk (ns.take i))), v2] ∧ H' = H) ⟨_, rfl, rfl⟩ (fun i σ H' _ hP => by
      obtain ⟨_, _, rfl⟩ := hP
      exact hl) ?_ ?_
    · rintro i x σ H' hx ⟨v2, rfl, rfl⟩
      rw [List.getElem?_map] at hx
      obtain ⟨v, hv, rfl⟩ := Option.map_eq_some_iff.mp hx
      have hc := chk_lt (ns := ns.take i)
      have hb := h8 v (List.mem_of_getElem? hv)
      walk_at "go"
      refine ⟨some (.int v), ?_, rfl⟩
      rw [chk_take hv]
      rfl
    · rintro σ H' ⟨v2, rfl, rfl⟩
      rw [List.length_map, List.take_length]
      walk_at "go"
      exact q
theorem g_checksum {H : Hp} {Q : VK} {E : XK} {l : Addr} {ns : List Int} (h : SqL K H l (ns.map V.int)) (h8 : ∀ v ∈ ns, 0 ≤ v ∧ v < 256) (q : Q (.int (chk ns)) H) : sp_checksum K [.ref l] H Q E := ⟨l, ns, rfl, h, h8, q⟩
def sp_encode (K : PySem.W.Frag) (C : Addr) : Sp := fun vs H Q _ => ∃ (r a b : Addr) (ds hs : List Int), vs = [.ref r] ∧ RingIn K C H r a b ds hs ∧ ∀ H', Ex H H' → Q (.byt (byteArr (codeR ds hs))) H'
set_option maxHeartbeats 8000000 in
theorem ok_encode (Z : Blt mg) (R : RingC K C) (c_FIRST_BYTE : ∃ t, mg "FIRST_BYTE" = some (.int 82 t)) (D_checksum_of : Df P w K mg base 1 "checksum_of" ["values"] (sp_checksum K)) (M_Ring___len__ : Mf P w K mg base C 1 "__len__" ["self"] (sp_Ring_len K C)) (G : GFun K mg "encode_ring" s_encode_ring) : Df P w K mg base 3 "encode_ring" ["ring"] (sp_encode K C) := by
  refine Df.of G sc_encode_ring b_encode_ring (fun vs H Q E h => ?_) (fun f cdv A outer st H vs Q E hr h => ?_)
  · obtain ⟨r, a, b, ds, hs, rfl, _⟩ := h
    rfl
  · obtain ⟨r, a, b, ds, hs, rfl, RI, q⟩ := h
    obtain ⟨cl_Ring, nS, nH, nT⟩ := R
    have O := RI.ok
    have o2 := O.two
    have o8 := O.eight
    obtain ⟨dx, ho⟩ := RI.obj
    have hS := RI.sp
    have hT := RI.hp
    refine ⟨_, PSs.nox (pss_cons (ps_set (i := 1) sc_encode_ring.nd rfl (by first | exact Or.inl rfl | exact Or.inr rfl) (pe_lst (pa_cons (pint c_FIRST_BYTE) (pa_cons (pe_callB (call_lenO M_Ring___len__ hr) (by rfl) Z.zlen PySem.boot_len (pa_cons (pv 0) pa_nil)) pa_nil))))
      (pss_cons (ps_for PassesOwn.never rfl (pi_zip2 true true (by rfl) Z.zzip (pa_cons (pe_fld (pv 0) rfl) (pa_cons (pe_fld (pv 0) rfl) pa_nil))) (pg_tup (by rfl) (pgs_cons (pg_name (i := 2) sc_encode_ring.nd rfl (by first | exact Or.inl rfl | exact Or.inr rfl)) (pgs_cons (pg_name (i := 3) sc_encode_ring.nd rfl (by first | exact Or.inl rfl | exact Or.inr rfl)) pgs_nil))) (pss_one (ps_expr (pe_bm PySem.F.plainAttrs_list PySem.F.slot_list_extend PySem.F.type_list_extend mt_extend (pv 1) (pa_cons (pe_lst (pa_cons (pv 2) (pa_cons (pv 3) pa_nil))) pa_nil)))))
      (pss_one (ps_ret (pe_callTy (c_bytes rfl) (by rfl) Z.zbytes (by decide +kernel) (pa_cons (pe_lst (StX.pa_star (pv 1) (pa_cons (pg D_checksum_of hr (pa_cons (pv 1) pa_nil)) pa_nil))) pa_nil)))))), ?_⟩
    walk_at "g0"
    walk_at "go"
    rename_i l H1 nl e1 hl
    have ho1 := e1 _ _ ho
    walk_at "go"
    have eds : (List.range ds.length).map (fun j => V.int (ds.getD j 0)) = ds.map V.int := by
      have := congrArg (List.map V.int) (map_getD (ds := ds))
      rw [List.map_map] at this
      exact this
    have ehs : (List.range ds.length).map (fun j => V.int (hs.getD j 0)) = hs.map V.int := by
      have := congrArg (List.map V.int) (map_getD (ds := hs))
      rw [List.map_map, O.len] at this
      exact this
    refine g_kForZ2 ds.length (xs := ds.map V.int) (ys := hs.map V.int) (show SqB K true H1 a _ from ex_t e1 hS) (show SqB K true H1 b _ from ex_t e1 hT) (List.length_map _) (by rw [List.length_map, O.len])
      (fun i σ H' => ∃ v2 v3 : Option V, σ = [some (.ref r), some (.ref l), v2, v3] ∧ Ex H H' ∧ H' l = some (.lst ((cod ds hs i).map V.int)))
      ⟨_, _, rfl, e1, hl⟩ (fun i σ H' _ hP => by
        obtain ⟨_, _, _, e, _⟩ := hP
        exact ⟨ex_t e hS, ex_t e hT⟩) ?_ ?_
    · rintro i x y σ H2 T H3 hi hx hy ⟨v2, v3, rfl, e2, h2⟩ e3 nT hT'
      rw [← eds, mapV_at hi] at hx
      rw [← ehs, mapV_at hi] at hy
      cases hx
      cases hy
      refine gg_tup (SqT.of (K := K) hT') rfl ?_
      have h3 := e3 _ _ h2
      walk_at "go"
      refine g_kBM_list (SqL.of h3) ?_
      walk_at "go"
      rename_i p4 H4 n4 e4 h4
      refine g_extendL (e4 _ _ h3) h4 (lt1000 (by rw [List.length_map, cod_len]; simp; omega)) fun H5 e5 h5 => ?_
      walk_at "go"
      refine ⟨_, _, rfl, Exb.ex nl (e2.trans (e3.trans e4)) e5, ?_⟩
      rw [h5, cod_next, List.map_append]
      rfl
    · rintro σ H2 ⟨v2, v3, rfl, e2, h2⟩
      have h8 := cod_b8 O (Nat.le_refl ds.length)
      walk_at "go"
      refine ⟨l, _, rfl, .inr (SqL.of h2), ?_⟩
      walk_at "go"
      refine g_checksum (SqL.of h2) h8 ?_
      walk_at "go"
      refine g_kL (sz1000 (by rw [List.length_append, List.length_map, cod_len]; simp; omega)) fun p4 H4 n4 e4 h4 => ?_
      walk_at "go"
      exact g_bytL (ns := codeR ds hs) (SqL.of (by rw [h4]; unfold codeR; rw [List.map_append]; rfl)) (code_b8 O) (q _ (e2.trans e4))
/-! ### decode -/
def sp_check_byte (K : PySem.W.Frag) : Sp := fun vs H Q _ => ∃ (ns : List Int) (j : Nat) (lo hi v : Int), vs = [.byt (byteArr ns), .int (j : Int), .int lo, .int hi] ∧ (∀ v ∈ ns, 0 ≤ v ∧ v < 256) ∧ ns.length ≤ 1000 ∧ ns[j]? = some v ∧ lo ≤ v ∧ v ≤ hi ∧ Q .non H
theorem ok_check_byte (Z : Blt mg) (G : GFun K mg "check_byte" s_check_byte) : Df P w K mg base 1 "check_byte" ["data", "offset", "low", "high"] (sp_check_byte K) := by
  refine Df.of G sc_check_byte b_check_byte (fun vs H Q E h => ?_) (fun f cdv A outer st H vs Q E hr h => ?_)
  · obtain ⟨ns, j, lo, hi, v, rfl, _⟩ := h
    rfl
  · obtain ⟨ns, j, lo, hi, v, rfl, h8, hz, hv, h1, h2, q⟩ := h
    have hj := (List.getElem?_eq_some_iff.mp hv).1
    refine ⟨_, PSs.nox (pss_one (ps_if (PW.pt (pw_or (pt_cmpR op_ge (pv 1) (pe_callB c_len (by rfl) Z.zlen PySem.boot_len (pa_cons (pv 0) pa_nil)) (nomark _)) (pw_or1 (pt_not (pt_chain op_le op_le (pv 2) (pe_bix (pv 0) (pv 1) (fun _ _ => rfl)) (pv 3)))))) (pss_one ps_never) pss_nil)), ?_⟩
    walk_at "g0"
    walk_at "go"
    refine g_lenB hz ?_
    walk_at "go"
    refine g_bix h8 hz hv ?_
    walk_at "go"
    exact q
theorem g_check_byte {H : Hp} {Q : VK} {E : XK} {ns : List Int} {j : Nat} {lo hi v : Int} (h8 : ∀ v ∈ ns, 0 ≤ v ∧ v < 256) (hz : ns.length ≤ 1000) (hv : ns[j]? = some v) (h1 : lo ≤ v) (h2 : v ≤ hi) (q : Q .non H) : sp_check_byte K [.byt (byteArr ns), .int (j : Int), .int lo, .int hi] H Q E := ⟨ns, j, lo, hi, v, rfl, h8, hz, hv, h1, h2, q⟩
def sp_decode (K : PySem.W.Frag) (C : Addr) : Sp := fun vs H Q _ => ∃ (ds hs : List Int), vs = [.byt (byteArr (codeR ds hs))] ∧ RingOk ds hs ∧ ∀ r a b H', H r = none → Ex H H' → RingIn K C H' r a b ds hs → Q (.ref r) H'
set_option maxHeartbeats 8000000 in
theorem ok_decode (Z : Blt mg) (R : RingC K C) (c_FIRST_BYTE : ∃ t, mg "FIRST_BYTE" = some (.int 82 t)) (c_LEAST_READERS : ∃ t, mg "LEAST_READERS" = some (.int 2 t)) (c_MAX_READERS : ∃ t, mg "MAX_READERS" = some (.int 8 t)) (c_MAX_DAYS : ∃ t, mg "MAX_DAYS" = some (.int 30 t)) (c_MAX_BOOKS : ∃ t, mg "MAX_BOOKS" = some (.int 12 t))
    (D_check_byte : Df P w K mg base 1 "check_byte" ["data", "offset", "low", "high"] (sp_check_byte K)) (D_checksum_of : Df P w K mg base 1 "checksum_of" ["values"] (sp_checksum K)) (I_Ring : If P w K mg base "Ring" C 3 ["self", "days", "starts"] (sp_Ring_init K C)) (G : GFun K mg "decode_ring" s_decode_ring) : Df P w K mg base 5 "decode_ring" ["data"] (sp_decode K C) := by
  refine Df.of G sc_decode_ring b_decode_ring (fun vs H Q E h => ?_) (fun f cdv A outer st H vs Q E hr h => ?_)
  · obtain ⟨ds, hs, rfl, _⟩ := h
    rfl
  · obtain ⟨ds, hs, rfl, O, q⟩ := h
    have o2 := O.two
    have o8 := O.eight
    have o12 := O.twelve
    have o1 := O.one
    have h8 := code_b8 O
    have hz : (codeR ds hs).length ≤ 1000 := by rw [code_len]; omega
    obtain ⟨c0, c1⟩ := code_0 (ds := ds) (hs := hs)
    have cc := code_c (ds := ds) (hs := hs)
    have nn : ∀ x ∈ hs, 0 ≤ x := fun x hx => (O.hh x hx).1
    refine ⟨_, PSs.nox (pss_cons (ps_expr (pg D_check_byte hr (pa_cons (pv 0) (pa_cons pe_int (pa_cons (pint c_FIRST_BYTE) (pa_cons (pint c_FIRST_BYTE) pa_nil))))))
      (pss_cons (ps_expr (pg D_check_byte hr (pa_cons (pv 0) (pa_cons pe_int (pa_cons (pint c_LEAST_READERS) (pa_cons (pint c_MAX_READERS) pa_nil))))))
      (pss_cons (ps_par3 (i := 1) (j := 2) (l := 3) rfl sc_decode_ring.nd rfl rfl rfl (by decide) (by decide) (by decide) rfl rfl rfl (pa_cons (pe_lst pa_nil) (pa_cons (pe_lst pa_nil) (pa_cons pe_int pa_nil))) (by rfl))
      (pss_cons (ps_for PassesOwn.never rfl (pi_range1 (by rfl) Z.zrange (pa_cons (pe_bix (pv 0) pe_int (fun _ _ => rfl)) pa_nil)) (pg_name (i := 4) sc_decode_ring.nd rfl (by first | exact Or.inl rfl | exact Or.inr rfl)) (pss_cons (ps_expr (pg D_check_byte hr (pa_cons (pv 0) (pa_cons (pv 3) (pa_cons pe_int (pa_cons (pint c_MAX_DAYS) pa_nil))))))
          (pss_cons (ps_expr (pg D_check_byte hr (pa_cons (pv 0) (pa_cons (pe_op op_add (pv 3) pe_int) (pa_cons pe_int (pa_cons (pe_op op_sub (pint c_MAX_BOOKS) (pe_callB (cr_sum rfl) (by rfl) Z.zsum (by decide +kernel) (pa_cons (pv 2) pa_nil))) pa_nil))))))
          (pss_cons (ps_expr (pe_bm PySem.F.plainAttrs_list PySem.F.slot_list_append PySem.F.type_list_append mt_append (pv 1) (pa_cons (pe_bix (pv 0) (pv 3) (fun _ _ => rfl)) pa_nil)))
          (pss_cons (ps_expr (pe_bm PySem.F.plainAttrs_list PySem.F.slot_list_append PySem.F.type_list_append mt_append (pv 2) (pa_cons (pe_bix (pv 0) (pe_op op_add (pv 3) pe_int) (fun _ _ => rfl)) pa_nil)))
          (pss_one (ps_aug (i := 3) sc_decode_ring.nd rfl (by first | exact Or.inl rfl | exact Or.inr rfl) pe_int ip_add)))))))
      (pss_cons (ps_if (pt_cmpR op_eq (pe_callB (cr_sum rfl) (by rfl) Z.zsum (by decide +kernel) (pa_cons (pv 2) pa_nil)) pe_int (nomark _)) (pss_one ps_never) pss_nil)
      (pss_cons (ps_set (i := 5) sc_decode_ring.nd rfl (by first | exact Or.inl rfl | exact Or.inr rfl) (pg D_checksum_of hr (pa_cons (pe_callTy (c_listB rfl) (by rfl) Z.zlist (by decide +kernel) (pa_cons (pe_slice sl_byt (pv 0) po_none (po_some (pv 3))) pa_nil)) pa_nil)))
      (pss_cons (ps_expr (pg D_check_byte hr (pa_cons (pv 0) (pa_cons (pv 3) (pa_cons (pv 5) (pa_cons (pv 5) pa_nil))))))
      (pss_cons (ps_if (pt_cmpR op_gt (pe_callB c_len (by rfl) Z.zlen PySem.boot_len (pa_cons (pv 0) pa_nil)) (pe_op op_add (pv 3) pe_int) (nomark _)) (pss_one ps_never) pss_nil)
      (pss_one (ps_ret (pk I_Ring hr (pa_cons (pe_callTy c_tuple_of (by rfl) Z.ztuple (by decide +kernel) (pa_cons (pv 1) pa_nil)) (pa_cons (pe_callTy c_tuple_of (by rfl) Z.ztuple (by decide +kernel) (pa_cons (pv 2) pa_nil)) pa_nil))))))))))))), ?_⟩
    walk_at "g0"
    walk_at "go"
    refine g_check_byte (j := 0) h8 hz c0 (by omega) (by omega) ?_
    walk_at "go"
    refine g_check_byte (j := 1) h8 hz c1 (by omega) (by omega) ?_
    walk_at "go"
    rename_i l1 H1 n1 e1 hl1 l2 H2 n2 e2 hl2
    have n12 : l1 ≠ l2 := ne_of_none hl1 n2
    have hl13 := e2 _ _ hl1
    have hl23 := hl2
    have e13 := e1.trans e2
    have nh2 : H l2 = none := fresh_back e1 n2
    refine g_bix (j := 1) h8 hz c1 ?_
    walk_at "go"
    refine g_kForR1 ⟨by omega, by omega⟩ (fun i σ H' => ∃ v4 v5 : Option V, σ = [some (.byt (byteArr (codeR ds hs))), some (.ref l1), some (.ref l2), some (.int ((2 + 2 * i : Nat) : Int)), v4, v5] ∧ Ex H H' ∧ H' l1 = some (.lst ((ds.take i).map V.int)) ∧ H' l2 = some (.lst ((hs.take i).map V.int)))
      ⟨_, _, rfl, e13, hl13, hl23⟩ ?_ ?_
    · rintro i σ H4 hi ⟨v4, v5, rfl, e4, h14, h24⟩
      have hil : i < ds.length := by omega
      obtain ⟨ca, cb⟩ := code_at (hs := hs) hil
      have hd := O.dd _ (getD_mem hil)
      have hh := O.hh _ (getD_mem (ds := hs) (j := i) (by rw [O.len]; exact hil))
      have htk := ftake nn (k := i) (by rw [O.len]; exact hil)
      walk_at "go"
      refine g_check_byte h8 hz ca (by omega) (by omega) ?_
      have hle := O.tk (k := i + 1) (by omega)
      have hgt : (hs.getD i 0) = (fH hs i : Int) := by
        show hs.getD i 0 = ((hs.getD i 0).toNat : Int)
        omega
      walk_at "go"
      refine g_check_byte (j := 2 + 2 * i + 1) h8 hz cb (by omega) (by omega) ?_
      walk_at "go"
      refine g_kBM_list (SqL.of h14) ?_
      walk_at "go"
      refine g_bix h8 hz ca ?_
      walk_at "go"
      refine g_append h14 (lt1000 (by rw [List.length_map, List.length_take]; omega)) fun H5 e5 h15 => ?_
      have h25 := e5 _ _ (Ne.symm n12) h24
      walk_at "go"
      refine g_kBM_list (SqL.of h25) ?_
      walk_at "go"
      refine g_bix (j := 2 + 2 * i + 1) h8 hz cb ?_
      walk_at "go"
      refine g_append h25 (lt1000 (by rw [List.length_map, List.length_take]; omega)) fun H6 e6 h26 => ?_
      have h16 := e6 _ _ n12 h15
      walk_at "go"
      refine ⟨some (.int (i : Int)), v5, ?_, Exb.ex nh2 (Exb.ex n1 e4 e5) e6, ?_, ?_⟩
      · show _ = [some (V.byt (byteArr (codeR ds hs))), some (.ref l1), some (.ref l2), some (.int ((2 + 2 * (i + 1) : Nat) : Int)), some (.int (i : Int)), v5]
        rw [show ((2 + 2 * (i + 1) : Nat) : Int) = ((2 + 2 * i : Nat) : Int) + 2 by omega]
        rfl
      · rw [h16, take_getD hil, List.map_append]
        rfl
      · rw [h26, take_getD (by rw [O.len]; exact hil), List.map_append]
        rfl
    · rintro σ H4 ⟨v4, v5, rfl, e4, h14, h24⟩
      rw [Int.toNat_natCast, List.take_length] at h14
      rw [Int.toNat_natCast, ← O.len, List.take_length] at h24
      rw [Int.toNat_natCast]
      have htake : (codeR ds hs).take (2 + 2 * ds.length) = cod ds hs ds.length := by
        unfold codeR
        rw [List.take_append_of_le_length (by rw [cod_len]; exact Nat.le_refl _), List.take_of_length_le (by rw [cod_len]; exact Nat.le_refl _)]
      have hcl := code_len (ds := ds) (hs := hs)
      walk_at "go"
      refine g_slB (by rw [code_len]; omega) hz ?_
      rw [htake]
      have hcd := cod_b8 O (Nat.le_refl ds.length)
      walk_at "go"
      refine g_lstB hcd (by rw [cod_len]; omega) fun p5 H5 n5 e5 h5 => ?_
      walk_at "go"
      refine g_checksum (SqL.of h5) hcd ?_
      walk_at "go"
      refine g_check_byte h8 hz cc (by omega) (by omega) ?_
      walk_at "go"
      refine g_lenB hz ?_
      have h15 := e5 _ _ h14
      have h25 := e5 _ _ h24
      walk_at "go"
      rename_i p6 H6 n6 e6 h6 p7 H7 n7 e7 h7
      have e07 := ((e4.trans e5).trans e6).trans e7
      exact g_mkRing (ex_t e7 (h6.sq (K := K))) (h7.sq (K := K)) O fun r' H8 n8 e8 R8 => q r' _ _ H8 (fresh_back e07 n8) (e07.trans e8) R8
end
end G48

namespace G48
open PySem PySem.Spec PyProof.Rows L2 Evl
abbrev N_is_numeral : List Str := ["word", "digit"]
theorem sc_is_numeral : FnScope N_is_numeral ["word"] (defScope s_is_numeral) := ⟨rfl, rfl, rfl, by decide +kernel, rfl, by decide +kernel, by decide +kernel⟩
theorem b_is_numeral : BindL "is_numeral" "is_numeral" s_is_numeral ["word"] := fun _ _ _ _ _ _ us hl => match us, hl with | [_], _ => rfl
abbrev N_numbers_of : List Str := ["row", "line", "words", "number"]
theorem sc_numbers_of : FnScope N_numbers_of ["row", "line"] (defScope s_numbers_of) := ⟨rfl, rfl, rfl, by decide +kernel, rfl, by decide +kernel, by decide +kernel⟩
theorem b_numbers_of : BindL "numbers_of" "numbers_of" s_numbers_of ["row", "line"] := fun _ _ _ _ _ _ us hl => match us, hl with | [_, _], _ => rfl
abbrev N_format_ring : List Str := ["ring", "span", "heap"]
theorem sc_format_ring : FnScope N_format_ring ["ring"] (defScope s_format_ring) := ⟨rfl, rfl, rfl, by decide +kernel, rfl, by decide +kernel, by decide +kernel⟩
theorem b_format_ring : BindL "format_ring" "format_ring" s_format_ring ["ring"] := fun _ _ _ _ _ _ us hl => match us, hl with | [_], _ => rfl
end G48
--lib Z
--lib W
/-! rings as text -/
namespace G48
open PySem PySem.Spec PyProof.Rows L2 Evl
/-! the steps -/
local macro_rules | `(tactic| walk_at "as") => `(tactic| with_reducible assumption)
local macro_rules | `(tactic| walk_at "hp") => `(tactic| first
  | with_reducible assumption
  | ((with_reducible apply SqT.of); walk_at "as")
  | ((with_reducible apply SqL.of); walk_at "as")
  | ((with_reducible apply ex_at); (focus walk_at "as"); walk_at "hp")
  | ((with_reducible apply ex_t); (focus walk_at "as"); walk_at "hp")
  | ((with_reducible apply ex_l); (focus walk_at "as"); walk_at "hp")
  | ((with_reducible apply exb_ins); (focus walk_at "as"); (focus walk_at "hp"); walk_at "hp")
  | ((with_reducible apply exb_t); (focus walk_at "as"); (focus walk_at "hp"); walk_at "hp")
  | ((with_reducible apply exb_at); (focus walk_at "as"); (focus walk_at "ne"); walk_at "hp")
  | ((with_reducible apply exb_l); (focus walk_at "as"); (focus walk_at "ne"); walk_at "hp"))
local macro_rules | `(tactic| walk_at "ne") => `(tactic| first
  | with_reducible assumption
  | exact Ne.symm (by with_reducible assumption)
  | exact ne_of_none (by with_reducible assumption) (by with_reducible assumption)
  | exact Ne.symm (ne_of_none (by with_reducible assumption) (by with_reducible assumption)))
local macro_rules | `(tactic| walk_at "tr") => `(tactic| first
  | rfl
  | with_reducible assumption
  | exact decide_eq_true (by first | with_reducible assumption | omega)
  | exact decide_eq_false (by first | with_reducible assumption | omega)
  | (rw [Bool.not_eq_true']; exact decide_eq_false (by first | with_reducible assumption | omega))
  | (rw [Bool.not_eq_false']; exact decide_eq_true (by first | with_reducible assumption | omega)))
local macro_rules | `(tactic| walk_at "nn") => `(tactic| first | with_reducible assumption | (exact List.cons_ne_nil _ _))
local macro_rules | `(tactic| walk_at "sz") => `(tactic| first | (exact sz1000 (Nat.le_of_ble_eq_true rfl)) | (refine sz1000 ?_; simp only [List.length_map, List.length_cons, List.length_nil, List.length_append]; omega) | with_reducible assumption)
local macro_rules | `(tactic| walk_at "sl") => `(tactic| first | with_reducible assumption | (refine lt1000 ?_; simp only [List.length_map, List.length_cons, List.length_nil, List.length_append]; omega) | (refine lt1000 ?_; omega))
local macro_rules | `(tactic| walk_at "ix") => `(tactic| first | rfl | with_reducible assumption)
local macro_rules | `(tactic| walk_at "rg") => `(tactic| exact RgOk.of_le (by omega) (by omega) (by omega) (by omega))
local macro_rules | `(tactic| walk_at "sp") => `(tactic| fail "sp")
local macro_rules | `(tactic| walk_at "cl") => `(tactic| with_reducible assumption)
local macro_rules | `(tactic| walk_at "lk") => `(tactic| with_reducible assumption)
local macro_rules | `(tactic| walk_at "it") => `(tactic| first | rfl | with_reducible assumption | exact atI_nat (by with_reducible assumption))
local macro_rules | `(tactic| walk_at "g1") => `(tactic| first
  | (with_reducible apply g_var); (focus rfl)
  | with_reducible apply g_c
  | with_reducible apply g_seq
  | with_reducible apply g_asg
  | with_reducible apply gg_name
  | with_reducible apply g_op
  | with_reducible apply g_cons
  | with_reducible apply g_nil
  | with_reducible apply g_cb
  | with_reducible apply g_fld
  | ((with_reducible apply g_kFld); (focus walk_at "hp"); (focus walk_at "cl"); (focus walk_at "cl"); (focus walk_at "lk"))
  | with_reducible apply g_call
  | walk_at "sp"
  | with_reducible apply g_ret
  | with_reducible apply g_drop
  | with_reducible apply g_test
  | with_reducible apply g_B
  | with_reducible apply g_kTest
  | with_reducible apply g_ifS
  | with_reducible apply g_kIfST
  | with_reducible apply g_kIfSF
  | with_reducible apply g_add
  | with_reducible apply g_sub
  | with_reducible apply g_lt
  | with_reducible apply g_le
  | with_reducible apply g_gt
  | with_reducible apply g_ge
  | with_reducible apply g_eqI
  | with_reducible apply g_neI
  | ((with_reducible apply g_mod); (focus first | decide | omega))
  | ((with_reducible apply g_mul); (focus first | (left; constructor <;> omega) | (right; constructor <;> omega)))
  | ((with_reducible apply g_fdiv); (focus (constructor <;> omega)))
  | ((with_reducible apply g_ixT); (focus walk_at "hp"); (focus walk_at "it"))
  | ((with_reducible apply g_ixL); (focus walk_at "hp"); (focus walk_at "it"))
  | with_reducible apply g_and
  | with_reducible apply g_or
  | with_reducible apply g_not
  | with_reducible apply g_kNotT
  | with_reducible apply g_kNotF
  | with_reducible apply g_if
  | with_reducible apply g_kAndT
  | with_reducible apply g_kAndF
  | with_reducible apply g_kOrT
  | with_reducible apply g_kOrF
  | with_reducible apply g_kIfT
  | with_reducible apply g_kIfF
  | with_reducible apply g_next
  | with_reducible apply g_andV
  | with_reducible apply g_orV
  | with_reducible apply g_notV
  | with_reducible apply g_kNotV
  | with_reducible apply g_kAndVT
  | with_reducible apply g_kAndVF
  | with_reducible apply g_chain
  | with_reducible apply g_kChainT
  | with_reducible apply g_kChainF
  | with_reducible apply g_tup
  | with_reducible apply g_lst
  | ((with_reducible apply g_kT); (focus walk_at "sz"); intro _ _ _ _ _)
  | ((with_reducible apply g_kL); (focus walk_at "sz"); intro _ _ _ _ _)
  | with_reducible apply g_un
  | with_reducible apply g_neg
  | with_reducible apply g_meth
  | ((with_reducible apply g_kMeth); (focus walk_at "hp"); (focus walk_at "lk"))
  | with_reducible apply g_prop
  | ((with_reducible apply g_kProp); (focus walk_at "hp"))
  | with_reducible apply g_make
  | with_reducible apply g_par
  | with_reducible apply g_kPar
  | ((with_reducible apply g_lenLM); (focus walk_at "hp"))
  | ((with_reducible apply g_lenTM); (focus walk_at "hp"))
  | ((with_reducible apply g_lenL); (focus walk_at "hp"))
  | ((with_reducible apply g_lenT); (focus walk_at "hp"))
  | with_reducible apply g_int1
  | with_reducible apply g_max2
  | with_reducible apply g_min2
  | ((with_reducible apply g_listL); (focus walk_at "hp"); intro _ _ _ _ _)
  | ((with_reducible apply g_listT); (focus walk_at "hp"); intro _ _ _ _ _)
  | ((with_reducible apply g_tupL); (focus walk_at "hp"); intro _ _ _ _ _)
  | ((with_reducible apply g_sum); (focus walk_at "hp"))
  | with_reducible apply g_sfld
  | with_reducible apply g_sl
  | with_reducible apply g_nopart
  | with_reducible apply g_part
  | with_reducible apply g_kPart
  | with_reducible apply g_lstRg
  | with_reducible apply g_rg1
  | with_reducible apply g_kRg1
  | with_reducible apply g_bm
  | with_reducible apply gg_sub
  | ((with_reducible apply gg_tup); (focus walk_at "hp"); (focus rfl))
  | with_reducible apply gg_cons
  | with_reducible apply gg_nil
  | with_reducible apply g_forL
  | with_reducible apply g_forT
  | with_reducible apply g_forR1
  | with_reducible apply g_forR2
  | with_reducible apply g_forE
  | with_reducible apply g_forEL
  | ((with_reducible apply g_maxT); (focus walk_at "hp"); (focus walk_at "nn"))
  | ((with_reducible apply g_maxL); (focus walk_at "hp"); (focus walk_at "nn"))
  | ((with_reducible apply g_catA); (focus walk_at "hp"); (focus walk_at "hp"); (focus walk_at "sz"); intro _ _ _ _)
  | ((with_reducible apply g_slA); (focus walk_at "hp"); intro _ _ _ _)
  | ((with_reducible apply g_tupD); (focus walk_at "hp"); intro _ _ _ _ _)
  | ((with_reducible apply g_setL); (focus walk_at "hp"); (focus walk_at "ix"); intro _ _ _)
  | ((with_reducible apply g_append); (focus walk_at "hp"); (focus walk_at "sl"); intro _ _ _)
  | ((with_reducible apply g_aug); (focus rfl))
  | with_reducible apply g_ipI
  | with_reducible apply g_retN
  | with_reducible apply g_lcR1
  | with_reducible apply g_lcR2
  | with_reducible apply g_lcL
  | with_reducible apply g_lcU
  | with_reducible apply g_lcN
  | ((with_reducible apply g_kLcG); (focus rfl))
  | with_reducible apply g_yes
  | with_reducible apply g_kLcTT
  | with_reducible apply g_kLcTF
  | ((with_reducible apply g_kLcE); (focus walk_at "hp"); (focus walk_at "sl"); intro _ _ _)
  | ((with_reducible apply g_pow); (focus (constructor <;> (try constructor) <;> decide)))
  | ((with_reducible apply g_kLRg); (focus walk_at "rg"); intro _ _ _ _ _)
  | ((with_reducible apply g_cat); (focus walk_at "hp"); (focus walk_at "hp"); (focus walk_at "sz"); intro _ _ _ _ _)
  | ((with_reducible apply g_slL); (focus walk_at "hp"); intro _ _ _ _ _)
  | with_reducible apply g_bmT
  | with_reducible apply g_break
  | with_reducible apply g_cont)
local macro_rules | `(tactic| walk_at "g0") => `(tactic| try dsimp only [L2.cxOf, L2.Cx.nox, L2.Cx.wish])
local macro_rules | `(tactic| walk_at "yn") => `(tactic| first
  | ((with_reducible apply y_kIfS); (focus walk_at "tr"))
  | ((with_reducible apply n_kIfS); (focus walk_at "tr"))
  | ((with_reducible apply y_kOr); (focus walk_at "tr"))
  | ((with_reducible apply n_kOr); (focus walk_at "tr"))
  | ((with_reducible apply y_kAnd); (focus walk_at "tr"))
  | ((with_reducible apply n_kAnd); (focus walk_at "tr"))
  | ((with_reducible apply y_kNot); (focus walk_at "tr"))
  | ((with_reducible apply n_kNot); (focus walk_at "tr"))
  | ((with_reducible apply y_kIf); (focus walk_at "tr"))
  | ((with_reducible apply n_kIf); (focus walk_at "tr"))
  | ((with_reducible apply y_kAndV); (focus walk_at "tr"))
  | ((with_reducible apply n_kAndV); (focus walk_at "tr"))
  | ((with_reducible apply y_kOrV); (focus walk_at "tr"))
  | ((with_reducible apply n_kOrV); (focus walk_at "tr"))
  | ((with_reducible apply y_kChain); (focus walk_at "tr"))
  | ((with_reducible apply n_kChain); (focus walk_at "tr"))
  | ((with_reducible apply y_kLcT); (focus walk_at "tr"))
  | ((with_reducible apply n_kLcT); (focus walk_at "tr"))
  | ((with_reducible apply y_kWh); (focus walk_at "tr"))
  | ((with_reducible apply n_kWh); (focus walk_at "tr")))
local macro_rules | `(tactic| walk_at "go") => `(tactic| repeat (first | walk_at "g1" | walk_at "yn"))
local macro_rules | `(tactic| walk_at "hp") => `(tactic| first
  | ((with_reducible apply RingIn.ex); (focus walk_at "as"); walk_at "hp")
  | ((with_reducible apply RingAt.ex); (focus walk_at "as"); walk_at "hp")
  | ((with_reducible apply RingIn.exb); (focus walk_at "as"); (focus walk_at "hp"); walk_at "hp")
  | ((with_reducible apply RingAt.exb); (focus walk_at "as"); (focus walk_at "hp"); walk_at "hp")
  | ((with_reducible apply TupK.ex); (focus walk_at "as"); walk_at "hp")
  | ((with_reducible apply TupK.exb); (focus walk_at "as"); (focus walk_at "hp"); walk_at "hp"))
local macro_rules | `(tactic| walk_at "lk") => `(tactic| first | with_reducible exact rf_spans | with_reducible exact rf_heaps | with_reducible exact rf_total | with_reducible exact rf_nr | with_reducible exact rf_wd)
local macro_rules | `(tactic| walk_at "sp") => `(tactic| first
  | ((with_reducible apply g_isiTup); (focus walk_at "hp"))
  | ((with_reducible apply g_isiLst); (focus walk_at "hp"))
  | ((with_reducible apply g_isint); (focus omega); (focus omega))
  | ((with_reducible apply g_checkn); (focus omega); (focus omega))
  | ((with_reducible apply g_rbooks); (focus walk_at "hp"))
  | ((with_reducible apply g_rpace); (focus walk_at "hp"); intro _ _ _ _)
  | ((with_reducible apply g_rlen); (focus walk_at "hp"))
  | ((with_reducible apply g_rneed); (focus walk_at "hp"); (focus omega))
  | ((with_reducible apply g_rneedM); (focus walk_at "hp"))
  | ((with_reducible apply g_rwithM); (focus walk_at "hp"))
  | ((with_reducible apply g_rspans); (focus walk_at "hp"); (focus with_reducible assumption))
  | ((with_reducible apply g_rheaps); (focus walk_at "hp"); (focus with_reducible assumption))
  | ((with_reducible apply g_rtotal); (focus walk_at "hp"); (focus with_reducible assumption)))

local macro_rules | `(tactic| walk_at "g1") => `(tactic| first
  | with_reducible apply g_m1
  | with_reducible apply g_kM1
  | with_reducible apply g_joined
  | with_reducible apply g_jcons
  | with_reducible apply g_jnil
  | with_reducible apply g_kOut
  | with_reducible apply g_fmt
  | with_reducible apply g_lcTx
  | with_reducible apply g_lcZ
  | with_reducible apply g_lcNL
  | with_reducible apply g_forZ2
  | with_reducible apply g_forZ3
  | with_reducible apply g_inS)

def numI (i : Int) : PySem.Str := (toString i : String)
def dl (i : Int) : List Nat := (numI i).cps.toList
theorem num_all : (List.range 100).all (fun n => decide (1 ≤ (numI (n : Int)).length) && decide ((numI (n : Int)).length ≤ 2) && ((numI (n : Int)).cps.toList.all fun c => decide (48 ≤ c) && decide (c ≤ 57)) && decide (numI (n : Int) = "0" ∨ (numI (n : Int)).cps.toList[0]? ≠ some 48) && decide (PySem.intText? (numI (n : Int)) = some (n : Int))) = true := by decide +kernel
theorem dig_all : (List.range 10).all (fun c => !(Builtin.Str.occurrences "0123456789" ⟨#[48 + c]⟩ 0 (("0123456789" : PySem.Str)).length 1).isEmpty) = true := by decide +kernel
structure NumOk (i : Int) : Prop where
  l1 : 1 ≤ (numI i).length
  l2 : (numI i).length ≤ 2
  dg : ∀ c ∈ dl i, 48 ≤ c ∧ c ≤ 57
  hd : numI i = "0" ∨ (dl i)[0]? ≠ some 48
  it : PySem.intText? (numI i) = some i
theorem num_ok {i : Int} (h0 : 0 ≤ i) (h1 : i < 100) : NumOk i := by
  have := List.all_eq_true.mp num_all i.toNat (List.mem_range.mpr (by omega))
  rw [show ((i.toNat : Nat) : Int) = i by omega] at this
  simp only [Bool.and_eq_true, decide_eq_true_eq, List.all_eq_true] at this
  obtain ⟨⟨⟨⟨a, b⟩, c⟩, d⟩, e⟩ := this
  exact ⟨a, b, c, d, e⟩
theorem dig_in {c : Nat} (h : 48 ≤ c ∧ c ≤ 57) : (!(Builtin.Str.occurrences "0123456789" ⟨#[c]⟩ 0 (("0123456789" : PySem.Str)).length 1).isEmpty) = true := by
  have := List.all_eq_true.mp dig_all (c - 48) (List.mem_range.mpr (by omega))
  rw [show 48 + (c - 48) = c by omega] at this
  exact this
theorem rd_S : ("reader" : PySem.Str) = SX.S [114, 101, 97, 100, 101, 114] := by decide +kernel
theorem bl_S : (" " : PySem.Str) = SX.S [32] := by decide +kernel
theorem lf_S : ("\n" : PySem.Str) = SX.S [10] := by decide +kernel
theorem em_S : PySem.Str.empty = SX.S [] := by decide +kernel
theorem num_S (i : Int) : numI i = SX.S (dl i) := (SX.S_tl _).symm
theorem dl_len {i : Int} : (dl i).length = (numI i).length := by rw [num_S, SX.S_len]
/-- a row -/
def lineL (d h : Int) : List Nat := TL.joinL [32] [[114, 101, 97, 100, 101, 114], dl d, dl h]
theorem line_cat (d h : Int) : PySem.Str.empty ++ "reader" ++ " " ++ numI d ++ " " ++ numI h = SX.S (lineL d h) := by
  rw [em_S, rd_S, bl_S, num_S d, num_S h]
  simp only [SX.S_cat]
  refine congrArg SX.S ?_
  unfold lineL
  simp [TL.joinL]
def linesL (ds hs : List Int) (n : Nat) : List (List Nat) := (List.range n).map fun j => lineL (ds.getD j 0) (hs.getD j 0)
def txtR (ds hs : List Int) : PySem.Str := Txt.join "\n" ((linesL ds hs ds.length).map SX.S)
theorem line_len {d h : Int} (hd : NumOk d) (hh : NumOk h) : (lineL d h).length ≤ 12 := by
  have h1 := hd.l2
  have h2 := hh.l2
  rw [← dl_len] at h1 h2
  unfold lineL
  simp [TL.joinL]
  omega
theorem lineL_free {d h : Int} (hd : NumOk d) (hh : NumOk h) : 10 ∉ lineL d h := fun z => by
  unfold lineL at z
  simp [TL.joinL] at z
  rcases z with z | z
  · have := hd.dg _ z; omega
  · have := hh.dg _ z; omega
theorem line_split {d h : Int} (hd : NumOk d) (hh : NumOk h) : Txt.split (SX.S (lineL d h)) " " = ([("reader" : PySem.Str), numI d, numI h] : List PySem.Str) := by
  rw [bl_S, SX.split_S (by simp) (by decide)]
  unfold lineL
  rw [SX.spl_join (by simp) (fun p hp => ?_)]
  · rw [rd_S, num_S d, num_S h]; rfl
  · simp only [List.mem_cons, List.not_mem_nil, or_false] at hp
    rcases hp with rfl | rfl | rfl
    · decide
    · intro z; have := hd.dg _ z; omega
    · intro z; have := hh.dg _ z; omega
theorem linesL_len {ds hs : List Int} {n : Nat} : (linesL ds hs n).length = n := by unfold linesL; rw [List.length_map, List.length_range]
theorem nums_ok {ds hs : List Int} (O : RingOk ds hs) {j : Nat} (hj : j < ds.length) : NumOk (ds.getD j 0) ∧ NumOk (hs.getD j 0) := by
  have h1 := O.dd _ (getD_mem hj)
  have h2 := O.hh _ (getD_mem (ds := hs) (j := j) (by rw [O.len]; exact hj))
  exact ⟨num_ok (by omega) (by omega), num_ok (by omega) (by omega)⟩
theorem lines_mem {ds hs : List Int} (O : RingOk ds hs) {p : List Nat} (hp : p ∈ linesL ds hs ds.length) : p.length ≤ 12 ∧ 10 ∉ p := by
  unfold linesL at hp
  obtain ⟨j, hj, rfl⟩ := List.mem_map.mp hp
  obtain ⟨h1, h2⟩ := nums_ok O (List.mem_range.mp hj)
  exact ⟨line_len h1 h2, lineL_free h1 h2⟩
theorem txt_split {ds hs : List Int} (O : RingOk ds hs) : Txt.split (txtR ds hs) "\n" = (linesL ds hs ds.length).map SX.S := by
  unfold txtR
  rw [lf_S, SX.join_S, SX.split_S (by simp) (by decide), SX.spl_join ?_ fun p hp => (lines_mem O hp).2]
  intro z
  have := linesL_len (ds := ds) (hs := hs) (n := ds.length)
  have := O.two
  rw [z] at *
  simp at *
  omega
theorem nsum_le {k : Nat} : ∀ {l : List Nat}, (∀ x ∈ l, x ≤ k) → l.sum ≤ l.length * k
  | [], _ => by simp
  | x :: l, h => by
    have h1 := h x List.mem_cons_self
    have h2 := nsum_le (l := l) fun y hy => h y (List.mem_cons_of_mem _ hy)
    rw [List.sum_cons, List.length_cons, Nat.succ_mul]
    omega
theorem lens_le {ds hs : List Int} (O : RingOk ds hs) : (((linesL ds hs ds.length).map SX.S).map (·.length)).sum ≤ 96 := by
  have h : ∀ x ∈ ((linesL ds hs ds.length).map SX.S).map (·.length), x ≤ 12 := fun x hx => by
    rw [SX.lens] at hx
    obtain ⟨p, hp, rfl⟩ := List.mem_map.mp hx
    exact (lines_mem O hp).1
  have := nsum_le h
  rw [List.length_map, List.length_map, linesL_len] at this
  have := O.eight
  omega
theorem txt_len {ds hs : List Int} (O : RingOk ds hs) : (txtR ds hs).length ≤ 200 := by
  have h1 := StrLaws.join_length_le ("\n" : PySem.Str) ((linesL ds hs ds.length).map SX.S)
  have h2 := lens_le O
  have h3 : ("\n" : PySem.Str).length = 1 := by decide +kernel
  rw [List.length_map, linesL_len, h3] at h1
  have := O.eight
  unfold txtR
  rw [TL.join_eq]
  omega
section
variable {P : Program} {w : World} {K : PySem.W.Frag} {mg : Str → Option Value} {base : Heap} {C SC : Addr}
def sp_is_numeral (K : PySem.W.Frag) : Sp := fun vs H Q _ => ∃ (i : Int), vs = [.str (numI i)] ∧ NumOk i ∧ ∀ H', Ex H H' → Q (.bl true) H'
set_option maxHeartbeats 8000000 in
theorem ok_is_numeral (Z : Blt mg) (c_MAX_DIGITS : ∃ t, mg "MAX_DIGITS" = some (.int 2 t)) (c_DIGITS : ∃ t, mg "DIGITS" = some (.str "0123456789" t)) (G : GFun K mg "is_numeral" s_is_numeral) : Df P w K mg base 1 "is_numeral" ["word"] (sp_is_numeral K) := by
  refine Df.of G sc_is_numeral b_is_numeral (fun vs H Q E h => ?_) (fun f cdv A outer st H vs Q E hr h => ?_)
  · obtain ⟨i, rfl, _⟩ := h
    rfl
  · obtain ⟨i, rfl, O, q⟩ := h
    have h1 := O.l1
    have h2 := O.l2
    refine ⟨_, PSs.nox (pss_cons (ps_if (PW.pt (pw_or (pt_not (pt_chain op_le op_le pe_int (pe_callB c_len (by rfl) Z.zlen PySem.boot_len (pa_cons (pv 0) pa_nil)) (pint c_MAX_DIGITS))) (pw_or1 (pt_not (pt_val (pe_callB (cr_all rfl) (by rfl) Z.zall (by decide +kernel) (pa_cons (pe_lc (own := [("digit", 1)]) rfl sc_is_numeral.nd (pi_str (pv 0)) (blkOk_by (N := N_is_numeral) (sc := defScope s_is_numeral) (by decide +kernel)) (fun _ _ _ _ _ => (pg_name (i := 1) sc_is_numeral.nd rfl (by first | exact Or.inl rfl | exact Or.inr rfl))) (fun _ _ _ _ _ => pts_nil) (fun _ _ _ _ _ => (pe_cmpR op_inS (pv 1) (pstr c_DIGITS) (by rfl)))) pa_nil))))))) (pss_one (ps_ret pe_bl)) pss_nil)
      (pss_one (ps_ret (pe_or (pe_cmpR op_eq (pv 0) pe_str (nomark _)) (pe_one (pe_cmpR op_ne (pe_ix ix_str (pv 0) pe_int (fun _ _ => rfl)) pe_str (nomark _))))))), ?_⟩
    walk_at "g0"
    walk_at "go"
    refine g_lenS (sz1000 (by omega)) ?_
    walk_at "go"
    refine g_kLcTx (fun D j H' => Ex H H' ∧ H' D = some (.lst ((List.replicate j true).map V.bl))) (fun D H1 nD eD hD => ⟨eD, hD⟩) (fun D j c H' nD hc hP => ?_) (fun D H1 nD hP => ?_)
    · obtain ⟨e1, hD⟩ := hP
      have hcm : c ∈ dl i := by
        rw [← Array.getElem?_toList] at hc
        exact List.mem_of_getElem? hc
      have hjl : j < (dl i).length := by
        rw [← Array.getElem?_toList] at hc
        exact (List.getElem?_eq_some_iff.mp hc).1
      rw [dl_len] at hjl
      walk_at "go"
      rw [dig_in (O.dg c hcm)]
      refine g_kLcE hD (lt1000 (by rw [List.length_map, List.length_replicate]; omega)) fun H2 e2 h2 => ⟨Exb.ex nD e1 e2, ?_⟩
      rw [h2, List.replicate_succ', List.map_append]
      rfl
    · obtain ⟨e1, hD⟩ := hP
      walk_at "go"
      refine ⟨D, _, rfl, SqL.of hD, ?_⟩
      rw [show (List.replicate (numI i).cps.size true).all id = true by simp]
      walk_at "go"
      refine g_eqS rfl ?_
      by_cases hz : numI i = "0"
      · rw [decide_eq_true (congrArg V.str hz)]
        walk_at "go"
        exact q _ e1
      · rw [decide_eq_false (fun y => hz (V.str.inj y))]
        walk_at "go"
        obtain ⟨c, hc⟩ : ∃ c, (dl i)[0]? = some c := ⟨_, List.getElem?_eq_getElem (by rw [dl_len]; omega)⟩
        refine ⟨numI i, 0, c, rfl, rfl, sz1000 (by omega), (show atI (dl i) ((0 : Nat) : Int) = some c from atI_nat hc), ?_⟩
        walk_at "go"
        refine g_neS rfl ?_
        rw [decide_eq_false (fun y => by
          have y := V.str.inj y
          have y2 : (⟨#[c]⟩ : PySem.Str) = SX.S [48] := y.trans (by decide +kernel)
          have y3 : c = 48 := by
            have := SX.S_inj (a := [c]) (b := [48]) y2
            simpa using this
          rcases O.hd with y4 | y4
          · exact hz y4
          · exact y4 (by rw [hc, y3]))]
        walk_at "go"
        exact q _ e1
theorem g_is_numeral {H : Hp} {Q : VK} {E : XK} {i : Int} (O : NumOk i) (q : ∀ H', Ex H H' → Q (.bl true) H') : sp_is_numeral K [.str (numI i)] H Q E := ⟨i, rfl, O, q⟩
def sp_numbers_of (K : PySem.W.Frag) : Sp := fun vs H Q _ => ∃ (row d h : Int), vs = [.int row, .str (SX.S (lineL d h))] ∧ NumOk d ∧ NumOk h ∧ ∀ p H', H p = none → Ex H H' → H' p = some (.tup [.int d, .int h]) → Q (.ref p) H'
set_option maxHeartbeats 8000000 in
theorem ok_numbers_of (Z : Blt mg) (c_READER : ∃ t, mg "READER" = some (.str "reader" t)) (c_WORDS : ∃ t, mg "WORDS" = some (.int 3 t)) (D_is_numeral : Df P w K mg base 1 "is_numeral" ["word"] (sp_is_numeral K)) (G : GFun K mg "numbers_of" s_numbers_of) : Df P w K mg base 2 "numbers_of" ["row", "line"] (sp_numbers_of K) := by
  refine Df.of G sc_numbers_of b_numbers_of (fun vs H Q E h => ?_) (fun f cdv A outer st H vs Q E hr h => ?_)
  · obtain ⟨row, d, h, rfl, _⟩ := h
    rfl
  · obtain ⟨row, d, hh, rfl, Od, Oh, q⟩ := h
    refine ⟨_, PSs.nox (pss_cons (ps_set (i := 2) sc_numbers_of.nd rfl (by first | exact Or.inl rfl | exact Or.inr rfl) (pe_splitW (pv 1) pe_str))
      (pss_cons (ps_if (pt_cmpR op_ne (pe_ix ix_list (pv 2) pe_int (fun _ _ => rfl)) (pstr c_READER) (nomark _)) (pss_one ps_never) pss_nil)
      (pss_cons (ps_for PassesOwn.never rfl (pi_range2 (by rfl) Z.zrange (pa_cons pe_int (pa_cons (pint c_WORDS) pa_nil))) (pg_name (i := 3) sc_numbers_of.nd rfl (by first | exact Or.inl rfl | exact Or.inr rfl)) (pss_one (ps_if (PW.pt (pw_or (pt_cmpR op_ge (pv 3) (pe_callB c_len (by rfl) Z.zlen PySem.boot_len (pa_cons (pv 2) pa_nil)) (nomark _)) (pw_or1 (pt_not (pt_val (pg D_is_numeral hr (pa_cons (pe_ix ix_list (pv 2) (pv 3) (fun _ _ => rfl)) pa_nil))))))) (pss_one ps_never) pss_nil)))
      (pss_cons (ps_if (pt_cmpR op_gt (pe_callB c_len (by rfl) Z.zlen PySem.boot_len (pa_cons (pv 2) pa_nil)) (pint c_WORDS) (nomark _)) (pss_one ps_never) pss_nil)
      (pss_one (ps_ret (pe_tup (pa_cons (pe_callTy c_intS (by rfl) Z.zint (by decide +kernel) (pa_cons (pe_ix ix_list (pv 2) pe_int (fun _ _ => rfl)) pa_nil)) (pa_cons (pe_callTy c_intS (by rfl) Z.zint (by decide +kernel) (pa_cons (pe_ix ix_list (pv 2) pe_int (fun _ _ => rfl)) pa_nil)) pa_nil))))))))), ?_⟩
    walk_at "g0"
    walk_at "go"
    have hl := line_len Od Oh
    refine g_split (by decide +kernel) (by rw [SX.S_len]; omega) fun p1 H1 n1 e1 h1 => ?_
    rw [line_split Od Oh] at h1
    have h1 : H1 p1 = some (.lst [V.str "reader", V.str (numI d), V.str (numI hh)]) := h1
    have g1 : atI [V.str "reader", V.str (numI d), V.str (numI hh)] ((1 : Nat) : Int) = some (V.str (numI d)) := rfl
    have g2 : atI [V.str "reader", V.str (numI d), V.str (numI hh)] ((2 : Nat) : Int) = some (V.str (numI hh)) := rfl
    walk_at "go"
    refine g_neS rfl ?_
    rw [decide_eq_true rfl]
    walk_at "go"
    refine g_kForR2 ⟨by omega, by omega, by omega, by omega⟩ (fun i σ H' => ∃ v3 : Option V, σ = [some (.int row), some (.str (SX.S (lineL d hh))), some (.ref p1), v3] ∧ Ex H1 H') ⟨_, rfl, Ex.refl _⟩ ?_ ?_
    · rintro i σ H2 hi ⟨v3, rfl, e2⟩
      have h2 := e2 _ _ h1
      have hi2 : i = 0 ∨ i = 1 := by omega
      walk_at "go"
      rcases hi2 with rfl | rfl
      · walk_at "go"
        refine g_is_numeral Od fun H3 e3 => ?_
        walk_at "go"
        exact ⟨_, rfl, e2.trans e3⟩
      · walk_at "go"
        refine g_is_numeral Oh fun H3 e3 => ?_
        walk_at "go"
        exact ⟨_, rfl, e2.trans e3⟩
    · rintro σ H2 ⟨v3, rfl, e2⟩
      have h2 := e2 _ _ h1
      have ld := Od.l2
      have lh := Oh.l2
      walk_at "go"
      refine g_intS Od.it (by omega) ?_
      walk_at "go"
      refine g_intS Oh.it (by omega) ?_
      walk_at "go"
      rename_i p3 H3 n3 e3 h3
      exact q p3 H3 (fresh_back (e1.trans e2) n3) ((e1.trans e2).trans e3) h3
theorem g_numbers_of {H : Hp} {Q : VK} {E : XK} {row d h : Int} (Od : NumOk d) (Oh : NumOk h) (q : ∀ p H', H p = none → Ex H H' → H' p = some (.tup [.int d, .int h]) → Q (.ref p) H') : sp_numbers_of K [.int row, .str (SX.S (lineL d h))] H Q E := ⟨row, d, h, rfl, Od, Oh, q⟩
def sp_format_ring (K : PySem.W.Frag) (C : Addr) : Sp := fun vs H Q _ => ∃ (r a b : Addr) (ds hs : List Int), vs = [.ref r] ∧ RingIn K C H r a b ds hs ∧ ∀ H', Ex H H' → Q (.str (txtR ds hs)) H'
set_option maxHeartbeats 8000000 in
theorem ok_format_ring (Z : Blt mg) (R : RingC K C) (c_READER : ∃ t, mg "READER" = some (.str "reader" t)) (G : GFun K mg "format_ring" s_format_ring) : Df P w K mg base 1 "format_ring" ["ring"] (sp_format_ring K C) := by
  refine Df.of G sc_format_ring b_format_ring (fun vs H Q E h => ?_) (fun f cdv A outer st H vs Q E hr h => ?_)
  · obtain ⟨r, a, b, ds, hs, rfl, _⟩ := h
    rfl
  · obtain ⟨r, a, b, ds, hs, rfl, RI, q⟩ := h
    obtain ⟨cl_Ring, nS, nH, nT⟩ := R
    have O := RI.ok
    have o2 := O.two
    have o8 := O.eight
    obtain ⟨dx, ho⟩ := RI.obj
    have hS := RI.sp
    have hT := RI.hp
    refine ⟨_, PSs.nox (pss_one (ps_ret (pe_joinW pe_str (pe_lc (own := [("span", 1), ("heap", 2)]) rfl sc_format_ring.nd (pi_zip2 true true (by rfl) Z.zzip (pa_cons (pe_fld (pv 0) rfl) (pa_cons (pe_fld (pv 0) rfl) pa_nil))) (blkOk_by (N := N_format_ring) (sc := defScope s_format_ring) (by decide +kernel)) (fun _ _ _ _ _ => (pg_tupK K (n := 2) (by rfl) (pgs_cons (pg_name (i := 1) sc_format_ring.nd rfl (by first | exact Or.inl rfl | exact Or.inr rfl)) (pgs_cons (pg_name (i := 2) sc_format_ring.nd rfl (by first | exact Or.inl rfl | exact Or.inr rfl)) pgs_nil)))) (fun _ _ _ _ _ => pts_nil) (fun _ _ _ _ _ => (pe_joinedW (.cons (pe_fmt (pstr c_READER)) (.cons pe_str (.cons (pe_fmt (pv 1)) (.cons pe_str (.cons (pe_fmt (pv 2)) .nil))))))))))), ?_⟩
    walk_at "g0"
    walk_at "go"
    have eds : (List.range ds.length).map (fun j => V.int (ds.getD j 0)) = ds.map V.int := by
      have := congrArg (List.map V.int) (map_getD (ds := ds))
      rw [List.map_map] at this
      exact this
    have ehs : (List.range ds.length).map (fun j => V.int (hs.getD j 0)) = hs.map V.int := by
      have := congrArg (List.map V.int) (map_getD (ds := hs))
      rw [List.map_map, O.len] at this
      exact this
    refine g_kLcZ ds.length (xs := ds.map V.int) (ys := hs.map V.int) (show SqB K true H a _ from hS) (show SqB K true H b _ from hT) (List.length_map _) (by rw [List.length_map, O.len])
      (fun D i H' => Ex H H' ∧ H' D = some (.lst (((linesL ds hs i).map SX.S).map V.str))) (fun D H1 nD eD hD => ⟨eD, hD⟩) (fun D i H' nD _ hP => ⟨ex_t hP.1 hS, ex_t hP.1 hT⟩) (fun D i x y H2 T H3 nD hi hx hy hP e3 nT hT' => ?_) (fun D H2 nD hP => ?_)
    · obtain ⟨e2, hD⟩ := hP
      rw [← eds, mapV_at hi] at hx
      rw [← ehs, mapV_at hi] at hy
      cases hx
      cases hy
      obtain ⟨Od, Oh⟩ := nums_ok O hi
      refine gg_tup (SqT.of (K := K) hT') rfl ?_
      have hd := O.dd _ (getD_mem hi)
      have hh := O.hh _ (getD_mem (ds := hs) (j := i) (by rw [O.len]; exact hi))
      have r6 : ("reader" : PySem.Str).length = 6 := by decide +kernel
      have s1 : (" " : PySem.Str).length = 1 := by decide +kernel
      have e0 : (PySem.Str.empty : PySem.Str).length = 0 := by decide +kernel
      have l1 : ((toString (ds.getD i 0) : String) : PySem.Str).length ≤ 2 := Od.l2
      have l2 : ((toString (hs.getD i 0) : String) : PySem.Str).length ≤ 2 := Oh.l2
      walk_at "go"
      refine g_kFmtS (by omega) ?_
      refine g_kJ (by omega) ?_
      walk_at "go"
      refine g_kJ (by simp only [len_cat]; omega) ?_
      walk_at "go"
      refine g_kFmtI ⟨by omega, by omega⟩ ?_
      refine g_kJ (by simp only [len_cat]; omega) ?_
      walk_at "go"
      refine g_kJ (by simp only [len_cat]; omega) ?_
      walk_at "go"
      refine g_kFmtI ⟨by omega, by omega⟩ ?_
      refine g_kJ (by simp only [len_cat]; omega) ?_
      walk_at "go"
      have hlc := line_cat (ds.getD i 0) (hs.getD i 0)
      refine g_kLcE (e3 _ _ hD) (lt1000 (by rw [List.length_map, List.length_map, linesL_len]; omega)) fun H4 e4 h4 => ⟨Exb.ex nD (e2.trans e3) e4, ?_⟩
      rw [h4]
      refine congrArg (fun z => some (HO.lst z)) ?_
      unfold linesL
      rw [List.range_succ, List.map_append, List.map_append, List.map_append]
      refine congrArg (fun z => _ ++ [V.str z]) ?_
      exact hlc
    · obtain ⟨e2, hD⟩ := hP
      walk_at "go"
      refine g_join (SqL.of hD) (by
        have h3 : ("\n" : PySem.Str).length = 1 := by decide +kernel
        have := lens_le O
        rw [List.length_map, linesL_len, h3]
        omega) ?_
      walk_at "go"
      exact q _ e2
end
end G48

namespace G48
open PySem PySem.Spec PyProof.Rows L2 Evl
abbrev N_parse_ring : List Str := ["text", "pairs", "row", "line", "pair"]
theorem sc_parse_ring : FnScope N_parse_ring ["text"] (defScope s_parse_ring) := ⟨rfl, rfl, rfl, by decide +kernel, rfl, by decide +kernel, by decide +kernel⟩
theorem b_parse_ring : BindL "parse_ring" "parse_ring" s_parse_ring ["text"] := fun _ _ _ _ _ _ us hl => match us, hl with | [_], _ => rfl
end G48
--lib Z
--lib W
/-! parse_ring of what was formatted -/
namespace G48
open PySem PySem.Spec PyProof.Rows L2 Evl
/-! the steps -/
local macro_rules | `(tactic| walk_at "as") => `(tactic| with_reducible assumption)
local macro_rules | `(tactic| walk_at "hp") => `(tactic| first
  | with_reducible assumption
  | ((with_reducible apply SqT.of); walk_at "as")
  | ((with_reducible apply SqL.of); walk_at "as")
  | ((with_reducible apply ex_at); (focus walk_at "as"); walk_at "hp")
  | ((with_reducible apply ex_t); (focus walk_at "as"); walk_at "hp")
  | ((with_reducible apply ex_l); (focus walk_at "as"); walk_at "hp")
  | ((with_reducible apply exb_ins); (focus walk_at "as"); (focus walk_at "hp"); walk_at "hp")
  | ((with_reducible apply exb_t); (focus walk_at "as"); (focus walk_at "hp"); walk_at "hp")
  | ((with_reducible apply exb_at); (focus walk_at "as"); (focus walk_at "ne"); walk_at "hp")
  | ((with_reducible apply exb_l); (focus walk_at "as"); (focus walk_at "ne"); walk_at "hp"))
local macro_rules | `(tactic| walk_at "ne") => `(tactic| first
  | with_reducible assumption
  | exact Ne.symm (by with_reducible assumption)
  | exact ne_of_none (by with_reducible assumption) (by with_reducible assumption)
  | exact Ne.symm (ne_of_none (by with_reducible assumption) (by with_reducible assumption)))
local macro_rules | `(tactic| walk_at "tr") => `(tactic| first
  | rfl
  | with_reducible assumption
  | exact decide_eq_true (by first | with_reducible assumption | omega)
  | exact decide_eq_false (by first | with_reducible assumption | omega)
  | (rw [Bool.not_eq_true']; exact decide_eq_false (by first | with_reducible assumption | omega))
  | (rw [Bool.not_eq_false']; exact decide_eq_true (by first | with_reducible assumption | omega)))
local macro_rules | `(tactic| walk_at "nn") => `(tactic| first | with_reducible assumption | (exact List.cons_ne_nil _ _))
local macro_rules | `(tactic| walk_at "sz") => `(tactic| first | (exact sz1000 (Nat.le_of_ble_eq_true rfl)) | (refine sz1000 ?_; simp only [List.length_map, List.length_cons, List.length_nil, List.length_append]; omega) | with_reducible assumption)
local macro_rules | `(tactic| walk_at "sl") => `(tactic| first | with_reducible assumption | (refine lt1000 ?_; simp only [List.length_map, List.length_cons, List.length_nil, List.length_append]; omega) | (refine lt1000 ?_; omega))
local macro_rules | `(tactic| walk_at "ix") => `(tactic| first | rfl | with_reducible assumption)
local macro_rules | `(tactic| walk_at "rg") => `(tactic| exact RgOk.of_le (by omega) (by omega) (by omega) (by omega))
local macro_rules | `(tactic| walk_at "sp") => `(tactic| fail "sp")
local macro_rules | `(tactic| walk_at "cl") => `(tactic| with_reducible assumption)
local macro_rules | `(tactic| walk_at "lk") => `(tactic| with_reducible assumption)
local macro_rules | `(tactic| walk_at "it") => `(tactic| first | rfl | with_reducible assumption | exact atI_nat (by with_reducible assumption))
local macro_rules | `(tactic| walk_at "g1") => `(tactic| first
  | (with_reducible apply g_var); (focus rfl)
  | with_reducible apply g_c
  | with_reducible apply g_seq
  | with_reducible apply g_asg
  | with_reducible apply gg_name
  | with_reducible apply g_op
  | with_reducible apply g_cons
  | with_reducible apply g_nil
  | with_reducible apply g_cb
  | with_reducible apply g_fld
  | ((with_reducible apply g_kFld); (focus walk_at "hp"); (focus walk_at "cl"); (focus walk_at "cl"); (focus walk_at "lk"))
  | with_reducible apply g_call
  | walk_at "sp"
  | with_reducible apply g_ret
  | with_reducible apply g_drop
  | with_reducible apply g_test
  | with_reducible apply g_B
  | with_reducible apply g_kTest
  | with_reducible apply g_ifS
  | with_reducible apply g_kIfST
  | with_reducible apply g_kIfSF
  | with_reducible apply g_add
  | with_reducible apply g_sub
  | with_reducible apply g_lt
  | with_reducible apply g_le
  | with_reducible apply g_gt
  | with_reducible apply g_ge
  | with_reducible apply g_eqI
  | with_reducible apply g_neI
  | ((with_reducible apply g_mod); (focus first | decide | omega))
  | ((with_reducible apply g_mul); (focus first | (left; constructor <;> omega) | (right; constructor <;> omega)))
  | ((with_reducible apply g_fdiv); (focus (constructor <;> omega)))
  | ((with_reducible apply g_ixT); (focus walk_at "hp"); (focus walk_at "it"))
  | ((with_reducible apply g_ixL); (focus walk_at "hp"); (focus walk_at "it"))
  | with_reducible apply g_and
  | with_reducible apply g_or
  | with_reducible apply g_not
  | with_reducible apply g_kNotT
  | with_reducible apply g_kNotF
  | with_reducible apply g_if
  | with_reducible apply g_kAndT
  | with_reducible apply g_kAndF
  | with_reducible apply g_kOrT
  | with_reducible apply g_kOrF
  | with_reducible apply g_kIfT
  | with_reducible apply g_kIfF
  | with_reducible apply g_next
  | with_reducible apply g_andV
  | with_reducible apply g_orV
  | with_reducible apply g_notV
  | with_reducible apply g_kNotV
  | with_reducible apply g_kAndVT
  | with_reducible apply g_kAndVF
  | with_reducible apply g_chain
  | with_reducible apply g_kChainT
  | with_reducible apply g_kChainF
  | with_reducible apply g_tup
  | with_reducible apply g_lst
  | ((with_reducible apply g_kT); (focus walk_at "sz"); intro _ _ _ _ _)
  | ((with_reducible apply g_kL); (focus walk_at "sz"); intro _ _ _ _ _)
  | with_reducible apply g_un
  | with_reducible apply g_neg
  | with_reducible apply g_meth
  | ((with_reducible apply g_kMeth); (focus walk_at "hp"); (focus walk_at "lk"))
  | with_reducible apply g_prop
  | ((with_reducible apply g_kProp); (focus walk_at "hp"))
  | with_reducible apply g_make
  | with_reducible apply g_par
  | with_reducible apply g_kPar
  | ((with_reducible apply g_lenLM); (focus walk_at "hp"))
  | ((with_reducible apply g_lenTM); (focus walk_at "hp"))
  | ((with_reducible apply g_lenL); (focus walk_at "hp"))
  | ((with_reducible apply g_lenT); (focus walk_at "hp"))
  | with_reducible apply g_int1
  | with_reducible apply g_max2
  | with_reducible apply g_min2
  | ((with_reducible apply g_listL); (focus walk_at "hp"); intro _ _ _ _ _)
  | ((with_reducible apply g_listT); (focus walk_at "hp"); intro _ _ _ _ _)
  | ((with_reducible apply g_tupL); (focus walk_at "hp"); intro _ _ _ _ _)
  | ((with_reducible apply g_sum); (focus walk_at "hp"))
  | with_reducible apply g_sfld
  | with_reducible apply g_sl
  | with_reducible apply g_nopart
  | with_reducible apply g_part
  | with_reducible apply g_kPart
  | with_reducible apply g_lstRg
  | with_reducible apply g_rg1
  | with_reducible apply g_kRg1
  | with_reducible apply g_bm
  | with_reducible apply gg_sub
  | ((with_reducible apply gg_tup); (focus walk_at "hp"); (focus rfl))
  | with_reducible apply gg_cons
  | with_reducible apply gg_nil
  | with_reducible apply g_forL
  | with_reducible apply g_forT
  | with_reducible apply g_forR1
  | with_reducible apply g_forR2
  | with_reducible apply g_forE
  | with_reducible apply g_forEL
  | ((with_reducible apply g_maxT); (focus walk_at "hp"); (focus walk_at "nn"))
  | ((with_reducible apply g_maxL); (focus walk_at "hp"); (focus walk_at "nn"))
  | ((with_reducible apply g_catA); (focus walk_at "hp"); (focus walk_at "hp"); (focus walk_at "sz"); intro _ _ _ _)
  | ((with_reducible apply g_slA); (focus walk_at "hp"); intro _ _ _ _)
  | ((with_reducible apply g_tupD); (focus walk_at "hp"); intro _ _ _ _ _)
  | ((with_reducible apply g_setL); (focus walk_at "hp"); (focus walk_at "ix"); intro _ _ _)
  | ((with_reducible apply g_append); (focus walk_at "hp"); (focus walk_at "sl"); intro _ _ _)
  | ((with_reducible apply g_aug); (focus rfl))
  | with_reducible apply g_ipI
  | with_reducible apply g_retN
  | with_reducible apply g_lcR1
  | with_reducible apply g_lcR2
  | with_reducible apply g_lcL
  | with_reducible apply g_lcU
  | with_reducible apply g_lcN
  | ((with_reducible apply g_kLcG); (focus rfl))
  | with_reducible apply g_yes
  | with_reducible apply g_kLcTT
  | with_reducible apply g_kLcTF
  | ((with_reducible apply g_kLcE); (focus walk_at "hp"); (focus walk_at "sl"); intro _ _ _)
  | ((with_reducible apply g_pow); (focus (constructor <;> (try constructor) <;> decide)))
  | ((with_reducible apply g_kLRg); (focus walk_at "rg"); intro _ _ _ _ _)
  | ((with_reducible apply g_cat); (focus walk_at "hp"); (focus walk_at "hp"); (focus walk_at "sz"); intro _ _ _ _ _)
  | ((with_reducible apply g_slL); (focus walk_at "hp"); intro _ _ _ _ _)
  | with_reducible apply g_bmT
  | with_reducible apply g_break
  | with_reducible apply g_cont)
local macro_rules | `(tactic| walk_at "g0") => `(tactic| try dsimp only [L2.cxOf, L2.Cx.nox, L2.Cx.wish])
local macro_rules | `(tactic| walk_at "yn") => `(tactic| first
  | ((with_reducible apply y_kIfS); (focus walk_at "tr"))
  | ((with_reducible apply n_kIfS); (focus walk_at "tr"))
  | ((with_reducible apply y_kOr); (focus walk_at "tr"))
  | ((with_reducible apply n_kOr); (focus walk_at "tr"))
  | ((with_reducible apply y_kAnd); (focus walk_at "tr"))
  | ((with_reducible apply n_kAnd); (focus walk_at "tr"))
  | ((with_reducible apply y_kNot); (focus walk_at "tr"))
  | ((with_reducible apply n_kNot); (focus walk_at "tr"))
  | ((with_reducible apply y_kIf); (focus walk_at "tr"))
  | ((with_reducible apply n_kIf); (focus walk_at "tr"))
  | ((with_reducible apply y_kAndV); (focus walk_at "tr"))
  | ((with_reducible apply n_kAndV); (focus walk_at "tr"))
  | ((with_reducible apply y_kOrV); (focus walk_at "tr"))
  | ((with_reducible apply n_kOrV); (focus walk_at "tr"))
  | ((with_reducible apply y_kChain); (focus walk_at "tr"))
  | ((with_reducible apply n_kChain); (focus walk_at "tr"))
  | ((with_reducible apply y_kLcT); (focus walk_at "tr"))
  | ((with_reducible apply n_kLcT); (focus walk_at "tr"))
  | ((with_reducible apply y_kWh); (focus walk_at "tr"))
  | ((with_reducible apply n_kWh); (focus walk_at "tr")))
local macro_rules | `(tactic| walk_at "go") => `(tactic| repeat (first | walk_at "g1" | walk_at "yn"))
local macro_rules | `(tactic| walk_at "hp") => `(tactic| first
  | ((with_reducible apply RingIn.ex); (focus walk_at "as"); walk_at "hp")
  | ((with_reducible apply RingAt.ex); (focus walk_at "as"); walk_at "hp")
  | ((with_reducible apply RingIn.exb); (focus walk_at "as"); (focus walk_at "hp"); walk_at "hp")
  | ((with_reducible apply RingAt.exb); (focus walk_at "as"); (focus walk_at "hp"); walk_at "hp")
  | ((with_reducible apply TupK.ex); (focus walk_at "as"); walk_at "hp")
  | ((with_reducible apply TupK.exb); (focus walk_at "as"); (focus walk_at "hp"); walk_at "hp"))
local macro_rules | `(tactic| walk_at "lk") => `(tactic| first | with_reducible exact rf_spans | with_reducible exact rf_heaps | with_reducible exact rf_total | with_reducible exact rf_nr | with_reducible exact rf_wd)
local macro_rules | `(tactic| walk_at "sp") => `(tactic| first
  | ((with_reducible apply g_isiTup); (focus walk_at "hp"))
  | ((with_reducible apply g_isiLst); (focus walk_at "hp"))
  | ((with_reducible apply g_isint); (focus omega); (focus omega))
  | ((with_reducible apply g_checkn); (focus omega); (focus omega))
  | ((with_reducible apply g_rbooks); (focus walk_at "hp"))
  | ((with_reducible apply g_rpace); (focus walk_at "hp"); intro _ _ _ _)
  | ((with_reducible apply g_rlen); (focus walk_at "hp"))
  | ((with_reducible apply g_rneed); (focus walk_at "hp"); (focus omega))
  | ((with_reducible apply g_rneedM); (focus walk_at "hp"))
  | ((with_reducible apply g_rwithM); (focus walk_at "hp"))
  | ((with_reducible apply g_rspans); (focus walk_at "hp"); (focus with_reducible assumption))
  | ((with_reducible apply g_rheaps); (focus walk_at "hp"); (focus with_reducible assumption))
  | ((with_reducible apply g_rtotal); (focus walk_at "hp"); (focus with_reducible assumption)))

local macro_rules | `(tactic| walk_at "g1") => `(tactic| first
  | with_reducible apply g_m1
  | with_reducible apply g_kM1
  | with_reducible apply g_joined
  | with_reducible apply g_jcons
  | with_reducible apply g_jnil
  | with_reducible apply g_kOut
  | with_reducible apply g_fmt
  | with_reducible apply g_lcTx
  | with_reducible apply g_lcZ
  | with_reducible apply g_lcNL
  | with_reducible apply g_forZ2
  | with_reducible apply g_forZ3
  | with_reducible apply g_inS)

section
variable {P : Program} {w : World} {K : PySem.W.Frag} {mg : Str → Option Value} {base : Heap} {C SC : Addr}
def sp_parse_ring (K : PySem.W.Frag) (C : Addr) : Sp := fun vs H Q _ => ∃ (ds hs : List Int), vs = [.str (txtR ds hs)] ∧ RingOk ds hs ∧ ∀ r a b H', H r = none → Ex H H' → RingIn K C H' r a b ds hs → Q (.ref r) H'
set_option maxHeartbeats 8000000 in
theorem ok_parse_ring (Z : Blt mg) (R : RingC K C) (D_numbers_of : Df P w K mg base 2 "numbers_of" ["row", "line"] (sp_numbers_of K)) (I_Ring : If P w K mg base "Ring" C 3 ["self", "days", "starts"] (sp_Ring_init K C)) (G : GFun K mg "parse_ring" s_parse_ring) : Df P w K mg base 5 "parse_ring" ["text"] (sp_parse_ring K C) := by
  refine Df.of G sc_parse_ring b_parse_ring (fun vs H Q E h => ?_) (fun f cdv A outer st H vs Q E hr h => ?_)
  · obtain ⟨ds, hs, rfl, _⟩ := h
    rfl
  · obtain ⟨ds, hs, rfl, O, q⟩ := h
    have o2 := O.two
    have o8 := O.eight
    have htl := txt_len O
    refine ⟨_, PSs.nox (pss_cons (ps_setLc (i := 1) (own := [("row", 2), ("line", 3)]) rfl sc_parse_ring.nd rfl rfl (sw_true rfl rfl rfl (by decide +kernel)) (pi_enum (by rfl) Z.zenumerate (pa_cons (pe_splitW (pv 0) pe_str) pa_nil)) (blkOk_by (N := N_parse_ring) (sc := defScope s_parse_ring) (by decide +kernel)) (fun _ _ _ _ _ => (pg_tupK K (n := 2) (by rfl) (pgs_cons (pg_name (i := 2) sc_parse_ring.nd rfl (by first | exact Or.inl rfl | exact Or.inr rfl)) (pgs_cons (pg_name (i := 3) sc_parse_ring.nd rfl (by first | exact Or.inl rfl | exact Or.inr rfl)) pgs_nil)))) (fun _ _ _ _ _ => pts_nil) (fun _ _ _ _ _ => (pg D_numbers_of hr (pa_cons (pv 2) (pa_cons (pv 3) pa_nil)))))
      (pss_one (ps_ret (pk I_Ring hr (pa_cons (pe_callTy c_tuple_of (by rfl) Z.ztuple (by decide +kernel) (pa_cons (pe_lc (own := [("pair", 4)]) rfl sc_parse_ring.nd (pi_list (pv 1)) (blkOk_by (N := N_parse_ring) (sc := defScope s_parse_ring) (by decide +kernel)) (fun _ _ _ _ _ => (pg_name (i := 4) sc_parse_ring.nd rfl (by first | exact Or.inl rfl | exact Or.inr rfl))) (fun _ _ _ _ _ => pts_nil) (fun _ _ _ _ _ => (pe_ix (ix_tupK K) (pv 4) pe_int (fun _ _ => rfl)))) pa_nil)) (pa_cons (pe_callTy c_tuple_of (by rfl) Z.ztuple (by decide +kernel) (pa_cons (pe_lc (own := [("pair", 4)]) rfl sc_parse_ring.nd (pi_list (pv 1)) (blkOk_by (N := N_parse_ring) (sc := defScope s_parse_ring) (by decide +kernel)) (fun _ _ _ _ _ => (pg_name (i := 4) sc_parse_ring.nd rfl (by first | exact Or.inl rfl | exact Or.inr rfl))) (fun _ _ _ _ _ => pts_nil) (fun _ _ _ _ _ => (pe_ix (ix_tupK K) (pv 4) pe_int (fun _ _ => rfl)))) pa_nil)) pa_nil)))))), ?_⟩
    walk_at "g0"
    walk_at "go"
    refine g_split (by decide +kernel) (by omega) fun p1 H1 n1 e1 h1 => ?_
    rw [txt_split O] at h1
    walk_at "go"
    refine g_kLcNL (SqL.of h1) (fun D i H' => ∃ pA : Nat → Addr, Ex H1 H' ∧ H' D = some (.lst ((List.range i).map fun j => V.ref (pA j))) ∧ ∀ j, j < i → SqT K H' (pA j) [.int (ds.getD j 0), .int (hs.getD j 0)])
      (fun D H2 nD eD hD => ⟨fun _ => 0, eD, hD, fun j hj => absurd hj (Nat.not_lt_zero j)⟩) (fun D i H' nD _ hP => by
        obtain ⟨_, e, _⟩ := hP
        exact SqL.of (e _ _ h1)) (fun D i x H2 T H3 nD hx hP e3 nT hT' => ?_) (fun D H2 nD hP => ?_)
    · obtain ⟨pA, e2, hD, hpA⟩ := hP
      have hi : i < ds.length := by
        have := (List.getElem?_eq_some_iff.mp hx).1
        rw [List.length_map, List.length_map, linesL_len] at this
        exact this
      have hx2 : x = V.str (SX.S (lineL (ds.getD i 0) (hs.getD i 0))) := by
        unfold linesL at hx
        rw [List.map_map, List.map_map, mapV_at hi] at hx
        exact (Option.some.inj hx).symm
      subst hx2
      obtain ⟨Od, Oh⟩ := nums_ok O hi
      refine gg_tup (SqT.of (K := K) hT') rfl ?_
      walk_at "go"
      refine g_numbers_of Od Oh fun p4 H4 n4 e4 h4 => ?_
      have nDp : p4 ≠ D := by
        intro z
        rw [z, e3 _ _ hD] at n4
        cases n4
      refine g_kLcE (e4 _ _ (e3 _ _ hD)) (lt1000 (by rw [List.length_map, List.length_range]; omega)) fun H5 e5 h5 => ⟨fun j => if j = i then p4 else pA j, Exb.ex nD (e2.trans (e3.trans e4)) e5, ?_, fun j hj => ?_⟩
      · rw [h5, ← mapV_next]
        refine congrArg (fun z => some (HO.lst z)) ?_
        congr 1
        · exact mapV_congr fun j hj => by
            dsimp only
            rw [if_neg (by omega)]
        · simp
      · by_cases z : j = i
        · simp only [z, if_true]
          exact exb_t e5 (e4 _ _ (e3 _ _ hD)) (SqT.of h4)
        · simp only [if_neg z]
          exact exb_t e5 (e4 _ _ (e3 _ _ hD)) (ex_t (e3.trans e4) (hpA j (by omega)))
    · obtain ⟨pA, e2, hD, hpA⟩ := hP
      rw [List.length_map, List.length_map, linesL_len] at hD hpA
      walk_at "go"
      refine g_kLcL (SqL.of hD) (fun F i H' => Ex H2 H' ∧ H' F = some (.lst ((List.range i).map fun j => V.int (ds.getD j 0))))
        (fun F H3 nF eF hF => ⟨eF, hF⟩) (fun F i H' nF _ hP => SqL.of (hP.1 _ _ hD)) (fun F i x H3 nF hx hP => ?_) (fun F H3 nF hP => ?_)
      · obtain ⟨e3, hF⟩ := hP
        have hi : i < ds.length := by
          have := (List.getElem?_eq_some_iff.mp hx).1
          rw [List.length_map, List.length_range] at this
          exact this
        rw [mapV_at hi] at hx
        cases hx
        have hp := ex_t e3 (hpA i hi)
        walk_at "go"
        refine g_kLcE hF (lt1000 (by rw [List.length_map, List.length_range]; omega)) fun H4 e4 h4 => ⟨Exb.ex nF e3 e4, ?_⟩
        rw [h4, mapV_next]
      · obtain ⟨e3, hF⟩ := hP
        rw [List.length_map, List.length_range] at hF
        have hD3 := e3 _ _ hD
        walk_at "go"
        rename_i p5 H5 n5 e5 h5
        refine g_kLcL (SqL.of (e5 _ _ hD3)) (fun F i H' => Ex H5 H' ∧ H' F = some (.lst ((List.range i).map fun j => V.int (hs.getD j 0))))
          (fun F H6 nF eF hF => ⟨eF, hF⟩) (fun F i H' nF _ hP => SqL.of (hP.1 _ _ (e5 _ _ hD3))) (fun F i x H6 nF hx hP => ?_) (fun F H6 nF hP => ?_)
        · obtain ⟨e6, hF⟩ := hP
          have hi : i < ds.length := by
            have := (List.getElem?_eq_some_iff.mp hx).1
            rw [List.length_map, List.length_range] at this
            exact this
          rw [mapV_at hi] at hx
          cases hx
          have hp := ex_t e6 (ex_t e5 (ex_t e3 (hpA i hi)))
          walk_at "go"
          refine g_kLcE hF (lt1000 (by rw [List.length_map, List.length_range]; omega)) fun H7 e7 h7 => ⟨Exb.ex nF e6 e7, ?_⟩
          rw [h7, mapV_next]
        · obtain ⟨e6, hF⟩ := hP
          rw [List.length_map, List.length_range] at hF
          walk_at "go"
          rename_i p7 H7 n7 e7 h7
          have eds : (List.range ds.length).map (fun j => V.int (ds.getD j 0)) = ds.map V.int := by
            have := congrArg (List.map V.int) (map_getD (ds := ds))
            rw [List.map_map] at this
            exact this
          have ehs : (List.range ds.length).map (fun j => V.int (hs.getD j 0)) = hs.map V.int := by
            have := congrArg (List.map V.int) (map_getD (ds := hs))
            rw [List.map_map, O.len] at this
            exact this
          rw [eds] at h5
          rw [ehs] at h7
          have e07 := (((((e1.trans e2).trans e3).trans e5).trans e6).trans e7)
          exact g_mkRing (ex_t (e6.trans e7) (h5.sq (K := K))) (h7.sq (K := K)) O fun r' H8 n8 e8 R8 => q r' _ _ H8 (fresh_back e07 n8) (e07.trans e8) R8
end
end G48

namespace G48
open PySem PySem.Spec PyProof.Rows L2 Evl
abbrev N_chart : List Str := ["ring", "count", "scene", "signs", "turn", "rows", "reader", "sign", "stack", "end"]
theorem sc_chart : FnScope N_chart ["ring", "count"] (defScope s_chart) := ⟨rfl, rfl, rfl, by decide +kernel, rfl, by decide +kernel, by decide +kernel⟩
theorem b_chart : BindL "chart" "chart" s_chart ["ring", "count"] := fun _ _ _ _ _ _ us hl => match us, hl with | [_, _], _ => rfl
end G48
--lib Z
--lib W
--lib Y
/-! charts -/
namespace G48
open PySem PySem.Spec PyProof.Rows L2 Evl
/-! the steps -/
local macro_rules | `(tactic| walk_at "as") => `(tactic| with_reducible assumption)
local macro_rules | `(tactic| walk_at "hp") => `(tactic| first
  | with_reducible assumption
  | ((with_reducible apply SqT.of); walk_at "as")
  | ((with_reducible apply SqL.of); walk_at "as")
  | ((with_reducible apply ex_at); (focus walk_at "as"); walk_at "hp")
  | ((with_reducible apply ex_t); (focus walk_at "as"); walk_at "hp")
  | ((with_reducible apply ex_l); (focus walk_at "as"); walk_at "hp")
  | ((with_reducible apply exb_ins); (focus walk_at "as"); (focus walk_at "hp"); walk_at "hp")
  | ((with_reducible apply exb_t); (focus walk_at "as"); (focus walk_at "hp"); walk_at "hp")
  | ((with_reducible apply exb_at); (focus walk_at "as"); (focus walk_at "ne"); walk_at "hp")
  | ((with_reducible apply exb_l); (focus walk_at "as"); (focus walk_at "ne"); walk_at "hp"))
local macro_rules | `(tactic| walk_at "ne") => `(tactic| first
  | with_reducible assumption
  | exact Ne.symm (by with_reducible assumption)
  | exact ne_of_none (by with_reducible assumption) (by with_reducible assumption)
  | exact Ne.symm (ne_of_none (by with_reducible assumption) (by with_reducible assumption)))
local macro_rules | `(tactic| walk_at "tr") => `(tactic| first
  | rfl
  | with_reducible assumption
  | exact decide_eq_true (by first | with_reducible assumption | omega)
  | exact decide_eq_false (by first | with_reducible assumption | omega)
  | (rw [Bool.not_eq_true']; exact decide_eq_false (by first | with_reducible assumption | omega))
  | (rw [Bool.not_eq_false']; exact decide_eq_true (by first | with_reducible assumption | omega)))
local macro_rules | `(tactic| walk_at "nn") => `(tactic| first | with_reducible assumption | (exact List.cons_ne_nil _ _))
local macro_rules | `(tactic| walk_at "sz") => `(tactic| first | (exact sz1000 (Nat.le_of_ble_eq_true rfl)) | (refine sz1000 ?_; simp only [List.length_map, List.length_cons, List.length_nil, List.length_append]; omega) | with_reducible assumption)
local macro_rules | `(tactic| walk_at "sl") => `(tactic| first | with_reducible assumption | (refine lt1000 ?_; simp only [List.length_map, List.length_cons, List.length_nil, List.length_append]; omega) | (refine lt1000 ?_; omega))
local macro_rules | `(tactic| walk_at "ix") => `(tactic| first | rfl | with_reducible assumption)
local macro_rules | `(tactic| walk_at "rg") => `(tactic| exact RgOk.of_le (by omega) (by omega) (by omega) (by omega))
local macro_rules | `(tactic| walk_at "sp") => `(tactic| fail "sp")
local macro_rules | `(tactic| walk_at "cl") => `(tactic| with_reducible assumption)
local macro_rules | `(tactic| walk_at "lk") => `(tactic| with_reducible assumption)
local macro_rules | `(tactic| walk_at "it") => `(tactic| first | rfl | with_reducible assumption | exact atI_nat (by with_reducible assumption))
local macro_rules | `(tactic| walk_at "g1") => `(tactic| first
  | (with_reducible apply g_var); (focus rfl)
  | with_reducible apply g_c
  | with_reducible apply g_seq
  | with_reducible apply g_asg
  | with_reducible apply gg_name
  | with_reducible apply g_op
  | with_reducible apply g_cons
  | with_reducible apply g_nil
  | with_reducible apply g_cb
  | with_reducible apply g_fld
  | ((with_reducible apply g_kFld); (focus walk_at "hp"); (focus walk_at "cl"); (focus walk_at "cl"); (focus walk_at "lk"))
  | with_reducible apply g_call
  | walk_at "sp"
  | with_reducible apply g_ret
  | with_reducible apply g_drop
  | with_reducible apply g_test
  | with_reducible apply g_B
  | with_reducible apply g_kTest
  | with_reducible apply g_ifS
  | with_reducible apply g_kIfST
  | with_reducible apply g_kIfSF
  | with_reducible apply g_add
  | with_reducible apply g_sub
  | with_reducible apply g_lt
  | with_reducible apply g_le
  | with_reducible apply g_gt
  | with_reducible apply g_ge
  | with_reducible apply g_eqI
  | with_reducible apply g_neI
  | ((with_reducible apply g_mod); (focus first | decide | omega))
  | ((with_reducible apply g_mul); (focus first | (left; constructor <;> omega) | (right; constructor <;> omega)))
  | ((with_reducible apply g_fdiv); (focus (constructor <;> omega)))
  | ((with_reducible apply g_ixT); (focus walk_at "hp"); (focus walk_at "it"))
  | ((with_reducible apply g_ixL); (focus walk_at "hp"); (focus walk_at "it"))
  | with_reducible apply g_and
  | with_reducible apply g_or
  | with_reducible apply g_not
  | with_reducible apply g_kNotT
  | with_reducible apply g_kNotF
  | with_reducible apply g_if
  | with_reducible apply g_kAndT
  | with_reducible apply g_kAndF
  | with_reducible apply g_kOrT
  | with_reducible apply g_kOrF
  | with_reducible apply g_kIfT
  | with_reducible apply g_kIfF
  | with_reducible apply g_next
  | with_reducible apply g_andV
  | with_reducible apply g_orV
  | with_reducible apply g_notV
  | with_reducible apply g_kNotV
  | with_reducible apply g_kAndVT
  | with_reducible apply g_kAndVF
  | with_reducible apply g_chain
  | with_reducible apply g_kChainT
  | with_reducible apply g_kChainF
  | with_reducible apply g_tup
  | with_reducible apply g_lst
  | ((with_reducible apply g_kT); (focus walk_at "sz"); intro _ _ _ _ _)
  | ((with_reducible apply g_kL); (focus walk_at "sz"); intro _ _ _ _ _)
  | with_reducible apply g_un
  | with_reducible apply g_neg
  | with_reducible apply g_meth
  | ((with_reducible apply g_kMeth); (focus walk_at "hp"); (focus walk_at "lk"))
  | with_reducible apply g_prop
  | ((with_reducible apply g_kProp); (focus walk_at "hp"))
  | with_reducible apply g_make
  | with_reducible apply g_par
  | with_reducible apply g_kPar
  | ((with_reducible apply g_lenLM); (focus walk_at "hp"))
  | ((with_reducible apply g_lenTM); (focus walk_at "hp"))
  | ((with_reducible apply g_lenL); (focus walk_at "hp"))
  | ((with_reducible apply g_lenT); (focus walk_at "hp"))
  | with_reducible apply g_int1
  | with_reducible apply g_max2
  | with_reducible apply g_min2
  | ((with_reducible apply g_listL); (focus walk_at "hp"); intro _ _ _ _ _)
  | ((with_reducible apply g_listT); (focus walk_at "hp"); intro _ _ _ _ _)
  | ((with_reducible apply g_tupL); (focus walk_at "hp"); intro _ _ _ _ _)
  | ((with_reducible apply g_sum); (focus walk_at "hp"))
  | with_reducible apply g_sfld
  | with_reducible apply g_sl
  | with_reducible apply g_nopart
  | with_reducible apply g_part
  | with_reducible apply g_kPart
  | with_reducible apply g_lstRg
  | with_reducible apply g_rg1
  | with_reducible apply g_kRg1
  | with_reducible apply g_bm
  | with_reducible apply gg_sub
  | ((with_reducible apply gg_tup); (focus walk_at "hp"); (focus rfl))
  | with_reducible apply gg_cons
  | with_reducible apply gg_nil
  | with_reducible apply g_forL
  | with_reducible apply g_forT
  | with_reducible apply g_forR1
  | with_reducible apply g_forR2
  | with_reducible apply g_forE
  | with_reducible apply g_forEL
  | ((with_reducible apply g_maxT); (focus walk_at "hp"); (focus walk_at "nn"))
  | ((with_reducible apply g_maxL); (focus walk_at "hp"); (focus walk_at "nn"))
  | ((with_reducible apply g_catA); (focus walk_at "hp"); (focus walk_at "hp"); (focus walk_at "sz"); intro _ _ _ _)
  | ((with_reducible apply g_slA); (focus walk_at "hp"); intro _ _ _ _)
  | ((with_reducible apply g_tupD); (focus walk_at "hp"); intro _ _ _ _ _)
  | ((with_reducible apply g_setL); (focus walk_at "hp"); (focus walk_at "ix"); intro _ _ _)
  | ((with_reducible apply g_append); (focus walk_at "hp"); (focus walk_at "sl"); intro _ _ _)
  | ((with_reducible apply g_aug); (focus rfl))
  | with_reducible apply g_ipI
  | with_reducible apply g_retN
  | with_reducible apply g_lcR1
  | with_reducible apply g_lcR2
  | with_reducible apply g_lcL
  | with_reducible apply g_lcU
  | with_reducible apply g_lcN
  | ((with_reducible apply g_kLcG); (focus rfl))
  | with_reducible apply g_yes
  | with_reducible apply g_kLcTT
  | with_reducible apply g_kLcTF
  | ((with_reducible apply g_kLcE); (focus walk_at "hp"); (focus walk_at "sl"); intro _ _ _)
  | ((with_reducible apply g_pow); (focus (constructor <;> (try constructor) <;> decide)))
  | ((with_reducible apply g_kLRg); (focus walk_at "rg"); intro _ _ _ _ _)
  | ((with_reducible apply g_cat); (focus walk_at "hp"); (focus walk_at "hp"); (focus walk_at "sz"); intro _ _ _ _ _)
  | ((with_reducible apply g_slL); (focus walk_at "hp"); intro _ _ _ _ _)
  | with_reducible apply g_bmT
  | with_reducible apply g_break
  | with_reducible apply g_cont)
local macro_rules | `(tactic| walk_at "g0") => `(tactic| try dsimp only [L2.cxOf, L2.Cx.nox, L2.Cx.wish])
local macro_rules | `(tactic| walk_at "yn") => `(tactic| first
  | ((with_reducible apply y_kIfS); (focus walk_at "tr"))
  | ((with_reducible apply n_kIfS); (focus walk_at "tr"))
  | ((with_reducible apply y_kOr); (focus walk_at "tr"))
  | ((with_reducible apply n_kOr); (focus walk_at "tr"))
  | ((with_reducible apply y_kAnd); (focus walk_at "tr"))
  | ((with_reducible apply n_kAnd); (focus walk_at "tr"))
  | ((with_reducible apply y_kNot); (focus walk_at "tr"))
  | ((with_reducible apply n_kNot); (focus walk_at "tr"))
  | ((with_reducible apply y_kIf); (focus walk_at "tr"))
  | ((with_reducible apply n_kIf); (focus walk_at "tr"))
  | ((with_reducible apply y_kAndV); (focus walk_at "tr"))
  | ((with_reducible apply n_kAndV); (focus walk_at "tr"))
  | ((with_reducible apply y_kOrV); (focus walk_at "tr"))
  | ((with_reducible apply n_kOrV); (focus walk_at "tr"))
  | ((with_reducible apply y_kChain); (focus walk_at "tr"))
  | ((with_reducible apply n_kChain); (focus walk_at "tr"))
  | ((with_reducible apply y_kLcT); (focus walk_at "tr"))
  | ((with_reducible apply n_kLcT); (focus walk_at "tr"))
  | ((with_reducible apply y_kWh); (focus walk_at "tr"))
  | ((with_reducible apply n_kWh); (focus walk_at "tr")))
local macro_rules | `(tactic| walk_at "go") => `(tactic| repeat (first | walk_at "g1" | walk_at "yn"))
local macro_rules | `(tactic| walk_at "hp") => `(tactic| first
  | ((with_reducible apply RingIn.ex); (focus walk_at "as"); walk_at "hp")
  | ((with_reducible apply RingAt.ex); (focus walk_at "as"); walk_at "hp")
  | ((with_reducible apply RingIn.exb); (focus walk_at "as"); (focus walk_at "hp"); walk_at "hp")
  | ((with_reducible apply RingAt.exb); (focus walk_at "as"); (focus walk_at "hp"); walk_at "hp")
  | ((with_reducible apply TupK.ex); (focus walk_at "as"); walk_at "hp")
  | ((with_reducible apply TupK.exb); (focus walk_at "as"); (focus walk_at "hp"); walk_at "hp"))
local macro_rules | `(tactic| walk_at "lk") => `(tactic| first | with_reducible exact rf_spans | with_reducible exact rf_heaps | with_reducible exact rf_total | with_reducible exact rf_nr | with_reducible exact rf_wd)
local macro_rules | `(tactic| walk_at "sp") => `(tactic| first
  | ((with_reducible apply g_isiTup); (focus walk_at "hp"))
  | ((with_reducible apply g_isiLst); (focus walk_at "hp"))
  | ((with_reducible apply g_isint); (focus omega); (focus omega))
  | ((with_reducible apply g_checkn); (focus omega); (focus omega))
  | ((with_reducible apply g_rbooks); (focus walk_at "hp"))
  | ((with_reducible apply g_rpace); (focus walk_at "hp"); intro _ _ _ _)
  | ((with_reducible apply g_rlen); (focus walk_at "hp"))
  | ((with_reducible apply g_rneed); (focus walk_at "hp"); (focus omega))
  | ((with_reducible apply g_rneedM); (focus walk_at "hp"))
  | ((with_reducible apply g_rwithM); (focus walk_at "hp"))
  | ((with_reducible apply g_rspans); (focus walk_at "hp"); (focus with_reducible assumption))
  | ((with_reducible apply g_rheaps); (focus walk_at "hp"); (focus with_reducible assumption))
  | ((with_reducible apply g_rtotal); (focus walk_at "hp"); (focus with_reducible assumption)))

local macro_rules | `(tactic| walk_at "g1") => `(tactic| first
  | with_reducible apply g_m1
  | with_reducible apply g_kM1
  | with_reducible apply g_joined
  | with_reducible apply g_jcons
  | with_reducible apply g_jnil
  | with_reducible apply g_kOut
  | with_reducible apply g_fmt
  | with_reducible apply g_lcTx
  | with_reducible apply g_lcZ
  | with_reducible apply g_lcNL
  | with_reducible apply g_forZ2
  | with_reducible apply g_forZ3
  | with_reducible apply g_inS)

local macro_rules | `(tactic| walk_at "g1") => `(tactic| first | with_reducible apply g_fmtP | with_reducible apply g_forEz)
def sgn (ds hs : List Int) (k t : Nat) : Nat := if (scAt ds hs t).en k = none then 46 else 35
def sgL (ds hs : List Int) (k i : Nat) : List Nat := (List.range i).map (sgn ds hs k)
theorem sgL_next {ds hs : List Int} {k i : Nat} : sgL ds hs k (i + 1) = sgL ds hs k i ++ [sgn ds hs k i] := by unfold sgL; rw [List.range_succ, List.map_append]; rfl
theorem sgL_len {ds hs : List Int} {k i : Nat} : (sgL ds hs k i).length = i := by unfold sgL; rw [List.length_map, List.length_range]
/-- a row of the chart -/
def rowC (ds hs : List Int) (n k : Nat) : PySem.Str := PySem.Str.empty ++ numI (k : Int) ++ " " ++ SX.S (sgL ds hs k n) ++ " " ++ PySem.W.padN (((scAt ds hs (n - 1)).st k).length - 1)
def chartT (ds hs : List Int) (n : Nat) : PySem.Str := Txt.join "\n" ((List.range ds.length).map (rowC ds hs n))
theorem pad_len {n : Nat} : (PySem.W.padN n).length = 2 := by unfold PySem.W.padN; split <;> rfl
theorem rowC_len {ds hs : List Int} {n k : Nat} (hk : k < 8) (hn : n ≤ 100) : (rowC ds hs n k).length ≤ 110 := by
  have h1 := (num_ok (i := (k : Int)) (by omega) (by omega)).l2
  have s1 : (" " : PySem.Str).length = 1 := by decide +kernel
  have e0 : (PySem.Str.empty : PySem.Str).length = 0 := by decide +kernel
  unfold rowC
  simp only [len_cat, SX.S_len, sgL_len, pad_len, s1, e0]
  omega
theorem busy_S : ("#" : PySem.Str) = SX.S [35] := by decide +kernel
theorem free_S : ("." : PySem.Str) = SX.S [46] := by decide +kernel
section
variable {P : Program} {w : World} {K : PySem.W.Frag} {mg : Str → Option Value} {base : Heap} {C SC : Addr}
def sp_chart (K : PySem.W.Frag) (C : Addr) : Sp := fun vs H Q _ => ∃ (r a b : Addr) (ds hs : List Int) (n : Nat), vs = [.ref r, .int (n : Int)] ∧ RingIn K C H r a b ds hs ∧ 1 ≤ n ∧ n ≤ 100 ∧ ∀ H', Ex H H' → Q (.str (chartT ds hs n)) H'
set_option maxHeartbeats 16000000 in
theorem ok_chart (Z : Blt mg) (R : RingC K C) (RS : SceneC K SC) (c_MAX_CHARTED : ∃ t, mg "MAX_CHARTED" = some (.int 100 t)) (c_BUSY : ∃ t, mg "BUSY" = some (.str "#" t)) (c_FREE : ∃ t, mg "FREE" = some (.str "." t)) (D_is_integer : Df P w K mg base 1 "is_integer" ["value", "low", "high"] (sp_is_integer K))
    (D_first_scene : Df P w K mg base 4 "first_scene" ["ring"] (sp_first_scene K C SC)) (M_Ring___len__ : Mf P w K mg base C 1 "__len__" ["self"] (sp_Ring_len K C)) (M_Scene_following : Mf P w K mg base SC 4 "following" ["self"] (sp_following K SC)) (G : GFun K mg "chart" s_chart) : Df P w K mg base 5 "chart" ["ring", "count"] (sp_chart K C) := by
  refine Df.of G sc_chart b_chart (fun vs H Q E h => ?_) (fun f cdv A outer st H vs Q E hr h => ?_)
  · obtain ⟨r, a, b, ds, hs, n, rfl, _⟩ := h
    rfl
  · obtain ⟨r, a, b, ds, hs, n, rfl, RI, hn1, hn2, q⟩ := h
    obtain ⟨cl_Scene, n1, n2, n3, n4, n5⟩ := RS
    obtain ⟨cl_Ring, nS, nH, nT⟩ := R
    have O := RI.ok
    have o2 := O.two
    have o8 := O.eight
    refine ⟨_, PSs.nox (pss_cons (ps_if (pt_not (pt_val (pg D_is_integer hr (pa_cons (pv 1) (pa_cons pe_int (pa_cons (pint c_MAX_CHARTED) pa_nil)))))) (pss_one ps_never) pss_nil)
      (pss_cons (ps_par (i := 2) (j := 3) rfl sc_chart.nd rfl rfl (by decide) rfl rfl (pa_cons (pg D_first_scene hr (pa_cons (pv 0) pa_nil)) (pa_cons (pe_lc (own := [("reader", 6)]) rfl sc_chart.nd (pi_range1 (by rfl) Z.zrange (pa_cons (pe_callB (call_lenO M_Ring___len__ hr) (by rfl) Z.zlen PySem.boot_len (pa_cons (pv 0) pa_nil)) pa_nil)) (blkOk_by (N := N_chart) (sc := defScope s_chart) (by decide +kernel)) (fun _ _ _ _ _ => (pg_name (i := 6) sc_chart.nd rfl (by first | exact Or.inl rfl | exact Or.inr rfl))) (fun _ _ _ _ _ => pts_nil) (fun _ _ _ _ _ => pe_str)) pa_nil)) (by rfl))
      (pss_cons (ps_for PassesOwn.never rfl (pi_range1 (by rfl) Z.zrange (pa_cons (pv 1) pa_nil)) (pg_name (i := 4) sc_chart.nd rfl (by first | exact Or.inl rfl | exact Or.inr rfl)) (pss_cons (ps_if (pt_cmpR op_gt (pv 4) pe_int (nomark _)) (pss_one (ps_set (i := 2) sc_chart.nd rfl (by first | exact Or.inl rfl | exact Or.inr rfl) (pe_ix ix_tup (pm0 (pv 2) cl_Scene M_Scene_following hr) pe_int (fun _ _ => rfl)))) pss_nil)
          (pss_one (ps_setLc (i := 3) (own := [("sign", 7), ("end", 9)]) rfl sc_chart.nd rfl rfl (sw_true rfl rfl rfl (by decide +kernel)) (pi_zip2 false true (by rfl) Z.zzip (pa_cons (pv 3) (pa_cons (pe_fld (pv 2) rfl) pa_nil))) (blkOk_by (N := N_chart) (sc := defScope s_chart) (by decide +kernel)) (fun _ _ _ _ _ => (pg_tupK K (n := 2) (by rfl) (pgs_cons (pg_name (i := 7) sc_chart.nd rfl (by first | exact Or.inl rfl | exact Or.inr rfl)) (pgs_cons (pg_name (i := 9) sc_chart.nd rfl (by first | exact Or.inl rfl | exact Or.inr rfl)) pgs_nil)))) (fun _ _ _ _ _ => pts_nil) (fun _ _ _ _ _ => (pe_op op_addS (pv 7) (pe_ifExp (pt_cmpR op_notN (pv 9) pe_non (nomark _)) (pstr c_BUSY) (pstr c_FREE))))))))
      (pss_cons (ps_set (i := 5) sc_chart.nd rfl (by first | exact Or.inl rfl | exact Or.inr rfl) (pe_lst pa_nil))
      (pss_cons (ps_for PassesOwn.never rfl (pi_enumz false true (by rfl) Z.zenumerate (by rfl) Z.zzip (pa_cons (pv 3) (pa_cons (pe_fld (pv 2) rfl) pa_nil))) (pg_tup (by rfl) (pgs_cons (pg_name (i := 6) sc_chart.nd rfl (by first | exact Or.inl rfl | exact Or.inr rfl)) (pgs_cons (pg_tup (by rfl) (pgs_cons (pg_name (i := 7) sc_chart.nd rfl (by first | exact Or.inl rfl | exact Or.inr rfl)) (pgs_cons (pg_name (i := 8) sc_chart.nd rfl (by first | exact Or.inl rfl | exact Or.inr rfl)) pgs_nil))) pgs_nil))) (pss_one (ps_expr (pe_bm PySem.F.plainAttrs_list PySem.F.slot_list_append PySem.F.type_list_append mt_append (pv 5) (pa_cons (pe_joinedW (.cons (pe_fmt (pv 6)) (.cons pe_str (.cons (pe_fmt (pv 7)) (.cons pe_str (.cons (pe_fmtP (pe_callB (c_max2 rfl) (by rfl) Z.zmax (by decide +kernel) (pa_cons pe_int (pa_cons (pe_op op_sub (pe_callB c_len (by rfl) Z.zlen PySem.boot_len (pa_cons (pv 8) pa_nil)) pe_int) pa_nil)))) .nil)))))) pa_nil)))))
      (pss_one (ps_ret (pe_joinW pe_str (pv 5))))))))), ?_⟩
    walk_at "g0"
    walk_at "go"
    refine ⟨r, a, b, ds, hs, rfl, RI, fun sc H1 nsc e1 S1 => ?_⟩
    have RI1 := RI.ex e1
    walk_at "go"
    refine g_kLcR1 ⟨by omega, by omega⟩ (fun D i H' => Ex H1 H' ∧ H' D = some (.lst ((List.range i).map fun k => V.str (SX.S (sgL ds hs k 0))))) (fun D H2 nD eD hD => ⟨eD, hD⟩) (fun D i H2 nD hi hP => ?_) (fun D H2 nD hP => ?_)
    · obtain ⟨e2, hD⟩ := hP
      walk_at "go"
      refine g_kLcE hD (lt1000 (by rw [List.length_map, List.length_range]; omega)) fun H3 e3 h3 => ⟨Exb.ex nD e2 e3, ?_⟩
      rw [h3, ← mapV_next (m := i)]
      rfl
    · obtain ⟨e2, hD⟩ := hP
      rw [Int.toNat_natCast] at hD
      walk_at "go"
      refine g_kForR1 ⟨by omega, by omega⟩ (fun i σ H' => ∃ (s sg : Addr) (v4 v5 v6 v7 v8 v9 : Option V), σ = [some (.ref r), some (.int (n : Int)), some (.ref s), some (.ref sg), v4, v5, v6, v7, v8, v9] ∧ Ex H H' ∧ ScIn K SC H' s ds.length (scAt ds hs (i - 1)) ∧ H' sg = some (.lst ((List.range ds.length).map fun k => V.str (SX.S (sgL ds hs k i)))))
        ⟨sc, D, _, _, _, _, _, _, rfl, e1.trans e2, S1.ex e2, hD⟩ ?_ ?_
      · rintro i σ H3 hi ⟨s, sg, v4, v5, v6, v7, v8, v9, rfl, e3, S3, hsg⟩
        walk_at "go"
        refine g_kIfS (fun he => ?_) (fun he => ?_)
        · have he := of_decide_eq_true he
          obtain ⟨i', rfl⟩ : ∃ i', i = i' + 1 := ⟨i - 1, by omega⟩
          have S3 : ScIn K SC H3 s ds.length (scAt ds hs i') := S3
          obtain ⟨dx3, fs3, p3, q3, r3, ho3, hf3, _⟩ := S3.obj
          have m2 := hf3.m2
          walk_at "go"
          refine ⟨s, ds.length, scAt ds hs i', rfl, scAt_ok O i', S3, fun pp s' l3 zs H4 npp ns' nl3 hlp e34 hpp S4 hl3 _ => ?_⟩
          have e4 := e3.trans e34
          have hsg4 := e34 _ _ hsg
          have hpp2 := SqT.of (K := K) hpp
          have S4 : ScIn K SC H4 s' ds.length (scAt ds hs (i' + 1)) := S4
          walk_at "go"
          obtain ⟨dx4, fs4, p4, q4, r4, ho4, hf4, hst4, hq4, hr4⟩ := S4.obj
          obtain ⟨f1, f2, f3, f4, f5, f6, f7, f8⟩ := id hf4
          walk_at "go"
          refine g_kLcZ ds.length (show SqB K false H4 sg _ from SqL.of hsg4) (show SqB K true H4 q4 _ from hq4) (by rw [List.length_map, List.length_range]) enV_len
            (fun D j H' => Ex H4 H' ∧ H' D = some (.lst ((List.range j).map fun k => V.str (SX.S (sgL ds hs k (i' + 1 + 1)))))) (fun D H5 nD eD hD => ⟨eD, hD⟩) (fun D j H' nD _ hP => ⟨SqL.of (hP.1 _ _ hsg4), ex_t hP.1 hq4⟩)
            (fun D j x y H5 T H6 nD hj hx hy hP e6 nT hT' => ?_) (fun D H5 nD hP => ?_)
          · obtain ⟨e5, hD5⟩ := hP
            rw [mapV_at hj] at hx
            rw [show (enV ds.length (scAt ds hs (i' + 1)).en)[j]? = some (oV ((scAt ds hs (i' + 1)).en j)) from mapV_at hj] at hy
            cases hx
            cases hy
            refine gg_tup (SqT.of (K := K) hT') rfl ?_
            have l35 : ("#" : PySem.Str).length = 1 := by decide +kernel
            have l46 : ("." : PySem.Str).length = 1 := by decide +kernel
            have hsl : (SX.S (sgL ds hs j (i' + 1))).length = i' + 1 := by rw [SX.S_len, sgL_len]
            cases hen : (scAt ds hs (i' + 1)).en j with
            | none =>
              walk_at "go"
              refine ⟨rfl, ?_⟩
              show kTest _ (V.bl !decide (V.non = V.non)) _
              rw [dec_nn]
              walk_at "go"
              refine g_addS (by omega) ?_
              refine g_kLcE (e6 _ _ hD5) (lt1000 (by rw [List.length_map, List.length_range]; omega)) fun H7 e7 h7 => ⟨Exb.ex nD (e5.trans e6) e7, ?_⟩
              rw [h7, ← mapV_next (m := j)]
              refine congrArg (fun z => some (HO.lst (_ ++ [V.str z]))) ?_
              rw [free_S, SX.S_cat, sgL_next (i := (i' + 1)), show sgn ds hs j (i' + 1) = 46 from if_pos hen]
            | some e =>
              walk_at "go"
              refine ⟨rfl, ?_⟩
              show kTest _ (V.bl !decide (V.int e = V.non)) _
              rw [dec_in]
              walk_at "go"
              refine g_addS (by omega) ?_
              refine g_kLcE (e6 _ _ hD5) (lt1000 (by rw [List.length_map, List.length_range]; omega)) fun H7 e7 h7 => ⟨Exb.ex nD (e5.trans e6) e7, ?_⟩
              rw [h7, ← mapV_next (m := j)]
              refine congrArg (fun z => some (HO.lst (_ ++ [V.str z]))) ?_
              rw [busy_S, SX.S_cat, sgL_next (i := (i' + 1)), show sgn ds hs j (i' + 1) = 35 from if_neg (by rw [hen]; intro z; cases z)]
          · obtain ⟨e5, hD5⟩ := hP
            walk_at "go"
            exact ⟨_, D, _, _, _, _, _, _, rfl, e4.trans e5, S4.ex e5, hD5⟩
        · have he := of_decide_eq_false he
          obtain rfl : i = 0 := by omega
          have H4e : H3 = H3 := rfl
          have S4 : ScIn K SC H3 s ds.length (scAt ds hs 0) := S3
          have hsg4 := hsg
          have e4 := e3
          obtain ⟨dx4, fs4, p4, q4, r4, ho4, hf4, hst4, hq4, hr4⟩ := S4.obj
          obtain ⟨f1, f2, f3, f4, f5, f6, f7, f8⟩ := id hf4
          walk_at "go"
          refine g_kLcZ ds.length (show SqB K false H3 sg _ from SqL.of hsg4) (show SqB K true H3 q4 _ from hq4) (by rw [List.length_map, List.length_range]) enV_len
            (fun D j H' => Ex H3 H' ∧ H' D = some (.lst ((List.range j).map fun k => V.str (SX.S (sgL ds hs k (0 + 1)))))) (fun D H5 nD eD hD => ⟨eD, hD⟩) (fun D j H' nD _ hP => ⟨SqL.of (hP.1 _ _ hsg4), ex_t hP.1 hq4⟩)
            (fun D j x y H5 T H6 nD hj hx hy hP e6 nT hT' => ?_) (fun D H5 nD hP => ?_)
          · obtain ⟨e5, hD5⟩ := hP
            rw [mapV_at hj] at hx
            rw [show (enV ds.length (scAt ds hs 0).en)[j]? = some (oV ((scAt ds hs 0).en j)) from mapV_at hj] at hy
            cases hx
            cases hy
            refine gg_tup (SqT.of (K := K) hT') rfl ?_
            have l35 : ("#" : PySem.Str).length = 1 := by decide +kernel
            have l46 : ("." : PySem.Str).length = 1 := by decide +kernel
            have hsl : (SX.S (sgL ds hs j 0)).length = 0 := by rw [SX.S_len, sgL_len]
            cases hen : (scAt ds hs 0).en j with
            | none =>
              walk_at "go"
              refine ⟨rfl, ?_⟩
              show kTest _ (V.bl !decide (V.non = V.non)) _
              rw [dec_nn]
              walk_at "go"
              refine g_addS (by omega) ?_
              refine g_kLcE (e6 _ _ hD5) (lt1000 (by rw [List.length_map, List.length_range]; omega)) fun H7 e7 h7 => ⟨Exb.ex nD (e5.trans e6) e7, ?_⟩
              rw [h7, ← mapV_next (m := j)]
              refine congrArg (fun z => some (HO.lst (_ ++ [V.str z]))) ?_
              rw [free_S, SX.S_cat, sgL_next (i := 0), show sgn ds hs j 0 = 46 from if_pos hen]
            | some e =>
              walk_at "go"
              refine ⟨rfl, ?_⟩
              show kTest _ (V.bl !decide (V.int e = V.non)) _
              rw [dec_in]
              walk_at "go"
              refine g_addS (by omega) ?_
              refine g_kLcE (e6 _ _ hD5) (lt1000 (by rw [List.length_map, List.length_range]; omega)) fun H7 e7 h7 => ⟨Exb.ex nD (e5.trans e6) e7, ?_⟩
              rw [h7, ← mapV_next (m := j)]
              refine congrArg (fun z => some (HO.lst (_ ++ [V.str z]))) ?_
              rw [busy_S, SX.S_cat, sgL_next (i := 0), show sgn ds hs j 0 = 35 from if_neg (by rw [hen]; intro z; cases z)]
          · obtain ⟨e5, hD5⟩ := hP
            walk_at "go"
            exact ⟨_, D, _, _, _, _, _, _, rfl, e4.trans e5, S4.ex e5, hD5⟩
      · rintro σ H3 ⟨s, sg, v4, v5, v6, v7, v8, v9, rfl, e3, S3, hsg⟩
        rw [Int.toNat_natCast] at S3 hsg
        have W3 := scAt_ok O (n - 1)
        obtain ⟨dx3, fs3, p3, q3, r3, ho3, hf3, ⟨sA, hp3, hs3⟩, hq3, hr3⟩ := S3.obj
        obtain ⟨f1, f2, f3, f4, f5, f6, f7, f8⟩ := id hf3
        walk_at "go"
        rename_i l4 H4 nl4 e4 hl4
        have ho4 := e4 _ _ ho3
        have hsg4 := e4 _ _ hsg
        have hp4 := ex_t e4 hp3
        walk_at "go"
        refine g_kForEz ds.length (show SqB K false H4 sg _ from SqL.of hsg4) (show SqB K true H4 p3 _ from hp4) (by rw [List.length_map, List.length_range]) stV_len
          (fun i σ H' => ∃ (v4 v6 v7 v8 v9 : Option V), σ = [some (.ref r), some (.int (n : Int)), some (.ref s), some (.ref sg), v4, some (.ref l4), v6, v7, v8, v9] ∧ Ex H3 H' ∧ H' l4 = some (.lst (((List.range i).map (rowC ds hs n)).map V.str)))
          ⟨_, _, _, _, _, rfl, e4, hl4⟩ (fun i σ H' _ hP => by
            obtain ⟨_, _, _, _, _, _, e, _⟩ := hP
            exact ⟨SqL.of (e _ _ hsg), ex_t e hp3⟩) ?_ ?_
        · rintro i x y σ H5 T T0 H6 hi hx hy ⟨v4, v6, v7, v8, v9, rfl, e5, hl5⟩ e6 hT0 hT
          rw [mapV_at hi] at hx
          rw [show (stV ds.length sA)[i]? = some (V.ref (sA i)) from mapV_at hi] at hy
          cases hx
          cases hy
          have e56 := e5.trans e6
          have hl6 := e6 _ _ hl5
          have hstk := ex_t e56 (hs3 i hi)
          have hln := W3.toScW.len hi
          refine gg_tup (SqT.of (K := K) hT) rfl ?_
          refine gg_cons ?_
          refine gg_name ?_
          refine gg_cons ?_
          refine gg_tup (SqT.of (K := K) hT0) rfl ?_
          have Oi := num_ok (i := (i : Int)) (by omega) (by omega)
          have l1 : ((toString (i : Int) : String) : PySem.Str).length ≤ 2 := Oi.l2
          have s1 : (" " : PySem.Str).length = 1 := by decide +kernel
          have e0 : (PySem.Str.empty : PySem.Str).length = 0 := by decide +kernel
          have hsl : (SX.S (sgL ds hs i n)).length = n := by rw [SX.S_len, sgL_len]
          walk_at "go"
          refine g_kBM_list (SqL.of hl6) ?_
          walk_at "go"
          refine g_kFmtI ⟨by omega, by omega⟩ ?_
          refine g_kJ (by omega) ?_
          walk_at "go"
          refine g_kJ (by simp only [len_cat]; omega) ?_
          walk_at "go"
          refine g_kFmtS (by omega) ?_
          refine g_kJ (by simp only [len_cat]; omega) ?_
          walk_at "go"
          refine g_kJ (by simp only [len_cat]; omega) ?_
          walk_at "go"
          rw [show max (0 : Int) ((((scAt ds hs (n - 1)).st i).length : Int) - 1) = (((((scAt ds hs (n - 1)).st i).length - 1 : Nat)) : Int) by omega]
          refine g_kFmtP (by omega) ?_
          refine g_kJ (by simp only [len_cat, pad_len]; omega) ?_
          walk_at "go"
          refine g_append hl6 (lt1000 (by rw [List.length_map, List.length_map, List.length_range]; omega)) fun H7 e7 h7 => ?_
          walk_at "go"
          refine ⟨_, _, _, _, _, rfl, Exb.ex nl4 e56 e7, ?_⟩
          rw [h7, List.range_succ, List.map_append, List.map_append]
          rfl
        · rintro σ H5 ⟨v4, v6, v7, v8, v9, rfl, e5, hl5⟩
          walk_at "go"
          refine g_join (SqL.of hl5) ?_ ?_
          · have h3 : ("\n" : PySem.Str).length = 1 := by decide +kernel
            have hle : ∀ x ∈ ((List.range ds.length).map (rowC ds hs n)).map (·.length), x ≤ 110 := fun x hx => by
              rw [List.map_map] at hx
              obtain ⟨k, hk, rfl⟩ := List.mem_map.mp hx
              exact rowC_len (by have := List.mem_range.mp hk; omega) hn2
            have := nsum_le hle
            rw [List.length_map, List.length_map, List.length_range] at this
            rw [List.length_map, List.length_range, h3]
            omega
          · walk_at "go"
            exact q _ (e3.trans e5)
end
end G48

--lib Z
--lib W
/-! texts: repeated, put together -/
namespace G48
open PySem PySem.Spec PyProof.Rows L2 Evl
def rRepS : R2 := fun x y H Q => ∃ (a : PySem.Str) (n : Int), x = .str a ∧ y = .int n ∧ MulOk a n ∧ Q (.str (Txt.mul a n)) H
theorem op_repS {X : Cx} : OpR X (binaryOp .Mult) rRepS := by
  intro pins s σ H x y v u Q I rx ry h
  obtain ⟨i, j, rfl, rfl, hz, q⟩ := h
  obtain ⟨t, rfl⟩ := rx
  obtain ⟨t', rfl⟩ := ry
  exact SB.mul hz fun t' k => ⟨.str (Txt.mul i j), H, I.tok _, ⟨_, rfl⟩, q⟩
theorem getD_at {ds : List Int} {i : Nat} (h : i < ds.length) : (ds.map V.int)[i]? = some (.int (ds.getD i 0)) := by
  rw [List.getElem?_map, List.getD_eq_getElem?_getD, List.getElem?_eq_getElem h]
  rfl
theorem log_small {i : Int} (h0 : 0 ≤ i) (h1 : i < 1000) : i.natAbs.log2 < 1920 := Nat.lt_of_le_of_lt (Nat.log2_le_self _) (by omega)
theorem str_assoc (a b c : PySem.Str) : a ++ b ++ c = a ++ (b ++ c) := by
  rw [← SX.S_tl a, ← SX.S_tl b, ← SX.S_tl c]
  simp only [SX.S_cat, List.append_assoc]
theorem em_cat (a : PySem.Str) : PySem.Str.empty ++ a = a := by
  rw [em_S, ← SX.S_tl a, SX.S_cat]
  rfl
instance {x : PySem.Str} {n : Int} : Decidable (MulOk x n) := by unfold MulOk; infer_instance
theorem pad_all : (List.range 13).all (fun n => decide (Txt.mul " " (2 - ((numI (n : Int)).length : Int)) ++ numI (n : Int) = PySem.W.padN n) && decide (MulOk " " (2 - ((numI (n : Int)).length : Int))) && decide ((Txt.mul " " (2 - ((numI (n : Int)).length : Int))).length ≤ 2)) = true := by decide +kernel
theorem pad_eq {n : Nat} (h : n ≤ 12) : Txt.mul " " (2 - ((numI (n : Int)).length : Int)) ++ numI (n : Int) = PySem.W.padN n ∧ MulOk " " (2 - ((numI (n : Int)).length : Int)) ∧ (Txt.mul " " (2 - ((numI (n : Int)).length : Int))).length ≤ 2 := by
  have := List.all_eq_true.mp pad_all n (List.mem_range.mpr (by omega))
  simp only [Bool.and_eq_true, decide_eq_true_eq] at this
  exact ⟨this.1.1, this.1.2, this.2⟩
end G48

namespace G48
open PySem PySem.Spec PyProof.Rows L2 Evl
abbrev N__law_chart : List Str := ["_law_days", "_law_heaps", "_law_count", "_law_model", "_law_signs", "_law_turn", "_law_lines", "_law_k", "_law_number", "_law_end"]
theorem sc__law_chart : FnScope N__law_chart ["_law_days", "_law_heaps", "_law_count"] (defScope s__law_chart) := ⟨rfl, rfl, rfl, by decide +kernel, rfl, by decide +kernel, by decide +kernel⟩
theorem b__law_chart : BindL "_law_chart" "_law_chart" s__law_chart ["_law_days", "_law_heaps", "_law_count"] := fun _ _ _ _ _ _ us hl => match us, hl with | [_, _, _], _ => rfl
end G48
--lib Z
--lib W
--lib Y
/-! the own chart -/
namespace G48
open PySem PySem.Spec PyProof.Rows L2 Evl
/-! the steps -/
local macro_rules | `(tactic| walk_at "as") => `(tactic| with_reducible assumption)
local macro_rules | `(tactic| walk_at "hp") => `(tactic| first
  | with_reducible assumption
  | ((with_reducible apply SqT.of); walk_at "as")
  | ((with_reducible apply SqL.of); walk_at "as")
  | ((with_reducible apply ex_at); (focus walk_at "as"); walk_at "hp")
  | ((with_reducible apply ex_t); (focus walk_at "as"); walk_at "hp")
  | ((with_reducible apply ex_l); (focus walk_at "as"); walk_at "hp")
  | ((with_reducible apply exb_ins); (focus walk_at "as"); (focus walk_at "hp"); walk_at "hp")
  | ((with_reducible apply exb_t); (focus walk_at "as"); (focus walk_at "hp"); walk_at "hp")
  | ((with_reducible apply exb_at); (focus walk_at "as"); (focus walk_at "ne"); walk_at "hp")
  | ((with_reducible apply exb_l); (focus walk_at "as"); (focus walk_at "ne"); walk_at "hp"))
local macro_rules | `(tactic| walk_at "ne") => `(tactic| first
  | with_reducible assumption
  | exact Ne.symm (by with_reducible assumption)
  | exact ne_of_none (by with_reducible assumption) (by with_reducible assumption)
  | exact Ne.symm (ne_of_none (by with_reducible assumption) (by with_reducible assumption)))
local macro_rules | `(tactic| walk_at "tr") => `(tactic| first
  | rfl
  | with_reducible assumption
  | exact decide_eq_true (by first | with_reducible assumption | omega)
  | exact decide_eq_false (by first | with_reducible assumption | omega)
  | (rw [Bool.not_eq_true']; exact decide_eq_false (by first | with_reducible assumption | omega))
  | (rw [Bool.not_eq_false']; exact decide_eq_true (by first | with_reducible assumption | omega)))
local macro_rules | `(tactic| walk_at "nn") => `(tactic| first | with_reducible assumption | (exact List.cons_ne_nil _ _))
local macro_rules | `(tactic| walk_at "sz") => `(tactic| first | (exact sz1000 (Nat.le_of_ble_eq_true rfl)) | (refine sz1000 ?_; simp only [List.length_map, List.length_cons, List.length_nil, List.length_append]; omega) | with_reducible assumption)
local macro_rules | `(tactic| walk_at "sl") => `(tactic| first | with_reducible assumption | (refine lt1000 ?_; simp only [List.length_map, List.length_cons, List.length_nil, List.length_append]; omega) | (refine lt1000 ?_; omega))
local macro_rules | `(tactic| walk_at "ix") => `(tactic| first | rfl | with_reducible assumption)
local macro_rules | `(tactic| walk_at "rg") => `(tactic| exact RgOk.of_le (by omega) (by omega) (by omega) (by omega))
local macro_rules | `(tactic| walk_at "sp") => `(tactic| fail "sp")
local macro_rules | `(tactic| walk_at "cl") => `(tactic| with_reducible assumption)
local macro_rules | `(tactic| walk_at "lk") => `(tactic| with_reducible assumption)
local macro_rules | `(tactic| walk_at "it") => `(tactic| first | rfl | with_reducible assumption | exact atI_nat (by with_reducible assumption))
local macro_rules | `(tactic| walk_at "g1") => `(tactic| first
  | (with_reducible apply g_var); (focus rfl)
  | with_reducible apply g_c
  | with_reducible apply g_seq
  | with_reducible apply g_asg
  | with_reducible apply gg_name
  | with_reducible apply g_op
  | with_reducible apply g_cons
  | with_reducible apply g_nil
  | with_reducible apply g_cb
  | with_reducible apply g_fld
  | ((with_reducible apply g_kFld); (focus walk_at "hp"); (focus walk_at "cl"); (focus walk_at "cl"); (focus walk_at "lk"))
  | with_reducible apply g_call
  | walk_at "sp"
  | with_reducible apply g_ret
  | with_reducible apply g_drop
  | with_reducible apply g_test
  | with_reducible apply g_B
  | with_reducible apply g_kTest
  | with_reducible apply g_ifS
  | with_reducible apply g_kIfST
  | with_reducible apply g_kIfSF
  | with_reducible apply g_add
  | with_reducible apply g_sub
  | with_reducible apply g_lt
  | with_reducible apply g_le
  | with_reducible apply g_gt
  | with_reducible apply g_ge
  | with_reducible apply g_eqI
  | with_reducible apply g_neI
  | ((with_reducible apply g_mod); (focus first | decide | omega))
  | ((with_reducible apply g_mul); (focus first | (left; constructor <;> omega) | (right; constructor <;> omega)))
  | ((with_reducible apply g_fdiv); (focus (constructor <;> omega)))
  | ((with_reducible apply g_ixT); (focus walk_at "hp"); (focus walk_at "it"))
  | ((with_reducible apply g_ixL); (focus walk_at "hp"); (focus walk_at "it"))
  | with_reducible apply g_and
  | with_reducible apply g_or
  | with_reducible apply g_not
  | with_reducible apply g_kNotT
  | with_reducible apply g_kNotF
  | with_reducible apply g_if
  | with_reducible apply g_kAndT
  | with_reducible apply g_kAndF
  | with_reducible apply g_kOrT
  | with_reducible apply g_kOrF
  | with_reducible apply g_kIfT
  | with_reducible apply g_kIfF
  | with_reducible apply g_next
  | with_reducible apply g_andV
  | with_reducible apply g_orV
  | with_reducible apply g_notV
  | with_reducible apply g_kNotV
  | with_reducible apply g_kAndVT
  | with_reducible apply g_kAndVF
  | with_reducible apply g_chain
  | with_reducible apply g_kChainT
  | with_reducible apply g_kChainF
  | with_reducible apply g_tup
  | with_reducible apply g_lst
  | ((with_reducible apply g_kT); (focus walk_at "sz"); intro _ _ _ _ _)
  | ((with_reducible apply g_kL); (focus walk_at "sz"); intro _ _ _ _ _)
  | with_reducible apply g_un
  | with_reducible apply g_neg
  | with_reducible apply g_meth
  | ((with_reducible apply g_kMeth); (focus walk_at "hp"); (focus walk_at "lk"))
  | with_reducible apply g_prop
  | ((with_reducible apply g_kProp); (focus walk_at "hp"))
  | with_reducible apply g_make
  | with_reducible apply g_par
  | with_reducible apply g_kPar
  | ((with_reducible apply g_lenLM); (focus walk_at "hp"))
  | ((with_reducible apply g_lenTM); (focus walk_at "hp"))
  | ((with_reducible apply g_lenL); (focus walk_at "hp"))
  | ((with_reducible apply g_lenT); (focus walk_at "hp"))
  | with_reducible apply g_int1
  | with_reducible apply g_max2
  | with_reducible apply g_min2
  | ((with_reducible apply g_listL); (focus walk_at "hp"); intro _ _ _ _ _)
  | ((with_reducible apply g_listT); (focus walk_at "hp"); intro _ _ _ _ _)
  | ((with_reducible apply g_tupL); (focus walk_at "hp"); intro _ _ _ _ _)
  | ((with_reducible apply g_sum); (focus walk_at "hp"))
  | with_reducible apply g_sfld
  | with_reducible apply g_sl
  | with_reducible apply g_nopart
  | with_reducible apply g_part
  | with_reducible apply g_kPart
  | with_reducible apply g_lstRg
  | with_reducible apply g_rg1
  | with_reducible apply g_kRg1
  | with_reducible apply g_bm
  | with_reducible apply gg_sub
  | ((with_reducible apply gg_tup); (focus walk_at "hp"); (focus rfl))
  | with_reducible apply gg_cons
  | with_reducible apply gg_nil
  | with_reducible apply g_forL
  | with_reducible apply g_forT
  | with_reducible apply g_forR1
  | with_reducible apply g_forR2
  | with_reducible apply g_forE
  | with_reducible apply g_forEL
  | ((with_reducible apply g_maxT); (focus walk_at "hp"); (focus walk_at "nn"))
  | ((with_reducible apply g_maxL); (focus walk_at "hp"); (focus walk_at "nn"))
  | ((with_reducible apply g_catA); (focus walk_at "hp"); (focus walk_at "hp"); (focus walk_at "sz"); intro _ _ _ _)
  | ((with_reducible apply g_slA); (focus walk_at "hp"); intro _ _ _ _)
  | ((with_reducible apply g_tupD); (focus walk_at "hp"); intro _ _ _ _ _)
  | ((with_reducible apply g_setL); (focus walk_at "hp"); (focus walk_at "ix"); intro _ _ _)
  | ((with_reducible apply g_append); (focus walk_at "hp"); (focus walk_at "sl"); intro _ _ _)
  | ((with_reducible apply g_aug); (focus rfl))
  | with_reducible apply g_ipI
  | with_reducible apply g_retN
  | with_reducible apply g_lcR1
  | with_reducible apply g_lcR2
  | with_reducible apply g_lcL
  | with_reducible apply g_lcU
  | with_reducible apply g_lcN
  | ((with_reducible apply g_kLcG); (focus rfl))
  | with_reducible apply g_yes
  | with_reducible apply g_kLcTT
  | with_reducible apply g_kLcTF
  | ((with_reducible apply g_kLcE); (focus walk_at "hp"); (focus walk_at "sl"); intro _ _ _)
  | ((with_reducible apply g_pow); (focus (constructor <;> (try constructor) <;> decide)))
  | ((with_reducible apply g_kLRg); (focus walk_at "rg"); intro _ _ _ _ _)
  | ((with_reducible apply g_cat); (focus walk_at "hp"); (focus walk_at "hp"); (focus walk_at "sz"); intro _ _ _ _ _)
  | ((with_reducible apply g_slL); (focus walk_at "hp"); intro _ _ _ _ _)
  | with_reducible apply g_bmT
  | with_reducible apply g_break
  | with_reducible apply g_cont)
local macro_rules | `(tactic| walk_at "g0") => `(tactic| try dsimp only [L2.cxOf, L2.Cx.nox, L2.Cx.wish])
local macro_rules | `(tactic| walk_at "yn") => `(tactic| first
  | ((with_reducible apply y_kIfS); (focus walk_at "tr"))
  | ((with_reducible apply n_kIfS); (focus walk_at "tr"))
  | ((with_reducible apply y_kOr); (focus walk_at "tr"))
  | ((with_reducible apply n_kOr); (focus walk_at "tr"))
  | ((with_reducible apply y_kAnd); (focus walk_at "tr"))
  | ((with_reducible apply n_kAnd); (focus walk_at "tr"))
  | ((with_reducible apply y_kNot); (focus walk_at "tr"))
  | ((with_reducible apply n_kNot); (focus walk_at "tr"))
  | ((with_reducible apply y_kIf); (focus walk_at "tr"))
  | ((with_reducible apply n_kIf); (focus walk_at "tr"))
  | ((with_reducible apply y_kAndV); (focus walk_at "tr"))
  | ((with_reducible apply n_kAndV); (focus walk_at "tr"))
  | ((with_reducible apply y_kOrV); (focus walk_at "tr"))
  | ((with_reducible apply n_kOrV); (focus walk_at "tr"))
  | ((with_reducible apply y_kChain); (focus walk_at "tr"))
  | ((with_reducible apply n_kChain); (focus walk_at "tr"))
  | ((with_reducible apply y_kLcT); (focus walk_at "tr"))
  | ((with_reducible apply n_kLcT); (focus walk_at "tr"))
  | ((with_reducible apply y_kWh); (focus walk_at "tr"))
  | ((with_reducible apply n_kWh); (focus walk_at "tr")))
local macro_rules | `(tactic| walk_at "go") => `(tactic| repeat (first | walk_at "g1" | walk_at "yn"))
local macro_rules | `(tactic| walk_at "hp") => `(tactic| first
  | ((with_reducible apply RingIn.ex); (focus walk_at "as"); walk_at "hp")
  | ((with_reducible apply RingAt.ex); (focus walk_at "as"); walk_at "hp")
  | ((with_reducible apply RingIn.exb); (focus walk_at "as"); (focus walk_at "hp"); walk_at "hp")
  | ((with_reducible apply RingAt.exb); (focus walk_at "as"); (focus walk_at "hp"); walk_at "hp")
  | ((with_reducible apply TupK.ex); (focus walk_at "as"); walk_at "hp")
  | ((with_reducible apply TupK.exb); (focus walk_at "as"); (focus walk_at "hp"); walk_at "hp"))
local macro_rules | `(tactic| walk_at "lk") => `(tactic| first | with_reducible exact rf_spans | with_reducible exact rf_heaps | with_reducible exact rf_total | with_reducible exact rf_nr | with_reducible exact rf_wd)
local macro_rules | `(tactic| walk_at "sp") => `(tactic| first
  | ((with_reducible apply g_isiTup); (focus walk_at "hp"))
  | ((with_reducible apply g_isiLst); (focus walk_at "hp"))
  | ((with_reducible apply g_isint); (focus omega); (focus omega))
  | ((with_reducible apply g_checkn); (focus omega); (focus omega))
  | ((with_reducible apply g_rbooks); (focus walk_at "hp"))
  | ((with_reducible apply g_rpace); (focus walk_at "hp"); intro _ _ _ _)
  | ((with_reducible apply g_rlen); (focus walk_at "hp"))
  | ((with_reducible apply g_rneed); (focus walk_at "hp"); (focus omega))
  | ((with_reducible apply g_rneedM); (focus walk_at "hp"))
  | ((with_reducible apply g_rwithM); (focus walk_at "hp"))
  | ((with_reducible apply g_rspans); (focus walk_at "hp"); (focus with_reducible assumption))
  | ((with_reducible apply g_rheaps); (focus walk_at "hp"); (focus with_reducible assumption))
  | ((with_reducible apply g_rtotal); (focus walk_at "hp"); (focus with_reducible assumption)))

local macro_rules | `(tactic| walk_at "sp") => `(tactic| first
  | ((with_reducible apply g_taken); (focus walk_at "hp"); (focus first | decide | omega); (focus first | decide | omega); intro _ _ _ _ _ _))
local macro_rules | `(tactic| walk_at "hp") => `(tactic| first
  | ((with_reducible apply DiceAt.ex); (focus walk_at "as"); walk_at "hp")
  | ((with_reducible apply exb_tD); (focus walk_at "as"); (focus walk_at "hp"); walk_at "hp")
  | ((with_reducible apply exb_insD); (focus walk_at "as"); (focus walk_at "hp"); walk_at "hp")
  | ((with_reducible apply RingIn.exD); (focus walk_at "as"); (focus walk_at "hp"); walk_at "hp")
  | ((with_reducible apply TupK.exD); (focus walk_at "as"); (focus walk_at "hp"); walk_at "hp"))

local macro_rules | `(tactic| walk_at "g1") => `(tactic| first
  | with_reducible apply g_m1
  | with_reducible apply g_kM1
  | with_reducible apply g_joined
  | with_reducible apply g_jcons
  | with_reducible apply g_jnil
  | with_reducible apply g_kOut
  | with_reducible apply g_fmt
  | with_reducible apply g_lcTx
  | with_reducible apply g_lcZ
  | with_reducible apply g_lcNL
  | with_reducible apply g_forZ2
  | with_reducible apply g_forZ3
  | with_reducible apply g_inS)

section
variable {P : Program} {w : World} {K : PySem.W.Frag} {mg : Str → Option Value} {base : Heap} {C : Addr}
def sp_mchart (K : PySem.W.Frag) : Sp := fun vs H Q _ => ∃ (a b : Addr) (ds hs : List Int) (n : Nat), vs = [.ref a, .ref b, .int (n : Int)] ∧ SqT K H a (ds.map V.int) ∧ SqT K H b (hs.map V.int) ∧ RingOk ds hs ∧ 1 ≤ n ∧ n ≤ 100 ∧ ∀ H', Ex H H' → Q (.str (chartT ds hs n)) H'
set_option maxHeartbeats 16000000 in
theorem ok_mchart (Z : Blt mg) (D__law_first : Df P w K mg base 2 "_law_first" ["_law_days", "_law_heaps"] (sp_mfirst K)) (D__law_next : Df P w K mg base 2 "_law_next" ["_law_model"] (sp_mnext K)) (G : GFun K mg "_law_chart" s__law_chart) : Df P w K mg base 3 "_law_chart" ["_law_days", "_law_heaps", "_law_count"] (sp_mchart K) := by
  refine Df.of G sc__law_chart b__law_chart (fun vs H Q E h => ?_) (fun f cdv A outer st H vs Q E hr h => ?_)
  · obtain ⟨a, b, ds, hs, n, rfl, _⟩ := h
    rfl
  · obtain ⟨a, b, ds, hs, n, rfl, ha, hb, O, hn1, hn2, q⟩ := h
    have o2 := O.two
    have o8 := O.eight
    refine ⟨_, PSs.nox (pss_cons (ps_set (i := 3) sc__law_chart.nd rfl (by first | exact Or.inl rfl | exact Or.inr rfl) (pg D__law_first hr (pa_cons (pv 0) (pa_cons (pv 1) pa_nil))))
      (pss_cons (ps_set (i := 4) sc__law_chart.nd rfl (by first | exact Or.inl rfl | exact Or.inr rfl) (pe_lc (own := [("_law_end", 9)]) rfl sc__law_chart.nd (pi_list (pe_ix ix_list (pv 3) pe_int (fun _ _ => rfl))) (blkOk_by (N := N__law_chart) (sc := defScope s__law_chart) (by decide +kernel)) (fun _ _ _ _ _ => (pg_name (i := 9) sc__law_chart.nd rfl (by first | exact Or.inl rfl | exact Or.inr rfl))) (fun _ _ _ _ _ => pts_nil) (fun _ _ _ _ _ => (pe_ifExp (pt_cmpR op_notN (pv 9) pe_non (nomark _)) pe_str pe_str))))
      (pss_cons (ps_for PassesOwn.never rfl (pi_range1 (by rfl) Z.zrange (pa_cons (pe_op op_sub (pv 2) pe_int) pa_nil)) (pg_name (i := 5) sc__law_chart.nd rfl (by first | exact Or.inl rfl | exact Or.inr rfl)) (pss_cons (ps_set (i := 3) sc__law_chart.nd rfl (by first | exact Or.inl rfl | exact Or.inr rfl) (pe_ix ix_tup (pg D__law_next hr (pa_cons (pv 3) pa_nil)) pe_int (fun _ _ => rfl)))
          (pss_one (ps_set (i := 4) sc__law_chart.nd rfl (by first | exact Or.inl rfl | exact Or.inr rfl) (pe_lc (own := [("_law_k", 7)]) rfl sc__law_chart.nd (pi_range1 (by rfl) Z.zrange (pa_cons (pe_callB c_len (by rfl) Z.zlen PySem.boot_len (pa_cons (pv 0) pa_nil)) pa_nil)) (blkOk_by (N := N__law_chart) (sc := defScope s__law_chart) (by decide +kernel)) (fun _ _ _ _ _ => (pg_name (i := 7) sc__law_chart.nd rfl (by first | exact Or.inl rfl | exact Or.inr rfl))) (fun _ _ _ _ _ => pts_nil) (fun _ _ _ _ _ => (pe_op op_addS (pe_ix (ix_listK K) (pv 4) (pv 7) (fun _ _ => rfl)) (pe_ifExp (pt_cmpR op_notN (pe_ix (ix_listK K) (pe_ix (ix_listK K) (pv 3) pe_int (fun _ _ => rfl)) (pv 7) (fun _ _ => rfl)) pe_non (nomark _)) pe_str pe_str))))))))
      (pss_cons (ps_set (i := 6) sc__law_chart.nd rfl (by first | exact Or.inl rfl | exact Or.inr rfl) (pe_lst pa_nil))
      (pss_cons (ps_for PassesOwn.never rfl (pi_range1 (by rfl) Z.zrange (pa_cons (pe_callB c_len (by rfl) Z.zlen PySem.boot_len (pa_cons (pv 0) pa_nil)) pa_nil)) (pg_name (i := 7) sc__law_chart.nd rfl (by first | exact Or.inl rfl | exact Or.inr rfl)) (pss_cons (ps_set (i := 8) sc__law_chart.nd rfl (by first | exact Or.inl rfl | exact Or.inr rfl) (pe_callTy call_str_int (by rfl) Z.zstr (by decide +kernel) (pa_cons (pe_callB (c_max2 rfl) (by rfl) Z.zmax (by decide +kernel) (pa_cons pe_int (pa_cons (pe_op op_sub (pe_callB c_len (by rfl) Z.zlen PySem.boot_len (pa_cons (pe_ix ix_list (pe_ix ix_list (pv 3) pe_int (fun _ _ => rfl)) (pv 7) (fun _ _ => rfl)) pa_nil)) pe_int) pa_nil))) pa_nil)))
          (pss_one (ps_expr (pe_bm PySem.F.plainAttrs_list PySem.F.slot_list_append PySem.F.type_list_append mt_append (pv 6) (pa_cons (pe_op op_addS (pe_op op_addS (pe_op op_addS (pe_op op_addS (pe_op op_addS (pe_callTy call_str_int (by rfl) Z.zstr (by decide +kernel) (pa_cons (pv 7) pa_nil)) pe_str) (pe_ix ix_list (pv 4) (pv 7) (fun _ _ => rfl))) pe_str) (pe_op op_repS pe_str (pe_op op_sub pe_int (pe_callB c_len (by rfl) Z.zlen PySem.boot_len (pa_cons (pv 8) pa_nil))))) (pv 8)) pa_nil))))))
      (pss_one (ps_ret (pe_joinW pe_str (pv 6))))))))), ?_⟩
    walk_at "g0"
    walk_at "go"
    refine ⟨a, b, ds, hs, rfl, ha, hb, O, fun m H1 nm e1 M1 => ?_⟩
    obtain ⟨sl, el, da, lA, hm, hsl, hel, hda, hl⟩ := id M1
    walk_at "go"
    have sg1 : ∀ k, sgL ds hs k 1 = [sgn ds hs k 0] := fun k => sgL_next (i := 0)
    refine g_kLcL (SqL.of hel) (fun D i H' => Ex H1 H' ∧ H' D = some (.lst ((List.range i).map fun k => V.str (SX.S (sgL ds hs k 1))))) (fun D H2 nD e2 hD => ⟨e2, hD⟩) (fun D i H2 nD _ hP => SqL.of (hP.1 _ _ hel)) ?_ ?_
    · rintro D i x H2 nD hx ⟨e2, hD⟩
      have hi : i < ds.length := by
        have := (List.getElem?_eq_some_iff.mp hx).1
        rw [enV_len] at this
        exact this
      rw [show (enV ds.length (Sc.first ds hs).en)[i]? = some (oV ((scAt ds hs 0).en i)) from mapV_at hi] at hx
      cases hx
      cases hen : (scAt ds hs 0).en i with
      | none =>
        walk_at "go"
        refine ⟨rfl, ?_⟩
        show kTest _ (V.bl !decide (V.non = V.non)) _
        rw [dec_nn]
        walk_at "go"
        refine g_kLcE hD (lt1000 (by rw [List.length_map, List.length_range]; omega)) fun H3 e3 h3 => ⟨Exb.ex nD e2 e3, ?_⟩
        rw [h3, ← mapV_next (m := i)]
        refine congrArg (fun z => some (HO.lst (_ ++ [V.str z]))) ?_
        rw [free_S, sg1, show sgn ds hs i 0 = 46 from if_pos hen]
      | some e =>
        walk_at "go"
        refine ⟨rfl, ?_⟩
        show kTest _ (V.bl !decide (V.int e = V.non)) _
        rw [dec_in]
        walk_at "go"
        refine g_kLcE hD (lt1000 (by rw [List.length_map, List.length_range]; omega)) fun H3 e3 h3 => ⟨Exb.ex nD e2 e3, ?_⟩
        rw [h3, ← mapV_next (m := i)]
        refine congrArg (fun z => some (HO.lst (_ ++ [V.str z]))) ?_
        rw [busy_S, sg1, show sgn ds hs i 0 = 35 from if_neg (by rw [hen]; intro z; cases z)]
    · rintro D H2 nD ⟨e2, hD⟩
      rw [enV_len] at hD
      have ha2 := ex_t (e1.trans e2) ha
      have M2 : OM K H2 m ds.length (scAt ds hs 0) := M1.ex e2
      have e02 := e1.trans e2
      clear hsl hel hda hl hm M1 e1 e2
      walk_at "go"
      refine g_kForR1 ⟨by omega, by omega⟩ (fun t σ H' => ∃ (m sg : Addr) (v5 v6 v7 v8 v9 : Option V), σ = [some (.ref a), some (.ref b), some (.int (n : Int)), some (.ref m), some (.ref sg), v5, v6, v7, v8, v9] ∧ Ex H H' ∧ OM K H' m ds.length (scAt ds hs t) ∧ H' sg = some (.lst ((List.range ds.length).map fun k => V.str (SX.S (sgL ds hs k (t + 1))))))
        ⟨m, D, _, _, _, _, _, rfl, e02, M2, hD⟩ ?_ ?_
      · rintro t σ H3 ht ⟨m, sg, v5, v6, v7, v8, v9, rfl, e3, M3, hsg⟩
        obtain ⟨sl, el, da, lA, hm, hsl, hel, hda, hl⟩ := id M3
        walk_at "go"
        refine ⟨m, ds.length, _, rfl, scAt_ok O t, M3, fun p m' l zs H4 np e4 hp M4 hl4 _ => ?_⟩
        have hp4 := SqT.of (K := K) hp
        have ha4 := ex_t (e3.trans e4) ha
        walk_at "go"
        have M4 : OM K H4 m' ds.length (scAt ds hs (t + 1)) := M4
        have hsg4 := e4 _ _ hsg
        refine g_kLcR1 ⟨by omega, by omega⟩ (fun D i H' => Ex H4 H' ∧ H' D = some (.lst ((List.range i).map fun k => V.str (SX.S (sgL ds hs k (t + 1 + 1)))))) (fun D H2 nD eD hD => ⟨eD, hD⟩) (fun D i H5 nD hi hP => ?_) (fun D H5 nD hP => ?_)
        · obtain ⟨e5, hD5⟩ := hP
          have hi' : i < ds.length := by omega
          obtain ⟨sl5, el5, da5, lA5, hm5, hsl5, hel5, _, _⟩ := (M4.ex e5).obj
          have hsg5 := e5 _ _ hsg4
          have hat : ((List.range ds.length).map fun k => V.str (SX.S (sgL ds hs k (t + 1))))[i]? = some (V.str (SX.S (sgL ds hs i (t + 1)))) := mapV_at hi'
          have hae : (enV ds.length (scAt ds hs (t + 1)).en)[i]? = some (oV ((scAt ds hs (t + 1)).en i)) := mapV_at hi'
          have l35 : ("#" : PySem.Str).length = 1 := by decide +kernel
          have l46 : ("." : PySem.Str).length = 1 := by decide +kernel
          have hsl : (SX.S (sgL ds hs i (t + 1))).length = t + 1 := by rw [SX.S_len, sgL_len]
          cases hen : (scAt ds hs (t + 1)).en i with
          | none =>
            rw [hen] at hae
            walk_at "go"
            refine ⟨rfl, ?_⟩
            show kTest _ (V.bl !decide (V.non = V.non)) _
            rw [dec_nn]
            walk_at "go"
            refine g_addS (by omega) ?_
            refine g_kLcE hD5 (lt1000 (by rw [List.length_map, List.length_range]; omega)) fun H6 e6 h6 => ⟨Exb.ex nD e5 e6, ?_⟩
            rw [h6, ← mapV_next (m := i)]
            refine congrArg (fun z => some (HO.lst (_ ++ [V.str z]))) ?_
            rw [free_S, SX.S_cat, sgL_next (i := t + 1), show sgn ds hs i (t + 1) = 46 from if_pos hen]
          | some e =>
            rw [hen] at hae
            walk_at "go"
            refine ⟨rfl, ?_⟩
            show kTest _ (V.bl !decide (V.int e = V.non)) _
            rw [dec_in]
            walk_at "go"
            refine g_addS (by omega) ?_
            refine g_kLcE hD5 (lt1000 (by rw [List.length_map, List.length_range]; omega)) fun H6 e6 h6 => ⟨Exb.ex nD e5 e6, ?_⟩
            rw [h6, ← mapV_next (m := i)]
            refine congrArg (fun z => some (HO.lst (_ ++ [V.str z]))) ?_
            rw [busy_S, SX.S_cat, sgL_next (i := t + 1), show sgn ds hs i (t + 1) = 35 from if_neg (by rw [hen]; intro z; cases z)]
        · obtain ⟨e5, hD5⟩ := hP
          rw [Int.toNat_natCast] at hD5
          walk_at "go"
          exact ⟨m', D, _, _, _, _, _, rfl, (e3.trans e4).trans e5, M4.ex e5, hD5⟩
      · rintro σ H3 ⟨m, sg, v5, v6, v7, v8, v9, rfl, e3, M3, hsg⟩
        rw [show ((n : Int) - 1).toNat = n - 1 by omega] at M3 hsg
        rw [show n - 1 + 1 = n by omega] at hsg
        have ha3 := ex_t e3 ha
        obtain ⟨sl, el, da, lA, hm, hsl, hel, hda, hl⟩ := id M3
        walk_at "go"
        rename_i L H4 nL e4 hL
        have W4 := scAt_ok O (n - 1)
        have e34 := e4
        have hm4 := e4 _ _ hm
        have hsl4 := e4 _ _ hsl
        have hsg4 := e4 _ _ hsg
        refine g_kForR1 ⟨by omega, by omega⟩ (fun i σ H' => ∃ (v5 v7 v8 v9 : Option V), σ = [some (.ref a), some (.ref b), some (.int (n : Int)), some (.ref m), some (.ref sg), v5, some (.ref L), v7, v8, v9] ∧
            Ex H3 H' ∧ H' L = some (.lst (((List.range i).map (rowC ds hs n)).map V.str)))
          ⟨_, _, _, _, rfl, e4, hL⟩ ?_ ?_
        · rintro i σ H5 hi ⟨v5, v7, v8, v9, rfl, e5, hL5⟩
          have hi' : i < ds.length := by omega
          have hm5 := e5 _ _ hm
          have hsl5 := e5 _ _ hsl
          have hsg5 := e5 _ _ hsg
          have hl5 := e5 _ _ (hl i hi')
          have as : (stV ds.length lA)[i]? = some (.ref (lA i)) := mapV_at hi'
          have hat2 : ((List.range ds.length).map fun k => V.str (SX.S (sgL ds hs k n)))[i]? = some (V.str (SX.S (sgL ds hs i n))) := mapV_at hi'
          have hL2 := W4.toScW.len hi'
          have hrow : rowC ds hs n i = PySem.Str.empty ++ numI (i : Int) ++ " " ++ SX.S (sgL ds hs i n) ++ " " ++ PySem.W.padN (((scAt ds hs (n - 1)).st i).length - 1) := rfl
          walk_at "go"
          rw [show max (0 : Int) ((((scAt ds hs (n - 1)).st i).length : Int) - 1) = (((((scAt ds hs (n - 1)).st i).length - 1 : Nat)) : Int) by omega]
          have hL3 : ((scAt ds hs (n - 1)).st i).length - 1 ≤ 12 := by omega
          generalize ((scAt ds hs (n - 1)).st i).length - 1 = L0 at hrow hL3
          obtain ⟨pe1, pe2, pe3⟩ := pad_eq hL3
          have OL := num_ok (i := (L0 : Int)) (by omega) (by omega)
          have l1 : ((toString (L0 : Int) : String) : PySem.Str).length ≤ 2 := OL.l2
          have Oi := num_ok (i := (i : Int)) (by omega) (by omega)
          have l2 : ((toString (i : Int) : String) : PySem.Str).length ≤ 2 := Oi.l2
          have s1 : (" " : PySem.Str).length = 1 := by decide +kernel
          have hsln : (SX.S (sgL ds hs i n)).length = n := by rw [SX.S_len, sgL_len]
          refine ⟨_, rfl, log_small (by omega) (by omega), ?_⟩
          walk_at "go"
          refine g_kBM_list (SqL.of hL5) ?_
          walk_at "go"
          refine ⟨_, rfl, log_small (by omega) (by omega), ?_⟩
          walk_at "go"
          refine g_addS (by omega) ?_
          walk_at "go"
          refine g_addS (by simp only [len_cat]; omega) ?_
          walk_at "go"
          refine g_addS (by simp only [len_cat]; omega) ?_
          walk_at "go"
          refine g_lenS (sz1000 (by omega)) ?_
          walk_at "go"
          refine ⟨_, _, rfl, rfl, pe2, ?_⟩
          have pe4 : (Txt.mul " " (2 - ((numI (L0 : Int)).length : Int))).length + (numI (L0 : Int)).length ≤ 4 := by have := OL.l2; omega
          refine g_addS (by simp only [len_cat]; exact Nat.le_trans (Nat.add_le_add_left pe3 _) (by omega)) ?_
          walk_at "go"
          refine g_addS (by simp only [len_cat]; exact Nat.le_trans (Nat.le_of_eq (Nat.add_assoc _ _ _)) (Nat.le_trans (Nat.add_le_add_left pe4 _) (by omega))) ?_
          walk_at "go"
          refine g_append hL5 (lt1000 (by rw [List.length_map, List.length_map, List.length_range]; omega)) fun H6 e6 h6 => ?_
          walk_at "go"
          refine ⟨_, _, _, _, rfl, Exb.ex nL e5 e6, ?_⟩
          rw [h6, List.range_succ, List.map_append, List.map_append]
          refine congrArg (fun z => some (HO.lst (_ ++ [V.str z]))) ?_
          rw [hrow, ← pe1, em_cat, ← str_assoc _ _ (numI (L0 : Int))]
          rfl
        · rintro σ H5 ⟨v5, v7, v8, v9, rfl, e5, hL5⟩
          rw [Int.toNat_natCast] at hL5
          walk_at "go"
          refine g_join (SqL.of hL5) ?_ ?_
          · have h3 : ("\n" : PySem.Str).length = 1 := by decide +kernel
            have hle : ∀ x ∈ ((List.range ds.length).map (rowC ds hs n)).map (·.length), x ≤ 110 := fun x hx => by
              rw [List.map_map] at hx
              obtain ⟨k, hk, rfl⟩ := List.mem_map.mp hx
              exact rowC_len (by have := List.mem_range.mp hk; omega) hn2
            have := nsum_le hle
            rw [List.length_map, List.length_map, List.length_range] at this
            rw [List.length_map, List.length_range, h3]
            omega
          · exact q _ (e3.trans e5)
end
end G48

/-! nested tuples and lists of plain values -/
namespace G48
open PySem PySem.Spec PyProof.Rows L2 Evl
/-! the steps -/
local macro_rules | `(tactic| walk_at "as") => `(tactic| with_reducible assumption)
local macro_rules | `(tactic| walk_at "hp") => `(tactic| first
  | with_reducible assumption
  | ((with_reducible apply SqT.of); walk_at "as")
  | ((with_reducible apply SqL.of); walk_at "as")
  | ((with_reducible apply ex_at); (focus walk_at "as"); walk_at "hp")
  | ((with_reducible apply ex_t); (focus walk_at "as"); walk_at "hp")
  | ((with_reducible apply ex_l); (focus walk_at "as"); walk_at "hp")
  | ((with_reducible apply exb_ins); (focus walk_at "as"); (focus walk_at "hp"); walk_at "hp")
  | ((with_reducible apply exb_t); (focus walk_at "as"); (focus walk_at "hp"); walk_at "hp")
  | ((with_reducible apply exb_at); (focus walk_at "as"); (focus walk_at "ne"); walk_at "hp")
  | ((with_reducible apply exb_l); (focus walk_at "as"); (focus walk_at "ne"); walk_at "hp"))
local macro_rules | `(tactic| walk_at "ne") => `(tactic| first
  | with_reducible assumption
  | exact Ne.symm (by with_reducible assumption)
  | exact ne_of_none (by with_reducible assumption) (by with_reducible assumption)
  | exact Ne.symm (ne_of_none (by with_reducible assumption) (by with_reducible assumption)))
local macro_rules | `(tactic| walk_at "tr") => `(tactic| first
  | rfl
  | with_reducible assumption
  | exact decide_eq_true (by first | with_reducible assumption | omega)
  | exact decide_eq_false (by first | with_reducible assumption | omega)
  | (rw [Bool.not_eq_true']; exact decide_eq_false (by first | with_reducible assumption | omega))
  | (rw [Bool.not_eq_false']; exact decide_eq_true (by first | with_reducible assumption | omega)))
local macro_rules | `(tactic| walk_at "nn") => `(tactic| first | with_reducible assumption | (exact List.cons_ne_nil _ _))
local macro_rules | `(tactic| walk_at "sz") => `(tactic| first | (exact sz1000 (Nat.le_of_ble_eq_true rfl)) | (refine sz1000 ?_; simp only [List.length_map, List.length_cons, List.length_nil, List.length_append]; omega) | with_reducible assumption)
local macro_rules | `(tactic| walk_at "sl") => `(tactic| first | with_reducible assumption | (refine lt1000 ?_; simp only [List.length_map, List.length_cons, List.length_nil, List.length_append]; omega) | (refine lt1000 ?_; omega))
local macro_rules | `(tactic| walk_at "ix") => `(tactic| first | rfl | with_reducible assumption)
local macro_rules | `(tactic| walk_at "rg") => `(tactic| exact RgOk.of_le (by omega) (by omega) (by omega) (by omega))
local macro_rules | `(tactic| walk_at "sp") => `(tactic| fail "sp")
local macro_rules | `(tactic| walk_at "cl") => `(tactic| with_reducible assumption)
local macro_rules | `(tactic| walk_at "lk") => `(tactic| with_reducible assumption)
local macro_rules | `(tactic| walk_at "it") => `(tactic| first | rfl | with_reducible assumption | exact atI_nat (by with_reducible assumption))
local macro_rules | `(tactic| walk_at "g1") => `(tactic| first
  | (with_reducible apply g_var); (focus rfl)
  | with_reducible apply g_c
  | with_reducible apply g_seq
  | with_reducible apply g_asg
  | with_reducible apply gg_name
  | with_reducible apply g_op
  | with_reducible apply g_cons
  | with_reducible apply g_nil
  | with_reducible apply g_cb
  | with_reducible apply g_fld
  | ((with_reducible apply g_kFld); (focus walk_at "hp"); (focus walk_at "cl"); (focus walk_at "cl"); (focus walk_at "lk"))
  | with_reducible apply g_call
  | walk_at "sp"
  | with_reducible apply g_ret
  | with_reducible apply g_drop
  | with_reducible apply g_test
  | with_reducible apply g_B
  | with_reducible apply g_kTest
  | with_reducible apply g_ifS
  | with_reducible apply g_kIfST
  | with_reducible apply g_kIfSF
  | with_reducible apply g_add
  | with_reducible apply g_sub
  | with_reducible apply g_lt
  | with_reducible apply g_le
  | with_reducible apply g_gt
  | with_reducible apply g_ge
  | with_reducible apply g_eqI
  | with_reducible apply g_neI
  | ((with_reducible apply g_mod); (focus first | decide | omega))
  | ((with_reducible apply g_mul); (focus first | (left; constructor <;> omega) | (right; constructor <;> omega)))
  | ((with_reducible apply g_fdiv); (focus (constructor <;> omega)))
  | ((with_reducible apply g_ixT); (focus walk_at "hp"); (focus walk_at "it"))
  | ((with_reducible apply g_ixL); (focus walk_at "hp"); (focus walk_at "it"))
  | with_reducible apply g_and
  | with_reducible apply g_or
  | with_reducible apply g_not
  | with_reducible apply g_kNotT
  | with_reducible apply g_kNotF
  | with_reducible apply g_if
  | with_reducible apply g_kAndT
  | with_reducible apply g_kAndF
  | with_reducible apply g_kOrT
  | with_reducible apply g_kOrF
  | with_reducible apply g_kIfT
  | with_reducible apply g_kIfF
  | with_reducible apply g_next
  | with_reducible apply g_andV
  | with_reducible apply g_orV
  | with_reducible apply g_notV
  | with_reducible apply g_kNotV
  | with_reducible apply g_kAndVT
  | with_reducible apply g_kAndVF
  | with_reducible apply g_chain
  | with_reducible apply g_kChainT
  | with_reducible apply g_kChainF
  | with_reducible apply g_tup
  | with_reducible apply g_lst
  | ((with_reducible apply g_kT); (focus walk_at "sz"); intro _ _ _ _ _)
  | ((with_reducible apply g_kL); (focus walk_at "sz"); intro _ _ _ _ _)
  | with_reducible apply g_un
  | with_reducible apply g_neg
  | with_reducible apply g_meth
  | ((with_reducible apply g_kMeth); (focus walk_at "hp"); (focus walk_at "lk"))
  | with_reducible apply g_prop
  | ((with_reducible apply g_kProp); (focus walk_at "hp"))
  | with_reducible apply g_make
  | with_reducible apply g_par
  | with_reducible apply g_kPar
  | ((with_reducible apply g_lenLM); (focus walk_at "hp"))
  | ((with_reducible apply g_lenTM); (focus walk_at "hp"))
  | ((with_reducible apply g_lenL); (focus walk_at "hp"))
  | ((with_reducible apply g_lenT); (focus walk_at "hp"))
  | with_reducible apply g_int1
  | with_reducible apply g_max2
  | with_reducible apply g_min2
  | ((with_reducible apply g_listL); (focus walk_at "hp"); intro _ _ _ _ _)
  | ((with_reducible apply g_listT); (focus walk_at "hp"); intro _ _ _ _ _)
  | ((with_reducible apply g_tupL); (focus walk_at "hp"); intro _ _ _ _ _)
  | ((with_reducible apply g_sum); (focus walk_at "hp"))
  | with_reducible apply g_sfld
  | with_reducible apply g_sl
  | with_reducible apply g_nopart
  | with_reducible apply g_part
  | with_reducible apply g_kPart
  | with_reducible apply g_lstRg
  | with_reducible apply g_rg1
  | with_reducible apply g_kRg1
  | with_reducible apply g_bm
  | with_reducible apply gg_sub
  | ((with_reducible apply gg_tup); (focus walk_at "hp"); (focus rfl))
  | with_reducible apply gg_cons
  | with_reducible apply gg_nil
  | with_reducible apply g_forL
  | with_reducible apply g_forT
  | with_reducible apply g_forR1
  | with_reducible apply g_forR2
  | with_reducible apply g_forE
  | with_reducible apply g_forEL
  | ((with_reducible apply g_maxT); (focus walk_at "hp"); (focus walk_at "nn"))
  | ((with_reducible apply g_maxL); (focus walk_at "hp"); (focus walk_at "nn"))
  | ((with_reducible apply g_catA); (focus walk_at "hp"); (focus walk_at "hp"); (focus walk_at "sz"); intro _ _ _ _)
  | ((with_reducible apply g_slA); (focus walk_at "hp"); intro _ _ _ _)
  | ((with_reducible apply g_tupD); (focus walk_at "hp"); intro _ _ _ _ _)
  | ((with_reducible apply g_setL); (focus walk_at "hp"); (focus walk_at "ix"); intro _ _ _)
  | ((with_reducible apply g_append); (focus walk_at "hp"); (focus walk_at "sl"); intro _ _ _)
  | ((with_reducible apply g_aug); (focus rfl))
  | with_reducible apply g_ipI
  | with_reducible apply g_retN
  | with_reducible apply g_lcR1
  | with_reducible apply g_lcR2
  | with_reducible apply g_lcL
  | with_reducible apply g_lcU
  | with_reducible apply g_lcN
  | ((with_reducible apply g_kLcG); (focus rfl))
  | with_reducible apply g_yes
  | with_reducible apply g_kLcTT
  | with_reducible apply g_kLcTF
  | ((with_reducible apply g_kLcE); (focus walk_at "hp"); (focus walk_at "sl"); intro _ _ _)
  | ((with_reducible apply g_pow); (focus (constructor <;> (try constructor) <;> decide)))
  | ((with_reducible apply g_kLRg); (focus walk_at "rg"); intro _ _ _ _ _)
  | ((with_reducible apply g_cat); (focus walk_at "hp"); (focus walk_at "hp"); (focus walk_at "sz"); intro _ _ _ _ _)
  | ((with_reducible apply g_slL); (focus walk_at "hp"); intro _ _ _ _ _)
  | with_reducible apply g_bmT
  | with_reducible apply g_break
  | with_reducible apply g_cont)
local macro_rules | `(tactic| walk_at "g0") => `(tactic| try dsimp only [L2.cxOf, L2.Cx.nox, L2.Cx.wish])
local macro_rules | `(tactic| walk_at "yn") => `(tactic| first
  | ((with_reducible apply y_kIfS); (focus walk_at "tr"))
  | ((with_reducible apply n_kIfS); (focus walk_at "tr"))
  | ((with_reducible apply y_kOr); (focus walk_at "tr"))
  | ((with_reducible apply n_kOr); (focus walk_at "tr"))
  | ((with_reducible apply y_kAnd); (focus walk_at "tr"))
  | ((with_reducible apply n_kAnd); (focus walk_at "tr"))
  | ((with_reducible apply y_kNot); (focus walk_at "tr"))
  | ((with_reducible apply n_kNot); (focus walk_at "tr"))
  | ((with_reducible apply y_kIf); (focus walk_at "tr"))
  | ((with_reducible apply n_kIf); (focus walk_at "tr"))
  | ((with_reducible apply y_kAndV); (focus walk_at "tr"))
  | ((with_reducible apply n_kAndV); (focus walk_at "tr"))
  | ((with_reducible apply y_kOrV); (focus walk_at "tr"))
  | ((with_reducible apply n_kOrV); (focus walk_at "tr"))
  | ((with_reducible apply y_kChain); (focus walk_at "tr"))
  | ((with_reducible apply n_kChain); (focus walk_at "tr"))
  | ((with_reducible apply y_kLcT); (focus walk_at "tr"))
  | ((with_reducible apply n_kLcT); (focus walk_at "tr"))
  | ((with_reducible apply y_kWh); (focus walk_at "tr"))
  | ((with_reducible apply n_kWh); (focus walk_at "tr")))
local macro_rules | `(tactic| walk_at "go") => `(tactic| repeat (first | walk_at "g1" | walk_at "yn"))
local macro_rules | `(tactic| walk_at "hp") => `(tactic| first
  | ((with_reducible apply RingIn.ex); (focus walk_at "as"); walk_at "hp")
  | ((with_reducible apply RingAt.ex); (focus walk_at "as"); walk_at "hp")
  | ((with_reducible apply RingIn.exb); (focus walk_at "as"); (focus walk_at "hp"); walk_at "hp")
  | ((with_reducible apply RingAt.exb); (focus walk_at "as"); (focus walk_at "hp"); walk_at "hp")
  | ((with_reducible apply TupK.ex); (focus walk_at "as"); walk_at "hp")
  | ((with_reducible apply TupK.exb); (focus walk_at "as"); (focus walk_at "hp"); walk_at "hp"))
local macro_rules | `(tactic| walk_at "lk") => `(tactic| first | with_reducible exact rf_spans | with_reducible exact rf_heaps | with_reducible exact rf_total | with_reducible exact rf_nr | with_reducible exact rf_wd)
local macro_rules | `(tactic| walk_at "sp") => `(tactic| first
  | ((with_reducible apply g_isiTup); (focus walk_at "hp"))
  | ((with_reducible apply g_isiLst); (focus walk_at "hp"))
  | ((with_reducible apply g_isint); (focus omega); (focus omega))
  | ((with_reducible apply g_checkn); (focus omega); (focus omega))
  | ((with_reducible apply g_rbooks); (focus walk_at "hp"))
  | ((with_reducible apply g_rpace); (focus walk_at "hp"); intro _ _ _ _)
  | ((with_reducible apply g_rlen); (focus walk_at "hp"))
  | ((with_reducible apply g_rneed); (focus walk_at "hp"); (focus omega))
  | ((with_reducible apply g_rneedM); (focus walk_at "hp"))
  | ((with_reducible apply g_rwithM); (focus walk_at "hp"))
  | ((with_reducible apply g_rspans); (focus walk_at "hp"); (focus with_reducible assumption))
  | ((with_reducible apply g_rheaps); (focus walk_at "hp"); (focus with_reducible assumption))
  | ((with_reducible apply g_rtotal); (focus walk_at "hp"); (focus with_reducible assumption)))

local macro_rules | `(tactic| walk_at "sp") => `(tactic| first
  | ((with_reducible apply g_taken); (focus walk_at "hp"); (focus first | decide | omega); (focus first | decide | omega); intro _ _ _ _ _ _))
local macro_rules | `(tactic| walk_at "hp") => `(tactic| first
  | ((with_reducible apply DiceAt.ex); (focus walk_at "as"); walk_at "hp")
  | ((with_reducible apply exb_tD); (focus walk_at "as"); (focus walk_at "hp"); walk_at "hp")
  | ((with_reducible apply exb_insD); (focus walk_at "as"); (focus walk_at "hp"); walk_at "hp")
  | ((with_reducible apply RingIn.exD); (focus walk_at "as"); (focus walk_at "hp"); walk_at "hp")
  | ((with_reducible apply TupK.exD); (focus walk_at "as"); (focus walk_at "hp"); walk_at "hp"))

section
variable {P : Program} {w : World} {K : PySem.W.Frag} {mg : Str → Option Value} {base : Heap} {C CC : Addr}
inductive LeafV : V → Prop where
  | non : LeafV .non
  | bl (b : Bool) : LeafV (.bl b)
  | int (i : Int) : LeafV (.int i)
  | str (x : Str) : LeafV (.str x)
theorem LeafV.ty {H : Hp} {v : V} (h : LeafV v) : ∃ u rb ri rs, TyX K H v u ∧ PySem.W.kitOne K u (.type "tuple") = some false ∧ PySem.W.kitOne K u (.type "list") = some false ∧ PySem.W.kitOne K u (.type "bool") = some rb ∧ PySem.W.kitOne K u (.type "int") = some ri ∧ PySem.W.kitOne K u (.type "str") = some rs := by
  cases h with
  | non => exact ⟨.type "NoneType", false, false, false, .base .non, kit_ty (by decide +kernel), kit_ty (by decide +kernel), kit_ty (by decide +kernel), kit_ty (by decide +kernel), kit_ty (by decide +kernel)⟩
  | bl b => exact ⟨.type "bool", true, true, false, .base (.bl b), kit_ty (by decide +kernel), kit_ty (by decide +kernel), kit_ty (by decide +kernel), kit_ty (by decide +kernel), kit_ty (by decide +kernel)⟩
  | int i => exact ⟨.type "int", false, true, false, .base (.int i), kit_ty (by decide +kernel), kit_ty (by decide +kernel), kit_ty (by decide +kernel), kit_ty (by decide +kernel), kit_ty (by decide +kernel)⟩
  | str x => exact ⟨.type "str", false, false, true, .base (.str x), kit_ty (by decide +kernel), kit_ty (by decide +kernel), kit_ty (by decide +kernel), kit_ty (by decide +kernel), kit_ty (by decide +kernel)⟩
theorem LeafV.scal {v : V} (h : LeafV v) : scal v v = true := by cases h <;> rfl
/-- alike: the same data, of depth d at most -/
inductive Lk (K : PySem.W.Frag) (H : Hp) : Nat → V → V → Prop where
  | leaf {d : Nat} {v : V} (h : LeafV v) : Lk K H d v v
  | tup {d : Nat} {a b : Addr} {xs ys : List V} (h1 : SqT K H a xs) (h2 : SqT K H b ys) (l : xs.length = ys.length) (z : xs.length ≤ 10000) (q : ∀ (i : Nat) (x y : V), xs[i]? = some x → ys[i]? = some y → Lk K H d x y) : Lk K H (d + 1) (.ref a) (.ref b)
  | lst {d : Nat} {a b : Addr} {xs ys : List V} (h1 : SqL K H a xs) (h2 : SqL K H b ys) (l : xs.length = ys.length) (z : xs.length ≤ 10000) (q : ∀ (i : Nat) (x y : V), xs[i]? = some x → ys[i]? = some y → Lk K H d x y) : Lk K H (d + 1) (.ref a) (.ref b)
theorem Lk.ex {H H' : Hp} (e : Ex H H') {d : Nat} {x y : V} (h : Lk K H d x y) : Lk K H' d x y := by
  induction h with
  | leaf h => exact .leaf h
  | tup h1 h2 l z _ ih => exact .tup (ex_t e h1) (ex_t e h2) l z ih
  | lst h1 h2 l z _ ih => exact .lst (ex_l e h1) (ex_l e h2) l z ih
theorem Lk.int {H : Hp} {d : Nat} {i : Int} : Lk K H d (.int i) (.int i) := .leaf (.int i)
/-- two tuples of the same ints -/
theorem Lk.ints {H : Hp} {d : Nat} {a b : Addr} {ns : List Int} (h1 : SqT K H a (ns.map V.int)) (h2 : SqT K H b (ns.map V.int)) (z : ns.length ≤ 10000) : Lk K H (d + 1) (.ref a) (.ref b) :=
  .tup h1 h2 rfl (by rw [List.length_map]; exact z) fun i x y hx hy => by
    rw [hx] at hy
    cases hy
    obtain ⟨n, rfl, _⟩ := at_int hx
    exact .int
theorem Lk.intsL {H : Hp} {d : Nat} {a b : Addr} {ns : List Int} (h1 : SqL K H a (ns.map V.int)) (h2 : SqL K H b (ns.map V.int)) (z : ns.length ≤ 10000) : Lk K H (d + 1) (.ref a) (.ref b) :=
  .lst h1 h2 rfl (by rw [List.length_map]; exact z) fun i x y hx hy => by
    rw [hx] at hy
    cases hy
    obtain ⟨n, rfl, _⟩ := at_int hx
    exact .int
theorem g_isiTu {H : Hp} {Q : VK} {a : Addr} {xs : List V} {T : String} {r : Bool} (s : SqT K H a xs) (h : kitB "tuple" T = some r) (q : Q (.bl r) H) : rIsi K [.ref a, .ty T] H Q := g_isi (.ty _) (sqT_ty s) (kit_ty h) q
theorem g_isiLi {H : Hp} {Q : VK} {a : Addr} {xs : List V} {T : String} {r : Bool} (s : SqL K H a xs) (h : kitB "list" T = some r) (q : Q (.bl r) H) : rIsi K [.ref a, .ty T] H Q := g_isi (.ty _) (sqL_ty s) (kit_ty h) q
end
end G48

namespace G48
open PySem PySem.Spec PyProof.Rows L2 Evl
abbrev N__law_alike : List Str := ["_law_one", "_law_due", "_law_k"]
theorem sc__law_alike : FnScope N__law_alike ["_law_one", "_law_due"] (defScope s__law_alike) := ⟨rfl, rfl, rfl, by decide +kernel, rfl, by decide +kernel, by decide +kernel⟩
theorem b__law_alike : BindL "_law_alike" "_law_alike" s__law_alike ["_law_one", "_law_due"] := fun _ _ _ _ _ _ us hl => match us, hl with | [_, _], _ => rfl
end G48
/-! _law_alike -/
namespace G48
open PySem PySem.Spec PyProof.Rows L2 Evl
/-! the steps -/
local macro_rules | `(tactic| walk_at "as") => `(tactic| with_reducible assumption)
local macro_rules | `(tactic| walk_at "hp") => `(tactic| first
  | with_reducible assumption
  | ((with_reducible apply SqT.of); walk_at "as")
  | ((with_reducible apply SqL.of); walk_at "as")
  | ((with_reducible apply ex_at); (focus walk_at "as"); walk_at "hp")
  | ((with_reducible apply ex_t); (focus walk_at "as"); walk_at "hp")
  | ((with_reducible apply ex_l); (focus walk_at "as"); walk_at "hp")
  | ((with_reducible apply exb_ins); (focus walk_at "as"); (focus walk_at "hp"); walk_at "hp")
  | ((with_reducible apply exb_t); (focus walk_at "as"); (focus walk_at "hp"); walk_at "hp")
  | ((with_reducible apply exb_at); (focus walk_at "as"); (focus walk_at "ne"); walk_at "hp")
  | ((with_reducible apply exb_l); (focus walk_at "as"); (focus walk_at "ne"); walk_at "hp"))
local macro_rules | `(tactic| walk_at "ne") => `(tactic| first
  | with_reducible assumption
  | exact Ne.symm (by with_reducible assumption)
  | exact ne_of_none (by with_reducible assumption) (by with_reducible assumption)
  | exact Ne.symm (ne_of_none (by with_reducible assumption) (by with_reducible assumption)))
local macro_rules | `(tactic| walk_at "tr") => `(tactic| first
  | rfl
  | with_reducible assumption
  | exact decide_eq_true (by first | with_reducible assumption | omega)
  | exact decide_eq_false (by first | with_reducible assumption | omega)
  | (rw [Bool.not_eq_true']; exact decide_eq_false (by first | with_reducible assumption | omega))
  | (rw [Bool.not_eq_false']; exact decide_eq_true (by first | with_reducible assumption | omega)))
local macro_rules | `(tactic| walk_at "nn") => `(tactic| first | with_reducible assumption | (exact List.cons_ne_nil _ _))
local macro_rules | `(tactic| walk_at "sz") => `(tactic| first | (exact sz1000 (Nat.le_of_ble_eq_true rfl)) | (refine sz1000 ?_; simp only [List.length_map, List.length_cons, List.length_nil, List.length_append]; omega) | with_reducible assumption)
local macro_rules | `(tactic| walk_at "sl") => `(tactic| first | with_reducible assumption | (refine lt1000 ?_; simp only [List.length_map, List.length_cons, List.length_nil, List.length_append]; omega) | (refine lt1000 ?_; omega))
local macro_rules | `(tactic| walk_at "ix") => `(tactic| first | rfl | with_reducible assumption)
local macro_rules | `(tactic| walk_at "rg") => `(tactic| exact RgOk.of_le (by omega) (by omega) (by omega) (by omega))
local macro_rules | `(tactic| walk_at "sp") => `(tactic| fail "sp")
local macro_rules | `(tactic| walk_at "cl") => `(tactic| with_reducible assumption)
local macro_rules | `(tactic| walk_at "lk") => `(tactic| with_reducible assumption)
local macro_rules | `(tactic| walk_at "it") => `(tactic| first | rfl | with_reducible assumption | exact atI_nat (by with_reducible assumption))
local macro_rules | `(tactic| walk_at "g1") => `(tactic| first
  | (with_reducible apply g_var); (focus rfl)
  | with_reducible apply g_c
  | with_reducible apply g_seq
  | with_reducible apply g_asg
  | with_reducible apply gg_name
  | with_reducible apply g_op
  | with_reducible apply g_cons
  | with_reducible apply g_nil
  | with_reducible apply g_cb
  | with_reducible apply g_fld
  | ((with_reducible apply g_kFld); (focus walk_at "hp"); (focus walk_at "cl"); (focus walk_at "cl"); (focus walk_at "lk"))
  | with_reducible apply g_call
  | walk_at "sp"
  | with_reducible apply g_ret
  | with_reducible apply g_drop
  | with_reducible apply g_test
  | with_reducible apply g_B
  | with_reducible apply g_kTest
  | with_reducible apply g_ifS
  | with_reducible apply g_kIfST
  | with_reducible apply g_kIfSF
  | with_reducible apply g_add
  | with_reducible apply g_sub
  | with_reducible apply g_lt
  | with_reducible apply g_le
  | with_reducible apply g_gt
  | with_reducible apply g_ge
  | with_reducible apply g_eqI
  | with_reducible apply g_neI
  | ((with_reducible apply g_mod); (focus first | decide | omega))
  | ((with_reducible apply g_mul); (focus first | (left; constructor <;> omega) | (right; constructor <;> omega)))
  | ((with_reducible apply g_fdiv); (focus (constructor <;> omega)))
  | ((with_reducible apply g_ixT); (focus walk_at "hp"); (focus walk_at "it"))
  | ((with_reducible apply g_ixL); (focus walk_at "hp"); (focus walk_at "it"))
  | with_reducible apply g_and
  | with_reducible apply g_or
  | with_reducible apply g_not
  | with_reducible apply g_kNotT
  | with_reducible apply g_kNotF
  | with_reducible apply g_if
  | with_reducible apply g_kAndT
  | with_reducible apply g_kAndF
  | with_reducible apply g_kOrT
  | with_reducible apply g_kOrF
  | with_reducible apply g_kIfT
  | with_reducible apply g_kIfF
  | with_reducible apply g_next
  | with_reducible apply g_andV
  | with_reducible apply g_orV
  | with_reducible apply g_notV
  | with_reducible apply g_kNotV
  | with_reducible apply g_kAndVT
  | with_reducible apply g_kAndVF
  | with_reducible apply g_chain
  | with_reducible apply g_kChainT
  | with_reducible apply g_kChainF
  | with_reducible apply g_tup
  | with_reducible apply g_lst
  | ((with_reducible apply g_kT); (focus walk_at "sz"); intro _ _ _ _ _)
  | ((with_reducible apply g_kL); (focus walk_at "sz"); intro _ _ _ _ _)
  | with_reducible apply g_un
  | with_reducible apply g_neg
  | with_reducible apply g_meth
  | ((with_reducible apply g_kMeth); (focus walk_at "hp"); (focus walk_at "lk"))
  | with_reducible apply g_prop
  | ((with_reducible apply g_kProp); (focus walk_at "hp"))
  | with_reducible apply g_make
  | with_reducible apply g_par
  | with_reducible apply g_kPar
  | ((with_reducible apply g_lenLM); (focus walk_at "hp"))
  | ((with_reducible apply g_lenTM); (focus walk_at "hp"))
  | ((with_reducible apply g_lenL); (focus walk_at "hp"))
  | ((with_reducible apply g_lenT); (focus walk_at "hp"))
  | with_reducible apply g_int1
  | with_reducible apply g_max2
  | with_reducible apply g_min2
  | ((with_reducible apply g_listL); (focus walk_at "hp"); intro _ _ _ _ _)
  | ((with_reducible apply g_listT); (focus walk_at "hp"); intro _ _ _ _ _)
  | ((with_reducible apply g_tupL); (focus walk_at "hp"); intro _ _ _ _ _)
  | ((with_reducible apply g_sum); (focus walk_at "hp"))
  | with_reducible apply g_sfld
  | with_reducible apply g_sl
  | with_reducible apply g_nopart
  | with_reducible apply g_part
  | with_reducible apply g_kPart
  | with_reducible apply g_lstRg
  | with_reducible apply g_rg1
  | with_reducible apply g_kRg1
  | with_reducible apply g_bm
  | with_reducible apply gg_sub
  | ((with_reducible apply gg_tup); (focus walk_at "hp"); (focus rfl))
  | with_reducible apply gg_cons
  | with_reducible apply gg_nil
  | with_reducible apply g_forL
  | with_reducible apply g_forT
  | with_reducible apply g_forR1
  | with_reducible apply g_forR2
  | with_reducible apply g_forE
  | with_reducible apply g_forEL
  | ((with_reducible apply g_maxT); (focus walk_at "hp"); (focus walk_at "nn"))
  | ((with_reducible apply g_maxL); (focus walk_at "hp"); (focus walk_at "nn"))
  | ((with_reducible apply g_catA); (focus walk_at "hp"); (focus walk_at "hp"); (focus walk_at "sz"); intro _ _ _ _)
  | ((with_reducible apply g_slA); (focus walk_at "hp"); intro _ _ _ _)
  | ((with_reducible apply g_tupD); (focus walk_at "hp"); intro _ _ _ _ _)
  | ((with_reducible apply g_setL); (focus walk_at "hp"); (focus walk_at "ix"); intro _ _ _)
  | ((with_reducible apply g_append); (focus walk_at "hp"); (focus walk_at "sl"); intro _ _ _)
  | ((with_reducible apply g_aug); (focus rfl))
  | with_reducible apply g_ipI
  | with_reducible apply g_retN
  | with_reducible apply g_lcR1
  | with_reducible apply g_lcR2
  | with_reducible apply g_lcL
  | with_reducible apply g_lcU
  | with_reducible apply g_lcN
  | ((with_reducible apply g_kLcG); (focus rfl))
  | with_reducible apply g_yes
  | with_reducible apply g_kLcTT
  | with_reducible apply g_kLcTF
  | ((with_reducible apply g_kLcE); (focus walk_at "hp"); (focus walk_at "sl"); intro _ _ _)
  | ((with_reducible apply g_pow); (focus (constructor <;> (try constructor) <;> decide)))
  | ((with_reducible apply g_kLRg); (focus walk_at "rg"); intro _ _ _ _ _)
  | ((with_reducible apply g_cat); (focus walk_at "hp"); (focus walk_at "hp"); (focus walk_at "sz"); intro _ _ _ _ _)
  | ((with_reducible apply g_slL); (focus walk_at "hp"); intro _ _ _ _ _)
  | with_reducible apply g_bmT
  | with_reducible apply g_break
  | with_reducible apply g_cont)
local macro_rules | `(tactic| walk_at "g0") => `(tactic| try dsimp only [L2.cxOf, L2.Cx.nox, L2.Cx.wish])
local macro_rules | `(tactic| walk_at "yn") => `(tactic| first
  | ((with_reducible apply y_kIfS); (focus walk_at "tr"))
  | ((with_reducible apply n_kIfS); (focus walk_at "tr"))
  | ((with_reducible apply y_kOr); (focus walk_at "tr"))
  | ((with_reducible apply n_kOr); (focus walk_at "tr"))
  | ((with_reducible apply y_kAnd); (focus walk_at "tr"))
  | ((with_reducible apply n_kAnd); (focus walk_at "tr"))
  | ((with_reducible apply y_kNot); (focus walk_at "tr"))
  | ((with_reducible apply n_kNot); (focus walk_at "tr"))
  | ((with_reducible apply y_kIf); (focus walk_at "tr"))
  | ((with_reducible apply n_kIf); (focus walk_at "tr"))
  | ((with_reducible apply y_kAndV); (focus walk_at "tr"))
  | ((with_reducible apply n_kAndV); (focus walk_at "tr"))
  | ((with_reducible apply y_kOrV); (focus walk_at "tr"))
  | ((with_reducible apply n_kOrV); (focus walk_at "tr"))
  | ((with_reducible apply y_kChain); (focus walk_at "tr"))
  | ((with_reducible apply n_kChain); (focus walk_at "tr"))
  | ((with_reducible apply y_kLcT); (focus walk_at "tr"))
  | ((with_reducible apply n_kLcT); (focus walk_at "tr"))
  | ((with_reducible apply y_kWh); (focus walk_at "tr"))
  | ((with_reducible apply n_kWh); (focus walk_at "tr")))
local macro_rules | `(tactic| walk_at "go") => `(tactic| repeat (first | walk_at "g1" | walk_at "yn"))
local macro_rules | `(tactic| walk_at "hp") => `(tactic| first
  | ((with_reducible apply RingIn.ex); (focus walk_at "as"); walk_at "hp")
  | ((with_reducible apply RingAt.ex); (focus walk_at "as"); walk_at "hp")
  | ((with_reducible apply RingIn.exb); (focus walk_at "as"); (focus walk_at "hp"); walk_at "hp")
  | ((with_reducible apply RingAt.exb); (focus walk_at "as"); (focus walk_at "hp"); walk_at "hp")
  | ((with_reducible apply TupK.ex); (focus walk_at "as"); walk_at "hp")
  | ((with_reducible apply TupK.exb); (focus walk_at "as"); (focus walk_at "hp"); walk_at "hp"))
local macro_rules | `(tactic| walk_at "lk") => `(tactic| first | with_reducible exact rf_spans | with_reducible exact rf_heaps | with_reducible exact rf_total | with_reducible exact rf_nr | with_reducible exact rf_wd)
local macro_rules | `(tactic| walk_at "sp") => `(tactic| first
  | ((with_reducible apply g_isiTup); (focus walk_at "hp"))
  | ((with_reducible apply g_isiLst); (focus walk_at "hp"))
  | ((with_reducible apply g_isint); (focus omega); (focus omega))
  | ((with_reducible apply g_checkn); (focus omega); (focus omega))
  | ((with_reducible apply g_rbooks); (focus walk_at "hp"))
  | ((with_reducible apply g_rpace); (focus walk_at "hp"); intro _ _ _ _)
  | ((with_reducible apply g_rlen); (focus walk_at "hp"))
  | ((with_reducible apply g_rneed); (focus walk_at "hp"); (focus omega))
  | ((with_reducible apply g_rneedM); (focus walk_at "hp"))
  | ((with_reducible apply g_rwithM); (focus walk_at "hp"))
  | ((with_reducible apply g_rspans); (focus walk_at "hp"); (focus with_reducible assumption))
  | ((with_reducible apply g_rheaps); (focus walk_at "hp"); (focus with_reducible assumption))
  | ((with_reducible apply g_rtotal); (focus walk_at "hp"); (focus with_reducible assumption)))

local macro_rules | `(tactic| walk_at "sp") => `(tactic| first
  | ((with_reducible apply g_taken); (focus walk_at "hp"); (focus first | decide | omega); (focus first | decide | omega); intro _ _ _ _ _ _))
local macro_rules | `(tactic| walk_at "hp") => `(tactic| first
  | ((with_reducible apply DiceAt.ex); (focus walk_at "as"); walk_at "hp")
  | ((with_reducible apply exb_tD); (focus walk_at "as"); (focus walk_at "hp"); walk_at "hp")
  | ((with_reducible apply exb_insD); (focus walk_at "as"); (focus walk_at "hp"); walk_at "hp")
  | ((with_reducible apply RingIn.exD); (focus walk_at "as"); (focus walk_at "hp"); walk_at "hp")
  | ((with_reducible apply TupK.exD); (focus walk_at "as"); (focus walk_at "hp"); walk_at "hp"))

section
variable {P : Program} {w : World} {K : PySem.W.Frag} {mg : Str → Option Value} {base : Heap} {C CC : Addr}
theorem g_isiTL {H : Hp} {Q : VK} {x : V} {tp : Addr} {u : Value} {b : Bool} (h : H tp = some (.tup [.ty "tuple", .ty "list"])) (ty : TyX K H x u) (e : PySem.W.kitAny K u [.type "tuple", .type "list"] = some b) (q : Q (.bl b) H) : rIsiT K [x, .ref tp] H Q :=
  ⟨x, tp, [.ty "tuple", .ty "list"], u, [.type "tuple", .type "list"], b, rfl, h, .cons (.ty _) (.cons (.ty _) .nil), ty, e, q⟩
theorem kitAny_no {u : Value} (k1 : PySem.W.kitOne K u (.type "tuple") = some false) (k2 : PySem.W.kitOne K u (.type "list") = some false) : PySem.W.kitAny K u [.type "tuple", .type "list"] = some false := by
  simp only [PySem.W.kitAny, k1, k2]
theorem kitAny_t : PySem.W.kitAny K (.type "tuple") [.type "tuple", .type "list"] = some true := by
  have k1 : PySem.W.kitOne K (.type "tuple") (.type "tuple") = some true := kit_ty (by decide +kernel)
  simp only [PySem.W.kitAny, k1]
theorem kitAny_l : PySem.W.kitAny K (.type "list") [.type "tuple", .type "list"] = some true := by
  have k1 : PySem.W.kitOne K (.type "list") (.type "tuple") = some false := kit_ty (by decide +kernel)
  have k2 : PySem.W.kitOne K (.type "list") (.type "list") = some true := kit_ty (by decide +kernel)
  simp only [PySem.W.kitAny, k1, k2]
def sp_leafA : Sp := fun vs H Q _ => ∃ v, vs = [v, v] ∧ LeafV v ∧ ∀ H', Ex H H' → Q (.bl true) H'
def sp_alike (K : PySem.W.Frag) (d : Nat) : Sp := fun vs H Q _ => ∃ x y, vs = [x, y] ∧ Lk K H d x y ∧ ∀ H', Ex H H' → Q (.bl true) H'
theorem leafA_body {f : Addr} {k : Nat} (Z : Blt mg) : Body P w K mg base "_law_alike" N__law_alike s__law_alike f k sp_leafA := by
  intro cdv A outer s H vs Q E hr h
  obtain ⟨v, rfl, hv, q⟩ := h
  refine ⟨_, PSs.nox (pss_cons (ps_if (PW.pt (pw_and (pt_val (pe_callB call_isiT (by rfl) Z.zisinstance (by decide +kernel) (pa_cons (pv 0) (pa_cons (pe_tup (pa_cons (pe_bltn rfl Z.ztuple (v := .ty "tuple") (by decide +kernel) rfl) (pa_cons (pe_bltn rfl Z.zlist (v := .ty "list") (by decide +kernel) rfl) pa_nil))) pa_nil)))) (pw_and1 (pt_val (pe_callB call_isiT (by rfl) Z.zisinstance (by decide +kernel) (pa_cons (pv 1) (pa_cons (pe_tup (pa_cons (pe_bltn rfl Z.ztuple (v := .ty "tuple") (by decide +kernel) rfl) (pa_cons (pe_bltn rfl Z.zlist (v := .ty "list") (by decide +kernel) rfl) pa_nil))) pa_nil))))))) (pss_cons ps_never
          (pss_one ps_never)) pss_nil)
      (pss_one (ps_ret (pe_and (pe_cmpR op_eq (pv 0) (pv 1) (nomark _)) (pe_one (pe_cmpR op_eq (pe_callB call_isi (by rfl) Z.zisinstance (by decide +kernel) (pa_cons (pv 0) (pa_cons (pe_bltn rfl Z.zbool (v := .ty "bool") (by decide +kernel) rfl) pa_nil))) (pe_callB call_isi (by rfl) Z.zisinstance (by decide +kernel) (pa_cons (pv 1) (pa_cons (pe_bltn rfl Z.zbool (v := .ty "bool") (by decide +kernel) rfl) pa_nil))) (nomark _))))))), ?_⟩
  walk_at "g0"
  walk_at "go"
  rename_i p H2 np e2 hp
  obtain ⟨u, rb, ri, rs, ty, k1, k2, k3, k4, k5⟩ := hv.ty (K := K) (H := H2)
  refine g_isiTL hp ty (kitAny_no k1 k2) ?_
  walk_at "go"
  refine g_eqS hv.scal ?_
  rw [decide_eq_true rfl]
  walk_at "go"
  refine g_isi (.ty _) ty k3 ?_
  walk_at "go"
  refine g_isi (.ty _) ty k3 ?_
  refine g_eqS rfl ?_
  rw [decide_eq_true rfl]
  exact q _ e2
theorem g_emptyEq {H : Hp} {a b : Addr} {Q : VK} (h1 : SqL K H a []) (h2 : SqL K H b []) (q : Q (.bl true) H) : rEqD K (.ref a) (.ref b) H Q := g_eqLI (xs := []) (ys := []) h1 h2 (by rw [decide_eq_true rfl]; exact q)
theorem alike_step {k d : Nat} (Z : Blt mg) (G : GFun K mg "_law_alike" s__law_alike) (D__law_alike : Df P w K mg base k "_law_alike" ["_law_one", "_law_due"] (sp_alike K d)) : Df P w K mg base (k + 2) "_law_alike" ["_law_one", "_law_due"] (sp_alike K (d + 1)) := by
  refine Df.of G sc__law_alike b__law_alike (fun vs H Q E h => ?_) (fun f cdv A outer s H vs Q E hr h => ?_)
  · obtain ⟨x, y, rfl, _⟩ := h
    rfl
  obtain ⟨x, y, rfl, h, q⟩ := h
  cases h with
  | leaf hv => exact leafA_body Z cdv A outer s H _ Q E hr ⟨_, rfl, hv, q⟩
  | @tup _ a b xs ys ha hb hl hz hq =>
    refine ⟨_, PSs.nox (pss_cons (ps_if (PW.pt (pw_and (pt_val (pe_callB call_isiT (by rfl) Z.zisinstance (by decide +kernel) (pa_cons (pv 0) (pa_cons (pe_tup (pa_cons (pe_bltn rfl Z.ztuple (v := .ty "tuple") (by decide +kernel) rfl) (pa_cons (pe_bltn rfl Z.zlist (v := .ty "list") (by decide +kernel) rfl) pa_nil))) pa_nil)))) (pw_and1 (pt_val (pe_callB call_isiT (by rfl) Z.zisinstance (by decide +kernel) (pa_cons (pv 1) (pa_cons (pe_tup (pa_cons (pe_bltn rfl Z.ztuple (v := .ty "tuple") (by decide +kernel) rfl) (pa_cons (pe_bltn rfl Z.zlist (v := .ty "list") (by decide +kernel) rfl) pa_nil))) pa_nil))))))) (pss_cons (ps_if (PW.pt (pw_or (pt_cmpR op_ne (pe_callB call_isi (by rfl) Z.zisinstance (by decide +kernel) (pa_cons (pv 0) (pa_cons (pe_bltn rfl Z.ztuple (v := .ty "tuple") (by decide +kernel) rfl) pa_nil))) (pe_callB call_isi (by rfl) Z.zisinstance (by decide +kernel) (pa_cons (pv 1) (pa_cons (pe_bltn rfl Z.ztuple (v := .ty "tuple") (by decide +kernel) rfl) pa_nil))) (nomark _)) (pw_or1 (pt_cmpR op_ne (pe_callB c_len (by rfl) Z.zlen PySem.boot_len (pa_cons (pv 0) pa_nil)) (pe_callB c_len (by rfl) Z.zlen PySem.boot_len (pa_cons (pv 1) pa_nil)) (nomark _))))) (pss_one (ps_ret pe_bl)) pss_nil)
          (pss_one (ps_ret (pe_cmpR (op_eqD hr.units) (pe_lc (own := [("_law_k", 2)]) rfl sc__law_alike.nd (pi_range1 (by rfl) Z.zrange (pa_cons (pe_callB c_len (by rfl) Z.zlen PySem.boot_len (pa_cons (pv 0) pa_nil)) pa_nil)) (blkOk_by (N := N__law_alike) (sc := defScope s__law_alike) (by decide +kernel)) (fun _ _ _ _ _ => (pg_name (i := 2) sc__law_alike.nd rfl (by first | exact Or.inl rfl | exact Or.inr rfl))) (fun _ _ _ _ _ => (pts_one (pt_not (pt_val (pg D__law_alike hr (pa_cons (pe_ix (ix_tupK K) (pv 0) (pv 2) (fun _ _ => rfl)) (pa_cons (pe_ix (ix_tupK K) (pv 1) (pv 2) (fun _ _ => rfl)) pa_nil)) (hk := Nat.le_succ _)))))) (fun _ _ _ _ _ => (pv 2))) (pe_lst pa_nil) (nomark _))))) pss_nil)
      (pss_one ps_never)), ?_⟩
    walk_at "g0"
    walk_at "go"
    rename_i p1 H1 n1 e1 h1
    refine g_isiTL h1 (sqT_ty (ex_t e1 ha)) kitAny_t ?_
    walk_at "go"
    rename_i p2 H2 n2 e2 h2
    refine g_isiTL h2 (sqT_ty (ex_t e2 (ex_t e1 hb))) kitAny_t ?_
    have e02 := e1.trans e2
    have ha2 := ex_t e02 ha
    have hb2 := ex_t e02 hb
    walk_at "go"
    refine g_neS rfl ?_
    rw [decide_eq_true (rfl : V.bl true = V.bl true)]
    walk_at "go"
    refine g_kLcR1 ⟨by omega, by omega⟩ (fun A i H' => Ex H H' ∧ H' A = some (.lst [])) (fun A H3 nA e3 hA => ⟨e02.trans e3, hA⟩) ?_ ?_
    · rintro A i H3 nA hi ⟨e3, hA⟩
      have hx : xs[i]? = some xs[i] := List.getElem?_eq_getElem (by omega)
      have hy : ys[i]? = some ys[i] := List.getElem?_eq_getElem (by omega)
      have ha3 := ex_t e3 ha
      have hb3 := ex_t e3 hb
      walk_at "go"
      refine ⟨_, _, rfl, (hq i _ _ hx hy).ex e3, fun H4 e4 => ?_⟩
      walk_at "go"
      exact ⟨e3.trans e4, e4 _ _ hA⟩
    · rintro A H3 nA ⟨e3, hA⟩
      walk_at "go"
      rename_i l2 H4 n4 e4 h4
      exact g_emptyEq (SqL.of (e4 _ _ hA)) (SqL.of h4) (q _ (e3.trans e4))
  | @lst _ a b xs ys ha hb hl hz hq =>
    refine ⟨_, PSs.nox (pss_cons (ps_if (PW.pt (pw_and (pt_val (pe_callB call_isiT (by rfl) Z.zisinstance (by decide +kernel) (pa_cons (pv 0) (pa_cons (pe_tup (pa_cons (pe_bltn rfl Z.ztuple (v := .ty "tuple") (by decide +kernel) rfl) (pa_cons (pe_bltn rfl Z.zlist (v := .ty "list") (by decide +kernel) rfl) pa_nil))) pa_nil)))) (pw_and1 (pt_val (pe_callB call_isiT (by rfl) Z.zisinstance (by decide +kernel) (pa_cons (pv 1) (pa_cons (pe_tup (pa_cons (pe_bltn rfl Z.ztuple (v := .ty "tuple") (by decide +kernel) rfl) (pa_cons (pe_bltn rfl Z.zlist (v := .ty "list") (by decide +kernel) rfl) pa_nil))) pa_nil))))))) (pss_cons (ps_if (PW.pt (pw_or (pt_cmpR op_ne (pe_callB call_isi (by rfl) Z.zisinstance (by decide +kernel) (pa_cons (pv 0) (pa_cons (pe_bltn rfl Z.ztuple (v := .ty "tuple") (by decide +kernel) rfl) pa_nil))) (pe_callB call_isi (by rfl) Z.zisinstance (by decide +kernel) (pa_cons (pv 1) (pa_cons (pe_bltn rfl Z.ztuple (v := .ty "tuple") (by decide +kernel) rfl) pa_nil))) (nomark _)) (pw_or1 (pt_cmpR op_ne (pe_callB c_len (by rfl) Z.zlen PySem.boot_len (pa_cons (pv 0) pa_nil)) (pe_callB c_len (by rfl) Z.zlen PySem.boot_len (pa_cons (pv 1) pa_nil)) (nomark _))))) (pss_one (ps_ret pe_bl)) pss_nil)
          (pss_one (ps_ret (pe_cmpR (op_eqD hr.units) (pe_lc (own := [("_law_k", 2)]) rfl sc__law_alike.nd (pi_range1 (by rfl) Z.zrange (pa_cons (pe_callB c_len (by rfl) Z.zlen PySem.boot_len (pa_cons (pv 0) pa_nil)) pa_nil)) (blkOk_by (N := N__law_alike) (sc := defScope s__law_alike) (by decide +kernel)) (fun _ _ _ _ _ => (pg_name (i := 2) sc__law_alike.nd rfl (by first | exact Or.inl rfl | exact Or.inr rfl))) (fun _ _ _ _ _ => (pts_one (pt_not (pt_val (pg D__law_alike hr (pa_cons (pe_ix (ix_listK K) (pv 0) (pv 2) (fun _ _ => rfl)) (pa_cons (pe_ix (ix_listK K) (pv 1) (pv 2) (fun _ _ => rfl)) pa_nil)) (hk := Nat.le_succ _)))))) (fun _ _ _ _ _ => (pv 2))) (pe_lst pa_nil) (nomark _))))) pss_nil)
      (pss_one ps_never)), ?_⟩
    walk_at "g0"
    walk_at "go"
    rename_i p1 H1 n1 e1 h1
    refine g_isiTL h1 (sqL_ty (ex_l e1 ha)) kitAny_l ?_
    walk_at "go"
    rename_i p2 H2 n2 e2 h2
    refine g_isiTL h2 (sqL_ty (ex_l e2 (ex_l e1 hb))) kitAny_l ?_
    have e02 := e1.trans e2
    have ha2 := ex_l e02 ha
    have hb2 := ex_l e02 hb
    walk_at "go"
    refine g_isiLi ha2 (r := false) (by decide +kernel) ?_
    walk_at "go"
    refine g_isiLi hb2 (r := false) (by decide +kernel) ?_
    refine g_neS rfl ?_
    rw [decide_eq_true (rfl : V.bl false = V.bl false)]
    walk_at "go"
    refine g_kLcR1 ⟨by omega, by omega⟩ (fun A i H' => Ex H H' ∧ H' A = some (.lst [])) (fun A H3 nA e3 hA => ⟨e02.trans e3, hA⟩) ?_ ?_
    · rintro A i H3 nA hi ⟨e3, hA⟩
      have hx : xs[i]? = some xs[i] := List.getElem?_eq_getElem (by omega)
      have hy : ys[i]? = some ys[i] := List.getElem?_eq_getElem (by omega)
      have ha3 := ex_l e3 ha
      have hb3 := ex_l e3 hb
      walk_at "go"
      refine ⟨_, _, rfl, (hq i _ _ hx hy).ex e3, fun H4 e4 => ?_⟩
      walk_at "go"
      exact ⟨e3.trans e4, e4 _ _ hA⟩
    · rintro A H3 nA ⟨e3, hA⟩
      walk_at "go"
      rename_i l2 H4 n4 e4 h4
      exact g_emptyEq (SqL.of (e4 _ _ hA)) (SqL.of h4) (q _ (e3.trans e4))
theorem ok_alike (Z : Blt mg) (G : GFun K mg "_law_alike" s__law_alike) : Df P w K mg base 9 "_law_alike" ["_law_one", "_law_due"] (sp_alike K 4) := by
  have D0 : Df P w K mg base 1 "_law_alike" ["_law_one", "_law_due"] (sp_alike K 0) := by
    refine Df.of G sc__law_alike b__law_alike (fun vs H Q E h => ?_) (fun f cdv A outer s H vs Q E hr h => ?_)
    · obtain ⟨x, y, rfl, _⟩ := h
      rfl
    · obtain ⟨x, y, rfl, h, q⟩ := h
      cases h with
      | leaf hv => exact leafA_body Z cdv A outer s H _ Q E hr ⟨_, rfl, hv, q⟩
  exact alike_step Z G (alike_step Z G (alike_step Z G (alike_step Z G D0)))
end
end G48

namespace G48
open PySem PySem.Spec PyProof.Rows L2 Evl
abbrev N__law_raised : List Str := ["_law_work", "e", "_law_kinds", "_law_at"]
theorem sc__law_raised : FnScope N__law_raised ["_law_work"] (defScope s__law_raised) := ⟨rfl, rfl, rfl, by decide +kernel, rfl, by decide +kernel, by decide +kernel⟩
theorem b__law_raised : BindL "_law_raised" "_law_raised" s__law_raised ["_law_work"] := fun _ _ _ _ _ _ us hl => match us, hl with | [_], _ => rfl
end G48
--lib Q
/-! `_law_raised`: the word of the error that a lambda raises, or None -/
namespace G48
open PySem PySem.Spec PyProof.Rows L2 Evl
/-! the steps -/
local macro_rules | `(tactic| walk_at "as") => `(tactic| with_reducible assumption)
local macro_rules | `(tactic| walk_at "hp") => `(tactic| first
  | with_reducible assumption
  | ((with_reducible apply SqT.of); walk_at "as")
  | ((with_reducible apply SqL.of); walk_at "as")
  | ((with_reducible apply ex_at); (focus walk_at "as"); walk_at "hp")
  | ((with_reducible apply ex_t); (focus walk_at "as"); walk_at "hp")
  | ((with_reducible apply ex_l); (focus walk_at "as"); walk_at "hp")
  | ((with_reducible apply exb_ins); (focus walk_at "as"); (focus walk_at "hp"); walk_at "hp")
  | ((with_reducible apply exb_t); (focus walk_at "as"); (focus walk_at "hp"); walk_at "hp")
  | ((with_reducible apply exb_at); (focus walk_at "as"); (focus walk_at "ne"); walk_at "hp")
  | ((with_reducible apply exb_l); (focus walk_at "as"); (focus walk_at "ne"); walk_at "hp"))
local macro_rules | `(tactic| walk_at "ne") => `(tactic| first
  | with_reducible assumption
  | exact Ne.symm (by with_reducible assumption)
  | exact ne_of_none (by with_reducible assumption) (by with_reducible assumption)
  | exact Ne.symm (ne_of_none (by with_reducible assumption) (by with_reducible assumption)))
local macro_rules | `(tactic| walk_at "tr") => `(tactic| first
  | rfl
  | with_reducible assumption
  | exact decide_eq_true (by first | with_reducible assumption | omega)
  | exact decide_eq_false (by first | with_reducible assumption | omega)
  | (rw [Bool.not_eq_true']; exact decide_eq_false (by first | with_reducible assumption | omega))
  | (rw [Bool.not_eq_false']; exact decide_eq_true (by first | with_reducible assumption | omega)))
local macro_rules | `(tactic| walk_at "nn") => `(tactic| first | with_reducible assumption | (exact List.cons_ne_nil _ _))
local macro_rules | `(tactic| walk_at "sz") => `(tactic| first | (exact sz1000 (Nat.le_of_ble_eq_true rfl)) | (refine sz1000 ?_; simp only [List.length_map, List.length_cons, List.length_nil, List.length_append]; omega) | with_reducible assumption)
local macro_rules | `(tactic| walk_at "sl") => `(tactic| first | with_reducible assumption | (refine lt1000 ?_; simp only [List.length_map, List.length_cons, List.length_nil, List.length_append]; omega) | (refine lt1000 ?_; omega))
local macro_rules | `(tactic| walk_at "ix") => `(tactic| first | rfl | with_reducible assumption)
local macro_rules | `(tactic| walk_at "rg") => `(tactic| exact RgOk.of_le (by omega) (by omega) (by omega) (by omega))
local macro_rules | `(tactic| walk_at "sp") => `(tactic| fail "sp")
local macro_rules | `(tactic| walk_at "cl") => `(tactic| with_reducible assumption)
local macro_rules | `(tactic| walk_at "lk") => `(tactic| with_reducible assumption)
local macro_rules | `(tactic| walk_at "it") => `(tactic| first | rfl | with_reducible assumption | exact atI_nat (by with_reducible assumption))
local macro_rules | `(tactic| walk_at "g1") => `(tactic| first
  | (with_reducible apply g_var); (focus rfl)
  | with_reducible apply g_c
  | with_reducible apply g_seq
  | with_reducible apply g_asg
  | with_reducible apply gg_name
  | with_reducible apply g_op
  | with_reducible apply g_cons
  | with_reducible apply g_nil
  | with_reducible apply g_cb
  | with_reducible apply g_fld
  | ((with_reducible apply g_kFld); (focus walk_at "hp"); (focus walk_at "cl"); (focus walk_at "cl"); (focus walk_at "lk"))
  | with_reducible apply g_call
  | walk_at "sp"
  | with_reducible apply g_ret
  | with_reducible apply g_drop
  | with_reducible apply g_test
  | with_reducible apply g_B
  | with_reducible apply g_kTest
  | with_reducible apply g_ifS
  | with_reducible apply g_kIfST
  | with_reducible apply g_kIfSF
  | with_reducible apply g_add
  | with_reducible apply g_sub
  | with_reducible apply g_lt
  | with_reducible apply g_le
  | with_reducible apply g_gt
  | with_reducible apply g_ge
  | with_reducible apply g_eqI
  | with_reducible apply g_neI
  | ((with_reducible apply g_mod); (focus first | decide | omega))
  | ((with_reducible apply g_mul); (focus first | (left; constructor <;> omega) | (right; constructor <;> omega)))
  | ((with_reducible apply g_fdiv); (focus (constructor <;> omega)))
  | ((with_reducible apply g_ixT); (focus walk_at "hp"); (focus walk_at "it"))
  | ((with_reducible apply g_ixL); (focus walk_at "hp"); (focus walk_at "it"))
  | with_reducible apply g_and
  | with_reducible apply g_or
  | with_reducible apply g_not
  | with_reducible apply g_kNotT
  | with_reducible apply g_kNotF
  | with_reducible apply g_if
  | with_reducible apply g_kAndT
  | with_reducible apply g_kAndF
  | with_reducible apply g_kOrT
  | with_reducible apply g_kOrF
  | with_reducible apply g_kIfT
  | with_reducible apply g_kIfF
  | with_reducible apply g_next
  | with_reducible apply g_andV
  | with_reducible apply g_orV
  | with_reducible apply g_notV
  | with_reducible apply g_kNotV
  | with_reducible apply g_kAndVT
  | with_reducible apply g_kAndVF
  | with_reducible apply g_chain
  | with_reducible apply g_kChainT
  | with_reducible apply g_kChainF
  | with_reducible apply g_tup
  | with_reducible apply g_lst
  | ((with_reducible apply g_kT); (focus walk_at "sz"); intro _ _ _ _ _)
  | ((with_reducible apply g_kL); (focus walk_at "sz"); intro _ _ _ _ _)
  | with_reducible apply g_un
  | with_reducible apply g_neg
  | with_reducible apply g_meth
  | ((with_reducible apply g_kMeth); (focus walk_at "hp"); (focus walk_at "lk"))
  | with_reducible apply g_prop
  | ((with_reducible apply g_kProp); (focus walk_at "hp"))
  | with_reducible apply g_make
  | with_reducible apply g_par
  | with_reducible apply g_kPar
  | ((with_reducible apply g_lenLM); (focus walk_at "hp"))
  | ((with_reducible apply g_lenTM); (focus walk_at "hp"))
  | ((with_reducible apply g_lenL); (focus walk_at "hp"))
  | ((with_reducible apply g_lenT); (focus walk_at "hp"))
  | with_reducible apply g_int1
  | with_reducible apply g_max2
  | with_reducible apply g_min2
  | ((with_reducible apply g_listL); (focus walk_at "hp"); intro _ _ _ _ _)
  | ((with_reducible apply g_listT); (focus walk_at "hp"); intro _ _ _ _ _)
  | ((with_reducible apply g_tupL); (focus walk_at "hp"); intro _ _ _ _ _)
  | ((with_reducible apply g_sum); (focus walk_at "hp"))
  | with_reducible apply g_sfld
  | with_reducible apply g_sl
  | with_reducible apply g_nopart
  | with_reducible apply g_part
  | with_reducible apply g_kPart
  | with_reducible apply g_lstRg
  | with_reducible apply g_rg1
  | with_reducible apply g_kRg1
  | with_reducible apply g_bm
  | with_reducible apply gg_sub
  | ((with_reducible apply gg_tup); (focus walk_at "hp"); (focus rfl))
  | with_reducible apply gg_cons
  | with_reducible apply gg_nil
  | with_reducible apply g_forL
  | with_reducible apply g_forT
  | with_reducible apply g_forR1
  | with_reducible apply g_forR2
  | with_reducible apply g_forE
  | with_reducible apply g_forEL
  | ((with_reducible apply g_maxT); (focus walk_at "hp"); (focus walk_at "nn"))
  | ((with_reducible apply g_maxL); (focus walk_at "hp"); (focus walk_at "nn"))
  | ((with_reducible apply g_catA); (focus walk_at "hp"); (focus walk_at "hp"); (focus walk_at "sz"); intro _ _ _ _)
  | ((with_reducible apply g_slA); (focus walk_at "hp"); intro _ _ _ _)
  | ((with_reducible apply g_tupD); (focus walk_at "hp"); intro _ _ _ _ _)
  | ((with_reducible apply g_setL); (focus walk_at "hp"); (focus walk_at "ix"); intro _ _ _)
  | ((with_reducible apply g_append); (focus walk_at "hp"); (focus walk_at "sl"); intro _ _ _)
  | ((with_reducible apply g_aug); (focus rfl))
  | with_reducible apply g_ipI
  | with_reducible apply g_retN
  | with_reducible apply g_lcR1
  | with_reducible apply g_lcR2
  | with_reducible apply g_lcL
  | with_reducible apply g_lcU
  | with_reducible apply g_lcN
  | ((with_reducible apply g_kLcG); (focus rfl))
  | with_reducible apply g_yes
  | with_reducible apply g_kLcTT
  | with_reducible apply g_kLcTF
  | ((with_reducible apply g_kLcE); (focus walk_at "hp"); (focus walk_at "sl"); intro _ _ _)
  | ((with_reducible apply g_pow); (focus (constructor <;> (try constructor) <;> decide)))
  | ((with_reducible apply g_kLRg); (focus walk_at "rg"); intro _ _ _ _ _)
  | ((with_reducible apply g_cat); (focus walk_at "hp"); (focus walk_at "hp"); (focus walk_at "sz"); intro _ _ _ _ _)
  | ((with_reducible apply g_slL); (focus walk_at "hp"); intro _ _ _ _ _)
  | with_reducible apply g_bmT
  | with_reducible apply g_break
  | with_reducible apply g_cont)
local macro_rules | `(tactic| walk_at "g0") => `(tactic| try dsimp only [L2.cxOf, L2.Cx.nox, L2.Cx.wish])
local macro_rules | `(tactic| walk_at "yn") => `(tactic| first
  | ((with_reducible apply y_kIfS); (focus walk_at "tr"))
  | ((with_reducible apply n_kIfS); (focus walk_at "tr"))
  | ((with_reducible apply y_kOr); (focus walk_at "tr"))
  | ((with_reducible apply n_kOr); (focus walk_at "tr"))
  | ((with_reducible apply y_kAnd); (focus walk_at "tr"))
  | ((with_reducible apply n_kAnd); (focus walk_at "tr"))
  | ((with_reducible apply y_kNot); (focus walk_at "tr"))
  | ((with_reducible apply n_kNot); (focus walk_at "tr"))
  | ((with_reducible apply y_kIf); (focus walk_at "tr"))
  | ((with_reducible apply n_kIf); (focus walk_at "tr"))
  | ((with_reducible apply y_kAndV); (focus walk_at "tr"))
  | ((with_reducible apply n_kAndV); (focus walk_at "tr"))
  | ((with_reducible apply y_kOrV); (focus walk_at "tr"))
  | ((with_reducible apply n_kOrV); (focus walk_at "tr"))
  | ((with_reducible apply y_kChain); (focus walk_at "tr"))
  | ((with_reducible apply n_kChain); (focus walk_at "tr"))
  | ((with_reducible apply y_kLcT); (focus walk_at "tr"))
  | ((with_reducible apply n_kLcT); (focus walk_at "tr"))
  | ((with_reducible apply y_kWh); (focus walk_at "tr"))
  | ((with_reducible apply n_kWh); (focus walk_at "tr")))
local macro_rules | `(tactic| walk_at "go") => `(tactic| repeat (first | walk_at "g1" | walk_at "yn"))
local macro_rules | `(tactic| walk_at "hp") => `(tactic| first
  | ((with_reducible apply RingIn.ex); (focus walk_at "as"); walk_at "hp")
  | ((with_reducible apply RingAt.ex); (focus walk_at "as"); walk_at "hp")
  | ((with_reducible apply RingIn.exb); (focus walk_at "as"); (focus walk_at "hp"); walk_at "hp")
  | ((with_reducible apply RingAt.exb); (focus walk_at "as"); (focus walk_at "hp"); walk_at "hp")
  | ((with_reducible apply TupK.ex); (focus walk_at "as"); walk_at "hp")
  | ((with_reducible apply TupK.exb); (focus walk_at "as"); (focus walk_at "hp"); walk_at "hp"))
local macro_rules | `(tactic| walk_at "lk") => `(tactic| first | with_reducible exact rf_spans | with_reducible exact rf_heaps | with_reducible exact rf_total | with_reducible exact rf_nr | with_reducible exact rf_wd)
local macro_rules | `(tactic| walk_at "sp") => `(tactic| first
  | ((with_reducible apply g_isiTup); (focus walk_at "hp"))
  | ((with_reducible apply g_isiLst); (focus walk_at "hp"))
  | ((with_reducible apply g_isint); (focus omega); (focus omega))
  | ((with_reducible apply g_checkn); (focus omega); (focus omega))
  | ((with_reducible apply g_rbooks); (focus walk_at "hp"))
  | ((with_reducible apply g_rpace); (focus walk_at "hp"); intro _ _ _ _)
  | ((with_reducible apply g_rlen); (focus walk_at "hp"))
  | ((with_reducible apply g_rneed); (focus walk_at "hp"); (focus omega))
  | ((with_reducible apply g_rneedM); (focus walk_at "hp"))
  | ((with_reducible apply g_rwithM); (focus walk_at "hp"))
  | ((with_reducible apply g_rspans); (focus walk_at "hp"); (focus with_reducible assumption))
  | ((with_reducible apply g_rheaps); (focus walk_at "hp"); (focus with_reducible assumption))
  | ((with_reducible apply g_rtotal); (focus walk_at "hp"); (focus with_reducible assumption)))

/-- told: nothing, or the word of an error without fields -/
def RaiseQ (K : PySem.W.Frag) (Q : VK) : XK := fun cls d H' =>
  ∃ D j, cls = .ref D ∧ d = none ∧ ExcQ K D j ∧ 6 ≤ j ∧ j ≤ 10 ∧ ∀ p H'', H' p = none → Ex H' H'' → H'' p = some (.tup [.str (eqWord j)]) → Q (.ref p) H''
def TRaiseQ (K : PySem.W.Frag) (tl : XK → Hp → VK → Prop) (H : Hp) (Q : VK) : Prop := tl (RaiseQ K Q) H fun _ H' => Q .non H'
section
variable {P : Program} {w : World} {K : PySem.W.Frag} {mg : Str → Option Value} {base : Heap}
theorem DicA.ex {H H' : Hp} {d : Option Addr} (e : Ex H H') (h : DicA H d) : DicA H' d := h.imp id fun ⟨dd, fs, a, b⟩ => ⟨dd, fs, a, e _ _ b⟩
theorem g_isX {H : Hp} {Q : VK} {D a C : Addr} {d : Option Addr} {b : Bool} (hd : DicA H d) (h : PySem.W.kitOne K (.ref D) (.ref C) = some b) (q : Q (.bl b) H) : rIsX K D d a [.ref a, .ref C] H Q := ⟨hd, .ref C, .ref C, b, rfl, fun u r => r, h, q⟩
theorem g_isXt {H : Hp} {Q : VK} {D a : Addr} {d : Option Addr} {T : String} {b : Bool} (hd : DicA H d) (h : PySem.W.kitOne K (.ref D) (.type T) = some b) (q : Q (.bl b) H) : rIsX K D d a [.ref a, .ty T] H Q := ⟨hd, .ty T, .type T, b, rfl, fun u r => r, h, q⟩
def flagsQ (j : Nat) : List V := (List.range 11).map fun i => .bl (decide (i = j))
theorem g_cntFlagQ {H : Hp} {Q : VK} {a : Addr} {j : Nat} (h : SqL K H a (flagsQ j)) (hj : j < 11) (q : Q (.int 1) H) : rCntF K (.ref a) [.bl true] H Q := by
  have e : (flagsQ j).countP (fun z => eqV z (.bl true)) = 1 ∧ (flagsQ j).all flatV = true := by
    have : j = 0 ∨ j = 1 ∨ j = 2 ∨ j = 3 ∨ j = 4 ∨ j = 5 ∨ j = 6 ∨ j = 7 ∨ j = 8 ∨ j = 9 ∨ j = 10 := by omega
    rcases this with rfl | rfl | rfl | rfl | rfl | rfl | rfl | rfl | rfl | rfl | rfl <;> exact ⟨rfl, rfl⟩
  refine ⟨a, flagsQ j, .bl true, rfl, rfl, h, rfl, e.2, ?_⟩
  rw [e.1]
  exact q
theorem g_idxFlagQ {H : Hp} {Q : VK} {a : Addr} {j : Nat} (h : SqL K H a (flagsQ j)) (hj : j < 11) (q : Q (.int (j : Nat)) H) : rIndex K (.ref a) [.bl true] H Q := by
  have e : (flagsQ j).all flatV = true := by
    have : j = 0 ∨ j = 1 ∨ j = 2 ∨ j = 3 ∨ j = 4 ∨ j = 5 ∨ j = 6 ∨ j = 7 ∨ j = 8 ∨ j = 9 ∨ j = 10 := by omega
    rcases this with rfl | rfl | rfl | rfl | rfl | rfl | rfl | rfl | rfl | rfl | rfl <;> rfl
  refine ⟨a, flagsQ j, .bl true, j, .bl true, rfl, rfl, h, rfl, e, ?_, rfl, fun m z hm hz => ?_, q⟩
  · unfold flagsQ
    rw [List.getElem?_map, List.getElem?_range hj]
    simp
  · unfold flagsQ at hz
    rw [List.getElem?_map, List.getElem?_range (by omega)] at hz
    have hz : V.bl (decide (m = j)) = z := by simpa using hz
    rw [← hz, decide_eq_false (by omega : ¬ m = j)]
    rfl
theorem ok_raisedQ (Z : Blt mg) (g_ReadingError : mg "ReadingError" = some (.ref (He.ga K "ReadingError"))) (g_InvalidOperation : mg "InvalidOperation" = some (.ref (He.ga K "InvalidOperation"))) (g_InvalidRing : mg "InvalidRing" = some (.ref (He.ga K "InvalidRing"))) (g_DecodeError : mg "DecodeError" = some (.ref (He.ga K "DecodeError"))) (g_NotationError : mg "NotationError" = some (.ref (He.ga K "NotationError"))) (g_BeingRead : mg "BeingRead" = some (.ref (He.ga K "BeingRead"))) (g_DiaryError : mg "DiaryError" = some (.ref (He.ga K "DiaryError"))) (g_InvalidNumber : mg "InvalidNumber" = some (.ref (He.ga K "InvalidNumber"))) (g_UnknownReader : mg "UnknownReader" = some (.ref (He.ga K "UnknownReader"))) (g_UnknownBook : mg "UnknownBook" = some (.ref (He.ga K "UnknownBook"))) (g_Contradiction : mg "Contradiction" = some (.ref (He.ga K "Contradiction"))) (g_InvalidCount : mg "InvalidCount" = some (.ref (He.ga K "InvalidCount"))) : GivesL P w K mg base N__law_raised "_law_raised" s__law_raised "_law_work" 9 (TRaiseQ K) := by
  intro g cdg A outer s H f Q LF tl hr act hLF h
  refine ⟨_, pss_cons (ps_try_as (i := 1) rfl rfl sc__law_raised.nd rfl rfl ⟨rfl, by decide, .inl g_ReadingError⟩ takes0
      (tb := fun W D σ H => ∃ Ech : L2.St → XK, (∀ σ' cls d H', Ech σ' cls d H' → W cls d σ' H') ∧ σ[0]? = some (some (.ref f)) ∧ LF H ∧ tl (Ech σ) H fun _ H' => D.nx σ H')
      (fun W pn xe tk _ => ⟨fun pins s' σ H' D I h' => by
        obtain ⟨Ech, hW, h1, h2, h3⟩ := h'
        exact (pss_one (ps_expr (act W pn xe Ech _ _ tk hW))).run pins s' σ H' D I ⟨h1, h2, h3⟩⟩)
      (fun a oe cls d pn hz hf => pss_err hz fun Dc hz hC => (pss_cons (ps_set (i := 2) sc__law_raised.nd rfl (by first | exact Or.inl rfl | exact Or.inr rfl) (pe_lst (pa_cons (pe_callB (call_isX hC hz hf) (by rfl) Z.zisinstance (by decide +kernel) (pa_cons (pv 1) (pa_cons (pcls g_InvalidOperation) pa_nil))) (pa_cons (pe_callB (call_isX hC hz hf) (by rfl) Z.zisinstance (by decide +kernel) (pa_cons (pv 1) (pa_cons (pcls g_InvalidRing) pa_nil))) (pa_cons (pe_callB (call_isX hC hz hf) (by rfl) Z.zisinstance (by decide +kernel) (pa_cons (pv 1) (pa_cons (pcls g_DecodeError) pa_nil))) pa_nil)))))
      (pss_cons (ps_set (i := 2) sc__law_raised.nd rfl (by first | exact Or.inl rfl | exact Or.inr rfl) (pe_op op_cat (pv 2) (pe_lst (pa_cons (pe_callB (call_isX hC hz hf) (by rfl) Z.zisinstance (by decide +kernel) (pa_cons (pv 1) (pa_cons (pcls g_NotationError) pa_nil))) (pa_cons (pe_callB (call_isX hC hz hf) (by rfl) Z.zisinstance (by decide +kernel) (pa_cons (pv 1) (pa_cons (pcls g_BeingRead) pa_nil))) (pa_cons (pe_callB (call_isX hC hz hf) (by rfl) Z.zisinstance (by decide +kernel) (pa_cons (pv 1) (pa_cons (pcls g_DiaryError) pa_nil))) pa_nil))))))
      (pss_cons (ps_set (i := 2) sc__law_raised.nd rfl (by first | exact Or.inl rfl | exact Or.inr rfl) (pe_op op_cat (pv 2) (pe_lst (pa_cons (pe_callB (call_isX hC hz hf) (by rfl) Z.zisinstance (by decide +kernel) (pa_cons (pv 1) (pa_cons (pcls g_InvalidNumber) pa_nil))) (pa_cons (pe_callB (call_isX hC hz hf) (by rfl) Z.zisinstance (by decide +kernel) (pa_cons (pv 1) (pa_cons (pcls g_UnknownReader) pa_nil))) (pa_cons (pe_callB (call_isX hC hz hf) (by rfl) Z.zisinstance (by decide +kernel) (pa_cons (pv 1) (pa_cons (pcls g_UnknownBook) pa_nil))) pa_nil))))))
      (pss_cons (ps_set (i := 2) sc__law_raised.nd rfl (by first | exact Or.inl rfl | exact Or.inr rfl) (pe_op op_cat (pv 2) (pe_lst (pa_cons (pe_callB (call_isX hC hz hf) (by rfl) Z.zisinstance (by decide +kernel) (pa_cons (pv 1) (pa_cons (pcls g_Contradiction) pa_nil))) (pa_cons (pe_callB (call_isX hC hz hf) (by rfl) Z.zisinstance (by decide +kernel) (pa_cons (pv 1) (pa_cons (pcls g_InvalidCount) pa_nil))) pa_nil)))))
      (pss_cons (ps_if (PW.pt (pw_or (pt_cmpR op_ne (pe_bmK K PySem.F.plainAttrs_list PySem.F.slot_list_count PySem.F.type_list_count (mt_countFK K) (pv 2) (pa_cons pe_bl pa_nil)) pe_int (nomark _)) (pw_or1 (pt_not (pt_val (pe_callB (call_isX hC hz hf) (by rfl) Z.zisinstance (by decide +kernel) (pa_cons (pv 1) (pa_cons (pe_bltn rfl Z.zValueError (v := .ty "ValueError") (by decide +kernel) rfl) pa_nil)))))))) (pss_one (ps_ret (pe_tup (pa_cons pe_str pa_nil)))) pss_nil)
      (pss_cons (ps_set (i := 3) sc__law_raised.nd rfl (by first | exact Or.inl rfl | exact Or.inr rfl) (pe_bmK K PySem.F.plainAttrs_list PySem.F.slot_list_index PySem.F.type_list_index (mt_indexK K) (pv 2) (pa_cons pe_bl pa_nil)))
      (pss_cons (ps_if (pt_cmpR op_eq (pv 3) pe_int (nomark _)) (pss_one (ps_ret (pe_tup (pa_cons pe_str (pa_cons (pe_errF hC hz hf (pv 1)) pa_nil))))) pss_nil)
      (pss_cons (ps_if (pt_cmpR op_eq (pv 3) pe_int (nomark _)) (pss_one (ps_ret (pe_tup (pa_cons pe_str (pa_cons (pe_errF hC hz hf (pv 1)) (pa_cons (pe_errF hC hz hf (pv 1)) pa_nil)))))) pss_nil)
      (pss_cons (ps_if (pt_cmpR op_eq (pv 3) pe_int (nomark _)) (pss_one (ps_ret (pe_tup (pa_cons pe_str (pa_cons (pe_errF hC hz hf (pv 1)) pa_nil))))) pss_nil)
      (pss_cons (ps_if (pt_cmpR op_eq (pv 3) pe_int (nomark _)) (pss_one (ps_ret (pe_tup (pa_cons pe_str (pa_cons (pe_errF hC hz hf (pv 1)) (pa_cons (pe_errF hC hz hf (pv 1)) pa_nil)))))) pss_nil)
      (pss_cons (ps_if (pt_cmpR op_eq (pv 3) pe_int (nomark _)) (pss_one (ps_ret (pe_tup (pa_cons pe_str (pa_cons (pe_errF hC hz hf (pv 1)) pa_nil))))) pss_nil)
      (pss_cons (ps_if (pt_cmpR op_eq (pv 3) pe_int (nomark _)) (pss_one (ps_ret (pe_tup (pa_cons pe_str (pa_cons (pe_errF hC hz hf (pv 1)) pa_nil))))) pss_nil)
      (pss_one (ps_ret (pe_tup (pa_cons (pe_ix (ix_listK K) (pe_lst (pa_cons pe_str (pa_cons pe_str (pa_cons pe_str (pa_cons pe_str (pa_cons pe_str pa_nil)))))) (pe_op op_sub (pv 3) pe_int) (fun _ _ => rfl)) pa_nil)))))))))))))))))) (pss_one (ps_ret pe_non)), ?_⟩
  have eE : ∀ E' : XK, (fun (σ' : L2.St) (cls : Value) (d : Option Addr) (H' : Hp) => σ' = L2.start N__law_raised [V.ref f] ∧ E' cls d H') (L2.start N__law_raised [V.ref f]) = E' := fun E' => by
    funext cls d H'
    simp
  refine ⟨fun σ' cls d H' => σ' = L2.start N__law_raised [V.ref f] ∧ RaiseQ K Q cls d H', ?_, rfl, hLF, ?_⟩
  · rintro σ' cls d H' ⟨rfl, ⟨D, j, rfl, rfl, T, hj1, hj3, q⟩⟩
    refine ⟨true, T.re, fun _ a ha => ⟨D, rfl, T.c, ?_⟩, fun z => by cases z⟩
    have hd : DicA H' none := .inl rfl
    have hj : j = 6 ∨ j = 7 ∨ j = 8 ∨ j = 9 ∨ j = 10 := by omega
    rcases hj with rfl | rfl | rfl | rfl | rfl
    all_goals
      walk_at "g0"
      walk_at "go"
      refine g_isX hd (T.is_ 0 (by decide)) ?_
      walk_at "go"
      refine g_isX hd (T.is_ 1 (by decide)) ?_
      walk_at "go"
      refine g_isX hd (T.is_ 2 (by decide)) ?_
      walk_at "go"
      rename_i p1 H1 n1 e1 h1
      refine g_isX (hd.ex e1) (T.is_ 3 (by decide)) ?_
      walk_at "go"
      refine g_isX (hd.ex e1) (T.is_ 4 (by decide)) ?_
      walk_at "go"
      refine g_isX (hd.ex e1) (T.is_ 5 (by decide)) ?_
      walk_at "go"
      rename_i p2 H2 n2 e2 h2 p3 H3 n3 e3 h3
      have e03 := (e1.trans e2).trans e3
      refine g_isX (hd.ex e03) (T.is_ 6 (by decide)) ?_
      walk_at "go"
      refine g_isX (hd.ex e03) (T.is_ 7 (by decide)) ?_
      walk_at "go"
      refine g_isX (hd.ex e03) (T.is_ 8 (by decide)) ?_
      walk_at "go"
      rename_i p4 H4 n4 e4 h4 p5 H5 n5 e5 h5
      have e05 := (e03.trans e4).trans e5
      refine g_isX (hd.ex e05) (T.is_ 9 (by decide)) ?_
      walk_at "go"
      refine g_isX (hd.ex e05) (T.is_ 10 (by decide)) ?_
      walk_at "go"
      rename_i p6 H6 n6 e6 h6 p7 H7 n7 e7 h7
      have e07 := (e05.trans e6).trans e7
      refine g_kBM_list (SqL.of h7) ?_
      walk_at "go"
      refine g_cntFlagQ (j := _) (SqL.of h7) (by decide) ?_
      walk_at "go"
      refine g_isXt (hd.ex e07) T.ve ?_
      walk_at "go"
      refine g_kBM_list (SqL.of h7) ?_
      walk_at "go"
      refine g_idxFlagQ (j := _) (SqL.of h7) (by decide) ?_
      walk_at "go"
      rename_i p8 H8 n8 e8 h8 p9 H9 n9 e9 h9
      exact q p9 H9 (fresh_back (e07.trans e8) n9) ((e07.trans e8).trans e9) h9
  · rw [eE]
    exact h
end
end G48

namespace G48
open PySem PySem.Spec PyProof.Rows L2 Evl
abbrev N_Ring___eq__ : List Str := ["self", "other"]
theorem sc_Ring___eq__ : FnScope N_Ring___eq__ ["self", "other"] (defScope s_Ring___eq__) := ⟨rfl, rfl, rfl, by decide +kernel, rfl, by decide +kernel, by decide +kernel⟩
theorem b_Ring___eq__ : BindL "Ring.__eq__" "__eq__" s_Ring___eq__ ["self", "other"] := fun _ _ _ _ _ _ us hl => match us, hl with | [_, _], _ => rfl
end G48
/-! rings compared -/
namespace G48
open PySem PySem.Spec PyProof.Rows L2 Evl
/-! the steps -/
local macro_rules | `(tactic| walk_at "as") => `(tactic| with_reducible assumption)
local macro_rules | `(tactic| walk_at "hp") => `(tactic| first
  | with_reducible assumption
  | ((with_reducible apply SqT.of); walk_at "as")
  | ((with_reducible apply SqL.of); walk_at "as")
  | ((with_reducible apply ex_at); (focus walk_at "as"); walk_at "hp")
  | ((with_reducible apply ex_t); (focus walk_at "as"); walk_at "hp")
  | ((with_reducible apply ex_l); (focus walk_at "as"); walk_at "hp")
  | ((with_reducible apply exb_ins); (focus walk_at "as"); (focus walk_at "hp"); walk_at "hp")
  | ((with_reducible apply exb_t); (focus walk_at "as"); (focus walk_at "hp"); walk_at "hp")
  | ((with_reducible apply exb_at); (focus walk_at "as"); (focus walk_at "ne"); walk_at "hp")
  | ((with_reducible apply exb_l); (focus walk_at "as"); (focus walk_at "ne"); walk_at "hp"))
local macro_rules | `(tactic| walk_at "ne") => `(tactic| first
  | with_reducible assumption
  | exact Ne.symm (by with_reducible assumption)
  | exact ne_of_none (by with_reducible assumption) (by with_reducible assumption)
  | exact Ne.symm (ne_of_none (by with_reducible assumption) (by with_reducible assumption)))
local macro_rules | `(tactic| walk_at "tr") => `(tactic| first
  | rfl
  | with_reducible assumption
  | exact decide_eq_true (by first | with_reducible assumption | omega)
  | exact decide_eq_false (by first | with_reducible assumption | omega)
  | (rw [Bool.not_eq_true']; exact decide_eq_false (by first | with_reducible assumption | omega))
  | (rw [Bool.not_eq_false']; exact decide_eq_true (by first | with_reducible assumption | omega)))
local macro_rules | `(tactic| walk_at "nn") => `(tactic| first | with_reducible assumption | (exact List.cons_ne_nil _ _))
local macro_rules | `(tactic| walk_at "sz") => `(tactic| first | (exact sz1000 (Nat.le_of_ble_eq_true rfl)) | (refine sz1000 ?_; simp only [List.length_map, List.length_cons, List.length_nil, List.length_append]; omega) | with_reducible assumption)
local macro_rules | `(tactic| walk_at "sl") => `(tactic| first | with_reducible assumption | (refine lt1000 ?_; simp only [List.length_map, List.length_cons, List.length_nil, List.length_append]; omega) | (refine lt1000 ?_; omega))
local macro_rules | `(tactic| walk_at "ix") => `(tactic| first | rfl | with_reducible assumption)
local macro_rules | `(tactic| walk_at "rg") => `(tactic| exact RgOk.of_le (by omega) (by omega) (by omega) (by omega))
local macro_rules | `(tactic| walk_at "sp") => `(tactic| fail "sp")
local macro_rules | `(tactic| walk_at "cl") => `(tactic| with_reducible assumption)
local macro_rules | `(tactic| walk_at "lk") => `(tactic| with_reducible assumption)
local macro_rules | `(tactic| walk_at "it") => `(tactic| first | rfl | with_reducible assumption | exact atI_nat (by with_reducible assumption))
local macro_rules | `(tactic| walk_at "g1") => `(tactic| first
  | (with_reducible apply g_var); (focus rfl)
  | with_reducible apply g_c
  | with_reducible apply g_seq
  | with_reducible apply g_asg
  | with_reducible apply gg_name
  | with_reducible apply g_op
  | with_reducible apply g_cons
  | with_reducible apply g_nil
  | with_reducible apply g_cb
  | with_reducible apply g_fld
  | ((with_reducible apply g_kFld); (focus walk_at "hp"); (focus walk_at "cl"); (focus walk_at "cl"); (focus walk_at "lk"))
  | with_reducible apply g_call
  | walk_at "sp"
  | with_reducible apply g_ret
  | with_reducible apply g_drop
  | with_reducible apply g_test
  | with_reducible apply g_B
  | with_reducible apply g_kTest
  | with_reducible apply g_ifS
  | with_reducible apply g_kIfST
  | with_reducible apply g_kIfSF
  | with_reducible apply g_add
  | with_reducible apply g_sub
  | with_reducible apply g_lt
  | with_reducible apply g_le
  | with_reducible apply g_gt
  | with_reducible apply g_ge
  | with_reducible apply g_eqI
  | with_reducible apply g_neI
  | ((with_reducible apply g_mod); (focus first | decide | omega))
  | ((with_reducible apply g_mul); (focus first | (left; constructor <;> omega) | (right; constructor <;> omega)))
  | ((with_reducible apply g_fdiv); (focus (constructor <;> omega)))
  | ((with_reducible apply g_ixT); (focus walk_at "hp"); (focus walk_at "it"))
  | ((with_reducible apply g_ixL); (focus walk_at "hp"); (focus walk_at "it"))
  | with_reducible apply g_and
  | with_reducible apply g_or
  | with_reducible apply g_not
  | with_reducible apply g_kNotT
  | with_reducible apply g_kNotF
  | with_reducible apply g_if
  | with_reducible apply g_kAndT
  | with_reducible apply g_kAndF
  | with_reducible apply g_kOrT
  | with_reducible apply g_kOrF
  | with_reducible apply g_kIfT
  | with_reducible apply g_kIfF
  | with_reducible apply g_next
  | with_reducible apply g_andV
  | with_reducible apply g_orV
  | with_reducible apply g_notV
  | with_reducible apply g_kNotV
  | with_reducible apply g_kAndVT
  | with_reducible apply g_kAndVF
  | with_reducible apply g_chain
  | with_reducible apply g_kChainT
  | with_reducible apply g_kChainF
  | with_reducible apply g_tup
  | with_reducible apply g_lst
  | ((with_reducible apply g_kT); (focus walk_at "sz"); intro _ _ _ _ _)
  | ((with_reducible apply g_kL); (focus walk_at "sz"); intro _ _ _ _ _)
  | with_reducible apply g_un
  | with_reducible apply g_neg
  | with_reducible apply g_meth
  | ((with_reducible apply g_kMeth); (focus walk_at "hp"); (focus walk_at "lk"))
  | with_reducible apply g_prop
  | ((with_reducible apply g_kProp); (focus walk_at "hp"))
  | with_reducible apply g_make
  | with_reducible apply g_par
  | with_reducible apply g_kPar
  | ((with_reducible apply g_lenLM); (focus walk_at "hp"))
  | ((with_reducible apply g_lenTM); (focus walk_at "hp"))
  | ((with_reducible apply g_lenL); (focus walk_at "hp"))
  | ((with_reducible apply g_lenT); (focus walk_at "hp"))
  | with_reducible apply g_int1
  | with_reducible apply g_max2
  | with_reducible apply g_min2
  | ((with_reducible apply g_listL); (focus walk_at "hp"); intro _ _ _ _ _)
  | ((with_reducible apply g_listT); (focus walk_at "hp"); intro _ _ _ _ _)
  | ((with_reducible apply g_tupL); (focus walk_at "hp"); intro _ _ _ _ _)
  | ((with_reducible apply g_sum); (focus walk_at "hp"))
  | with_reducible apply g_sfld
  | with_reducible apply g_sl
  | with_reducible apply g_nopart
  | with_reducible apply g_part
  | with_reducible apply g_kPart
  | with_reducible apply g_lstRg
  | with_reducible apply g_rg1
  | with_reducible apply g_kRg1
  | with_reducible apply g_bm
  | with_reducible apply gg_sub
  | ((with_reducible apply gg_tup); (focus walk_at "hp"); (focus rfl))
  | with_reducible apply gg_cons
  | with_reducible apply gg_nil
  | with_reducible apply g_forL
  | with_reducible apply g_forT
  | with_reducible apply g_forR1
  | with_reducible apply g_forR2
  | with_reducible apply g_forE
  | with_reducible apply g_forEL
  | ((with_reducible apply g_maxT); (focus walk_at "hp"); (focus walk_at "nn"))
  | ((with_reducible apply g_maxL); (focus walk_at "hp"); (focus walk_at "nn"))
  | ((with_reducible apply g_catA); (focus walk_at "hp"); (focus walk_at "hp"); (focus walk_at "sz"); intro _ _ _ _)
  | ((with_reducible apply g_slA); (focus walk_at "hp"); intro _ _ _ _)
  | ((with_reducible apply g_tupD); (focus walk_at "hp"); intro _ _ _ _ _)
  | ((with_reducible apply g_setL); (focus walk_at "hp"); (focus walk_at "ix"); intro _ _ _)
  | ((with_reducible apply g_append); (focus walk_at "hp"); (focus walk_at "sl"); intro _ _ _)
  | ((with_reducible apply g_aug); (focus rfl))
  | with_reducible apply g_ipI
  | with_reducible apply g_retN
  | with_reducible apply g_lcR1
  | with_reducible apply g_lcR2
  | with_reducible apply g_lcL
  | with_reducible apply g_lcU
  | with_reducible apply g_lcN
  | ((with_reducible apply g_kLcG); (focus rfl))
  | with_reducible apply g_yes
  | with_reducible apply g_kLcTT
  | with_reducible apply g_kLcTF
  | ((with_reducible apply g_kLcE); (focus walk_at "hp"); (focus walk_at "sl"); intro _ _ _)
  | ((with_reducible apply g_pow); (focus (constructor <;> (try constructor) <;> decide)))
  | ((with_reducible apply g_kLRg); (focus walk_at "rg"); intro _ _ _ _ _)
  | ((with_reducible apply g_cat); (focus walk_at "hp"); (focus walk_at "hp"); (focus walk_at "sz"); intro _ _ _ _ _)
  | ((with_reducible apply g_slL); (focus walk_at "hp"); intro _ _ _ _ _)
  | with_reducible apply g_bmT
  | with_reducible apply g_break
  | with_reducible apply g_cont)
local macro_rules | `(tactic| walk_at "g0") => `(tactic| try dsimp only [L2.cxOf, L2.Cx.nox, L2.Cx.wish])
local macro_rules | `(tactic| walk_at "yn") => `(tactic| first
  | ((with_reducible apply y_kIfS); (focus walk_at "tr"))
  | ((with_reducible apply n_kIfS); (focus walk_at "tr"))
  | ((with_reducible apply y_kOr); (focus walk_at "tr"))
  | ((with_reducible apply n_kOr); (focus walk_at "tr"))
  | ((with_reducible apply y_kAnd); (focus walk_at "tr"))
  | ((with_reducible apply n_kAnd); (focus walk_at "tr"))
  | ((with_reducible apply y_kNot); (focus walk_at "tr"))
  | ((with_reducible apply n_kNot); (focus walk_at "tr"))
  | ((with_reducible apply y_kIf); (focus walk_at "tr"))
  | ((with_reducible apply n_kIf); (focus walk_at "tr"))
  | ((with_reducible apply y_kAndV); (focus walk_at "tr"))
  | ((with_reducible apply n_kAndV); (focus walk_at "tr"))
  | ((with_reducible apply y_kOrV); (focus walk_at "tr"))
  | ((with_reducible apply n_kOrV); (focus walk_at "tr"))
  | ((with_reducible apply y_kChain); (focus walk_at "tr"))
  | ((with_reducible apply n_kChain); (focus walk_at "tr"))
  | ((with_reducible apply y_kLcT); (focus walk_at "tr"))
  | ((with_reducible apply n_kLcT); (focus walk_at "tr"))
  | ((with_reducible apply y_kWh); (focus walk_at "tr"))
  | ((with_reducible apply n_kWh); (focus walk_at "tr")))
local macro_rules | `(tactic| walk_at "go") => `(tactic| repeat (first | walk_at "g1" | walk_at "yn"))
local macro_rules | `(tactic| walk_at "hp") => `(tactic| first
  | ((with_reducible apply RingIn.ex); (focus walk_at "as"); walk_at "hp")
  | ((with_reducible apply RingAt.ex); (focus walk_at "as"); walk_at "hp")
  | ((with_reducible apply RingIn.exb); (focus walk_at "as"); (focus walk_at "hp"); walk_at "hp")
  | ((with_reducible apply RingAt.exb); (focus walk_at "as"); (focus walk_at "hp"); walk_at "hp")
  | ((with_reducible apply TupK.ex); (focus walk_at "as"); walk_at "hp")
  | ((with_reducible apply TupK.exb); (focus walk_at "as"); (focus walk_at "hp"); walk_at "hp"))
local macro_rules | `(tactic| walk_at "lk") => `(tactic| first | with_reducible exact rf_spans | with_reducible exact rf_heaps | with_reducible exact rf_total | with_reducible exact rf_nr | with_reducible exact rf_wd)
local macro_rules | `(tactic| walk_at "sp") => `(tactic| first
  | ((with_reducible apply g_isiTup); (focus walk_at "hp"))
  | ((with_reducible apply g_isiLst); (focus walk_at "hp"))
  | ((with_reducible apply g_isint); (focus omega); (focus omega))
  | ((with_reducible apply g_checkn); (focus omega); (focus omega))
  | ((with_reducible apply g_rbooks); (focus walk_at "hp"))
  | ((with_reducible apply g_rpace); (focus walk_at "hp"); intro _ _ _ _)
  | ((with_reducible apply g_rlen); (focus walk_at "hp"))
  | ((with_reducible apply g_rneed); (focus walk_at "hp"); (focus omega))
  | ((with_reducible apply g_rneedM); (focus walk_at "hp"))
  | ((with_reducible apply g_rwithM); (focus walk_at "hp"))
  | ((with_reducible apply g_rspans); (focus walk_at "hp"); (focus with_reducible assumption))
  | ((with_reducible apply g_rheaps); (focus walk_at "hp"); (focus with_reducible assumption))
  | ((with_reducible apply g_rtotal); (focus walk_at "hp"); (focus with_reducible assumption)))

local macro_rules | `(tactic| walk_at "sp") => `(tactic| first
  | ((with_reducible apply g_taken); (focus walk_at "hp"); (focus first | decide | omega); (focus first | decide | omega); intro _ _ _ _ _ _))
local macro_rules | `(tactic| walk_at "hp") => `(tactic| first
  | ((with_reducible apply DiceAt.ex); (focus walk_at "as"); walk_at "hp")
  | ((with_reducible apply exb_tD); (focus walk_at "as"); (focus walk_at "hp"); walk_at "hp")
  | ((with_reducible apply exb_insD); (focus walk_at "as"); (focus walk_at "hp"); walk_at "hp")
  | ((with_reducible apply RingIn.exD); (focus walk_at "as"); (focus walk_at "hp"); walk_at "hp")
  | ((with_reducible apply TupK.exD); (focus walk_at "as"); (focus walk_at "hp"); walk_at "hp"))

section
variable {P : Program} {w : World} {K : PySem.W.Frag} {mg : Str → Option Value} {base : Heap} {C : Addr}
def sp_Ring_eq (K : PySem.W.Frag) (C : Addr) : Sp := fun vs H Q _ => ∃ (r a b r' a' b' : Addr) (ds hs ds' hs' : List Int), vs = [.ref r, .ref r'] ∧ RingIn K C H r a b ds hs ∧ RingIn K C H r' a' b' ds' hs' ∧ Q (.bl (decide (ds = ds' ∧ hs = hs'))) H
theorem ok_Ring_eq (Z : Blt mg) (R : RingC K C) (Isi_Ring : IsiC K C) (g_Ring : mg "Ring" = some (.ref C)) (G : CFun K C "__eq__" "Ring.__eq__" s_Ring___eq__) : Mf P w K mg base C 1 "__eq__" ["self", "other"] (sp_Ring_eq K C) := by
  refine Mf.of G sc_Ring___eq__ b_Ring___eq__ (fun vs H Q E h => ?_) (fun f cdv A outer s H vs Q E hr h => ?_)
  · obtain ⟨r, a, b, r', a', b', ds, hs, ds', hs', rfl, _⟩ := h
    rfl
  · obtain ⟨r, a, b, r', a', b', ds, hs, ds', hs', rfl, RI, RI', q⟩ := h
    have cl_Ring := R.cl
    obtain ⟨dx, ho⟩ := RI'.obj
    refine ⟨_, PSs.nox (pss_one (ps_ret (pe_and (pe_callB call_isi (by rfl) Z.zisinstance (by decide +kernel) (pa_cons (pv 1) (pa_cons (pcls g_Ring) pa_nil))) (pe_and (pe_cmpR (op_eqD hr.units) (pe_fld (pv 0) rfl) (pe_fld (pv 1) rfl) (nomark _)) (pe_one (pe_cmpR (op_eqD hr.units) (pe_fld (pv 0) rfl) (pe_fld (pv 1) rfl) (nomark _))))))), ?_⟩
    walk_at "g0"
    walk_at "go"
    refine g_isiO R.cl Isi_Ring ho ?_
    walk_at "go"
    refine g_eqTI RI.sp RI'.sp ?_
    by_cases h1 : ds = ds'
    · rw [decide_eq_true h1]
      walk_at "go"
      refine g_eqTI RI.hp RI'.hp ?_
      have e : decide (hs = hs') = decide (ds = ds' ∧ hs = hs') := by simp [h1]
      rw [e]
      exact q
    · rw [decide_eq_false h1]
      walk_at "go"
      have e : decide (ds = ds' ∧ hs = hs') = false := by simp [h1]
      rw [e] at q
      exact q
end
end G48

/-! a != b by an own __eq__ -/
namespace G48
open PySem PySem.Spec PyProof.Rows L2 Evl
def rNeO (C : Addr) (sp : Sp) (E : XK) : R2 := fun x y H Q => ∃ a b, x = .ref a ∧ y = .ref b ∧ (∃ dx fs, H a = some (.ins C dx fs)) ∧ (∃ dx fs, H b = some (.ins C dx fs)) ∧ sp [.ref a, .ref b] H (fun v H2 => ∃ c, v = .bl c ∧ Q (.bl !c) H2) E
theorem ne_bind (self : Value) : bindSpecial (.builtin "object.__ne__") self = pure (.builtin "object.__ne__", [self]) :=
  (Slot.of (T := "object") (name := "__ne__") (owner := "object") (n := "__ne__") (by rw [typeLookup_type, builtinLookup_eq_fast]; kernel_rfl) (by decide +kernel) (by decide +kernel) (by decide +kernel)
    (.inl (by decide +kernel)) (by rw [isSubtype_type]; kernel_rfl)).bind self
theorem plain_ne : plainId "object.__ne__" = true := by decide +kernel
theorem op_neMf {X : Cx} {k j : Nat} {ps : List Str} {sp : Sp} {E : XK} {C : Addr} (hne : PySem.W.findIn X.K (.ref C) "__ne__" = some (some (.builtin "object.__ne__"))) (hob : PySem.W.subIn X.K (.ref C) (.type "object") = some true)
    (D : Mf X.prog X.w X.K X.mg X.base C k "__eq__" ps sp) (hr : Room j X.A) (hx : Passes (L2.CX X.prog X.w) X E := by exact passL) (hk : k + 1 ≤ j := by decide) : OpR X (compareOp .NotEq) (rNeO C sp E) := by
  intro pins s σ H x y v u Q I rx ry h
  obtain ⟨a, b, rfl, rfl, ⟨dx, fs, ha⟩, ⟨dy, gs, hb'⟩, q⟩ := h
  obtain rfl : v = Value.ref a := rx
  obtain rfl : u = Value.ref b := ry
  obtain ⟨f, fd, hm, hb, FK⟩ := D.ex
  obtain ⟨mA, J, _⟩ := ins_get I.hok ha
  obtain ⟨mB, J', _⟩ := ins_get I.hok hb'
  obtain ⟨od, J, _⟩ := J.look
  obtain ⟨od', J', _⟩ := J'.look
  obtain ⟨m, hF⟩ := I.fr
  have KX := I.kIn
  have hu : X.A.units + 1 < cLine := by
    have h1 := hr.un
    omega
  show wpAny (model X.prog X.w) X.A (richCompare .NotEq (.ref a) (.ref b)) (EP X pins σ Q) X.xe s
  have one : wpAny (model X.prog X.w) X.A (tryCompare (.ref a) "__ne__" (.ref b)) (fun r s' => ∃ v, r = some v ∧ EP X pins σ Q v s') X.xe s := by
    unfold tryCompare
    refine wpAny_bind ?_
    simp only [callSpecialIfBound?, bindSpecialIfBound?]
    refine wpAny_holding (wpAny_bind (wpAny_bind (wpAny_bind (J.type.here ((PySem.W.looks_findIn KX hne).here ?_)))))
    refine wpAny_bind (wpAny_askSetting (wpAny_ite ?_))
    have body : wpAny (model X.prog X.w) X.A (call (.builtin "object.__ne__") ([.ref a] ++ [.ref b])) (fun v s' => ∃ c : Bool, v = .bool c ∧ EP X pins σ Q v s') X.xe s := by
      refine wpAny_call (codeAny_call_builtin plain_ne PySem.F.cmpEntry_ne ?_)
      refine PySem.W.check_slot PySem.F.cmpKind_ne PySem.F.cmpSplit_ne (J.type.andThen (PySem.W.looks_subIn KX hob)) (PySem.F.cmpArgs_ne _ _) ?_
      unfold Builtin.«object.__ne__»
      have hs2 : slotArgs "__ne__" 1 ⟨[.ref a] ++ [.ref b], []⟩ = pure (.ref a, [.ref b]) := rfl
      refine wpAny_bind (wpAny_of_eq hs2 ?_)
      dsimp only
      refine wpAny_bind (wpAny_cRoomFor hu ?_)
      refine wpAny_bind (PySem.W.ifBound_K KX J hm.at_ hm.fn ?_)
      refine thn (run_in1 FK (hr.mono hk) hb .nil hx I (us := [.ref a, .ref b]) (vs := [.ref a, .ref b]) (.cons rfl (.cons rfl .nil)) q) fun v s1 hv => ?_
      obtain ⟨z, H1, I1, rz, c, ez, q1⟩ := hv
      subst ez
      cases rz
      show wpAny (model X.prog X.w) X.A.in1 (truthy (.bool c) >>= fun d => ret (.bool (!d))) _ _ s1
      refine wpAny_bind (wpAny_truthy_bool ?_)
      exact wpAny_pure ⟨!c, rfl, .bl !c, H1, I1, rfl, q1⟩
    have fin : wpAny (model X.prog X.w) X.A (call (.builtin "object.__ne__") ([.ref a] ++ [.ref b]) >>= fun v => pure (some v)) (fun r s' => ∃ c : Bool, r = some (.bool c) ∧ EP X pins σ Q (.bool c) s') X.xe s :=
      wpAny_bind (wpAny_mono body (fun v s' ⟨c, e, h'⟩ => wpAny_pure ⟨c, by rw [e], by rw [e] at h'; exact h'⟩) fun _ _ h' => h')
    split
    · refine wpAny_bind (wpAny_of_eq (ne_bind _) (wpAny_pure ?_))
      exact wpAny_mono fin (fun r s' ⟨c, e, h'⟩ => by subst e; exact wpAny_pure ⟨_, rfl, h'⟩) fun _ _ h' => h'
    · refine wpAny_tryCatch (wpAny_bind (wpAny_of_eq (ne_bind _) (wpAny_pure ?_)))
      exact wpAny_mono fin (fun r s' ⟨c, e, h'⟩ => by subst e; exact wpAny_pure ⟨_, rfl, h'⟩) fun _ _ h' => h'
  unfold richCompare
  simp only [oneThing_ref]
  refine wpAny_holding (wpAny_bind (wpAny_cRoomFor hr.units0 ?_))
  refine wpAny_bind (J.type.here (wpAny_bind (J'.type.here ?_)))
  rw [show (Value.ref C != Value.ref C) = false from by simp]
  simp only [Bool.false_eq_true, if_false]
  refine wpAny_bind (wpAny_pure ?_)
  simp only [Bool.false_eq_true, if_false]
  refine wpAny_bind (wpAny_mono one (fun r s' z => ?_) fun _ _ e => e)
  obtain ⟨v, rfl, hq⟩ := z
  exact wpAny_pure hq
section
variable {C a b : Addr} {sp : Sp} {E : XK} {H : Hp} {Q : VK} {K : PySem.W.Frag}
def kNb (Q : VK) : VK := fun v H2 => ∃ c, v = .bl c ∧ Q (.bl !c) H2
theorem g_kNb {c : Bool} (q : Q (.bl !c) H) : kNb Q (.bl c) H := ⟨c, rfl, q⟩
theorem g_neO {dx dy : Addr} {fs gs : List (Str × V)} (h1 : H a = some (.ins C dx fs)) (h2 : H b = some (.ins C dy gs)) (q : sp [.ref a, .ref b] H (kNb Q) E) : rNeO C sp E (.ref a) (.ref b) H Q := ⟨a, b, rfl, rfl, ⟨dx, fs, h1⟩, ⟨dy, gs, h2⟩, q⟩
end
end G48

namespace G48
open PySem PySem.Spec PyProof.Rows L2 Evl
abbrev N_pack_bytes : List Str := ["values", "value"]
theorem sc_pack_bytes : FnScope N_pack_bytes ["values"] (defScope s_pack_bytes) := ⟨rfl, rfl, rfl, by decide +kernel, rfl, by decide +kernel, by decide +kernel⟩
theorem b_pack_bytes : BindL "pack_bytes" "pack_bytes" s_pack_bytes ["values"] := fun _ _ _ _ _ _ us hl => match us, hl with | [_], _ => rfl
abbrev N_unpack_bytes : List Str := ["data"]
theorem sc_unpack_bytes : FnScope N_unpack_bytes ["data"] (defScope s_unpack_bytes) := ⟨rfl, rfl, rfl, by decide +kernel, rfl, by decide +kernel, by decide +kernel⟩
theorem b_unpack_bytes : BindL "unpack_bytes" "unpack_bytes" s_unpack_bytes ["data"] := fun _ _ _ _ _ _ us hl => match us, hl with | [_], _ => rfl
end G48
--lib Z
--lib Q
/-! bytes packed; charts and packings that raise -/
namespace G48
open PySem PySem.Spec PyProof.Rows L2 Evl
/-! the steps -/
local macro_rules | `(tactic| walk_at "as") => `(tactic| with_reducible assumption)
local macro_rules | `(tactic| walk_at "hp") => `(tactic| first
  | with_reducible assumption
  | ((with_reducible apply SqT.of); walk_at "as")
  | ((with_reducible apply SqL.of); walk_at "as")
  | ((with_reducible apply ex_at); (focus walk_at "as"); walk_at "hp")
  | ((with_reducible apply ex_t); (focus walk_at "as"); walk_at "hp")
  | ((with_reducible apply ex_l); (focus walk_at "as"); walk_at "hp")
  | ((with_reducible apply exb_ins); (focus walk_at "as"); (focus walk_at "hp"); walk_at "hp")
  | ((with_reducible apply exb_t); (focus walk_at "as"); (focus walk_at "hp"); walk_at "hp")
  | ((with_reducible apply exb_at); (focus walk_at "as"); (focus walk_at "ne"); walk_at "hp")
  | ((with_reducible apply exb_l); (focus walk_at "as"); (focus walk_at "ne"); walk_at "hp"))
local macro_rules | `(tactic| walk_at "ne") => `(tactic| first
  | with_reducible assumption
  | exact Ne.symm (by with_reducible assumption)
  | exact ne_of_none (by with_reducible assumption) (by with_reducible assumption)
  | exact Ne.symm (ne_of_none (by with_reducible assumption) (by with_reducible assumption)))
local macro_rules | `(tactic| walk_at "tr") => `(tactic| first
  | rfl
  | with_reducible assumption
  | exact decide_eq_true (by first | with_reducible assumption | omega)
  | exact decide_eq_false (by first | with_reducible assumption | omega)
  | (rw [Bool.not_eq_true']; exact decide_eq_false (by first | with_reducible assumption | omega))
  | (rw [Bool.not_eq_false']; exact decide_eq_true (by first | with_reducible assumption | omega)))
local macro_rules | `(tactic| walk_at "nn") => `(tactic| first | with_reducible assumption | (exact List.cons_ne_nil _ _))
local macro_rules | `(tactic| walk_at "sz") => `(tactic| first | (exact sz1000 (Nat.le_of_ble_eq_true rfl)) | (refine sz1000 ?_; simp only [List.length_map, List.length_cons, List.length_nil, List.length_append]; omega) | with_reducible assumption)
local macro_rules | `(tactic| walk_at "sl") => `(tactic| first | with_reducible assumption | (refine lt1000 ?_; simp only [List.length_map, List.length_cons, List.length_nil, List.length_append]; omega) | (refine lt1000 ?_; omega))
local macro_rules | `(tactic| walk_at "ix") => `(tactic| first | rfl | with_reducible assumption)
local macro_rules | `(tactic| walk_at "rg") => `(tactic| exact RgOk.of_le (by omega) (by omega) (by omega) (by omega))
local macro_rules | `(tactic| walk_at "sp") => `(tactic| fail "sp")
local macro_rules | `(tactic| walk_at "cl") => `(tactic| with_reducible assumption)
local macro_rules | `(tactic| walk_at "lk") => `(tactic| with_reducible assumption)
local macro_rules | `(tactic| walk_at "it") => `(tactic| first | rfl | with_reducible assumption | exact atI_nat (by with_reducible assumption))
local macro_rules | `(tactic| walk_at "g1") => `(tactic| first
  | (with_reducible apply g_var); (focus rfl)
  | with_reducible apply g_c
  | with_reducible apply g_seq
  | with_reducible apply g_asg
  | with_reducible apply gg_name
  | with_reducible apply g_op
  | with_reducible apply g_cons
  | with_reducible apply g_nil
  | with_reducible apply g_cb
  | with_reducible apply g_fld
  | ((with_reducible apply g_kFld); (focus walk_at "hp"); (focus walk_at "cl"); (focus walk_at "cl"); (focus walk_at "lk"))
  | with_reducible apply g_call
  | walk_at "sp"
  | with_reducible apply g_ret
  | with_reducible apply g_drop
  | with_reducible apply g_test
  | with_reducible apply g_B
  | with_reducible apply g_kTest
  | with_reducible apply g_ifS
  | with_reducible apply g_kIfST
  | with_reducible apply g_kIfSF
  | with_reducible apply g_add
  | with_reducible apply g_sub
  | with_reducible apply g_lt
  | with_reducible apply g_le
  | with_reducible apply g_gt
  | with_reducible apply g_ge
  | with_reducible apply g_eqI
  | with_reducible apply g_neI
  | ((with_reducible apply g_mod); (focus first | decide | omega))
  | ((with_reducible apply g_mul); (focus first | (left; constructor <;> omega) | (right; constructor <;> omega)))
  | ((with_reducible apply g_fdiv); (focus (constructor <;> omega)))
  | ((with_reducible apply g_ixT); (focus walk_at "hp"); (focus walk_at "it"))
  | ((with_reducible apply g_ixL); (focus walk_at "hp"); (focus walk_at "it"))
  | with_reducible apply g_and
  | with_reducible apply g_or
  | with_reducible apply g_not
  | with_reducible apply g_kNotT
  | with_reducible apply g_kNotF
  | with_reducible apply g_if
  | with_reducible apply g_kAndT
  | with_reducible apply g_kAndF
  | with_reducible apply g_kOrT
  | with_reducible apply g_kOrF
  | with_reducible apply g_kIfT
  | with_reducible apply g_kIfF
  | with_reducible apply g_next
  | with_reducible apply g_andV
  | with_reducible apply g_orV
  | with_reducible apply g_notV
  | with_reducible apply g_kNotV
  | with_reducible apply g_kAndVT
  | with_reducible apply g_kAndVF
  | with_reducible apply g_chain
  | with_reducible apply g_kChainT
  | with_reducible apply g_kChainF
  | with_reducible apply g_tup
  | with_reducible apply g_lst
  | ((with_reducible apply g_kT); (focus walk_at "sz"); intro _ _ _ _ _)
  | ((with_reducible apply g_kL); (focus walk_at "sz"); intro _ _ _ _ _)
  | with_reducible apply g_un
  | with_reducible apply g_neg
  | with_reducible apply g_meth
  | ((with_reducible apply g_kMeth); (focus walk_at "hp"); (focus walk_at "lk"))
  | with_reducible apply g_prop
  | ((with_reducible apply g_kProp); (focus walk_at "hp"))
  | with_reducible apply g_make
  | with_reducible apply g_par
  | with_reducible apply g_kPar
  | ((with_reducible apply g_lenLM); (focus walk_at "hp"))
  | ((with_reducible apply g_lenTM); (focus walk_at "hp"))
  | ((with_reducible apply g_lenL); (focus walk_at "hp"))
  | ((with_reducible apply g_lenT); (focus walk_at "hp"))
  | with_reducible apply g_int1
  | with_reducible apply g_max2
  | with_reducible apply g_min2
  | ((with_reducible apply g_listL); (focus walk_at "hp"); intro _ _ _ _ _)
  | ((with_reducible apply g_listT); (focus walk_at "hp"); intro _ _ _ _ _)
  | ((with_reducible apply g_tupL); (focus walk_at "hp"); intro _ _ _ _ _)
  | ((with_reducible apply g_sum); (focus walk_at "hp"))
  | with_reducible apply g_sfld
  | with_reducible apply g_sl
  | with_reducible apply g_nopart
  | with_reducible apply g_part
  | with_reducible apply g_kPart
  | with_reducible apply g_lstRg
  | with_reducible apply g_rg1
  | with_reducible apply g_kRg1
  | with_reducible apply g_bm
  | with_reducible apply gg_sub
  | ((with_reducible apply gg_tup); (focus walk_at "hp"); (focus rfl))
  | with_reducible apply gg_cons
  | with_reducible apply gg_nil
  | with_reducible apply g_forL
  | with_reducible apply g_forT
  | with_reducible apply g_forR1
  | with_reducible apply g_forR2
  | with_reducible apply g_forE
  | with_reducible apply g_forEL
  | ((with_reducible apply g_maxT); (focus walk_at "hp"); (focus walk_at "nn"))
  | ((with_reducible apply g_maxL); (focus walk_at "hp"); (focus walk_at "nn"))
  | ((with_reducible apply g_catA); (focus walk_at "hp"); (focus walk_at "hp"); (focus walk_at "sz"); intro _ _ _ _)
  | ((with_reducible apply g_slA); (focus walk_at "hp"); intro _ _ _ _)
  | ((with_reducible apply g_tupD); (focus walk_at "hp"); intro _ _ _ _ _)
  | ((with_reducible apply g_setL); (focus walk_at "hp"); (focus walk_at "ix"); intro _ _ _)
  | ((with_reducible apply g_append); (focus walk_at "hp"); (focus walk_at "sl"); intro _ _ _)
  | ((with_reducible apply g_aug); (focus rfl))
  | with_reducible apply g_ipI
  | with_reducible apply g_retN
  | with_reducible apply g_lcR1
  | with_reducible apply g_lcR2
  | with_reducible apply g_lcL
  | with_reducible apply g_lcU
  | with_reducible apply g_lcN
  | ((with_reducible apply g_kLcG); (focus rfl))
  | with_reducible apply g_yes
  | with_reducible apply g_kLcTT
  | with_reducible apply g_kLcTF
  | ((with_reducible apply g_kLcE); (focus walk_at "hp"); (focus walk_at "sl"); intro _ _ _)
  | ((with_reducible apply g_pow); (focus (constructor <;> (try constructor) <;> decide)))
  | ((with_reducible apply g_kLRg); (focus walk_at "rg"); intro _ _ _ _ _)
  | ((with_reducible apply g_cat); (focus walk_at "hp"); (focus walk_at "hp"); (focus walk_at "sz"); intro _ _ _ _ _)
  | ((with_reducible apply g_slL); (focus walk_at "hp"); intro _ _ _ _ _)
  | with_reducible apply g_bmT
  | with_reducible apply g_break
  | with_reducible apply g_cont)
local macro_rules | `(tactic| walk_at "g0") => `(tactic| try dsimp only [L2.cxOf, L2.Cx.nox, L2.Cx.wish])
local macro_rules | `(tactic| walk_at "yn") => `(tactic| first
  | ((with_reducible apply y_kIfS); (focus walk_at "tr"))
  | ((with_reducible apply n_kIfS); (focus walk_at "tr"))
  | ((with_reducible apply y_kOr); (focus walk_at "tr"))
  | ((with_reducible apply n_kOr); (focus walk_at "tr"))
  | ((with_reducible apply y_kAnd); (focus walk_at "tr"))
  | ((with_reducible apply n_kAnd); (focus walk_at "tr"))
  | ((with_reducible apply y_kNot); (focus walk_at "tr"))
  | ((with_reducible apply n_kNot); (focus walk_at "tr"))
  | ((with_reducible apply y_kIf); (focus walk_at "tr"))
  | ((with_reducible apply n_kIf); (focus walk_at "tr"))
  | ((with_reducible apply y_kAndV); (focus walk_at "tr"))
  | ((with_reducible apply n_kAndV); (focus walk_at "tr"))
  | ((with_reducible apply y_kOrV); (focus walk_at "tr"))
  | ((with_reducible apply n_kOrV); (focus walk_at "tr"))
  | ((with_reducible apply y_kChain); (focus walk_at "tr"))
  | ((with_reducible apply n_kChain); (focus walk_at "tr"))
  | ((with_reducible apply y_kLcT); (focus walk_at "tr"))
  | ((with_reducible apply n_kLcT); (focus walk_at "tr"))
  | ((with_reducible apply y_kWh); (focus walk_at "tr"))
  | ((with_reducible apply n_kWh); (focus walk_at "tr")))
local macro_rules | `(tactic| walk_at "go") => `(tactic| repeat (first | walk_at "g1" | walk_at "yn"))
local macro_rules | `(tactic| walk_at "hp") => `(tactic| first
  | ((with_reducible apply RingIn.ex); (focus walk_at "as"); walk_at "hp")
  | ((with_reducible apply RingAt.ex); (focus walk_at "as"); walk_at "hp")
  | ((with_reducible apply RingIn.exb); (focus walk_at "as"); (focus walk_at "hp"); walk_at "hp")
  | ((with_reducible apply RingAt.exb); (focus walk_at "as"); (focus walk_at "hp"); walk_at "hp")
  | ((with_reducible apply TupK.ex); (focus walk_at "as"); walk_at "hp")
  | ((with_reducible apply TupK.exb); (focus walk_at "as"); (focus walk_at "hp"); walk_at "hp"))
local macro_rules | `(tactic| walk_at "lk") => `(tactic| first | with_reducible exact rf_spans | with_reducible exact rf_heaps | with_reducible exact rf_total | with_reducible exact rf_nr | with_reducible exact rf_wd)
local macro_rules | `(tactic| walk_at "sp") => `(tactic| first
  | ((with_reducible apply g_isiTup); (focus walk_at "hp"))
  | ((with_reducible apply g_isiLst); (focus walk_at "hp"))
  | ((with_reducible apply g_isint); (focus omega); (focus omega))
  | ((with_reducible apply g_checkn); (focus omega); (focus omega))
  | ((with_reducible apply g_rbooks); (focus walk_at "hp"))
  | ((with_reducible apply g_rpace); (focus walk_at "hp"); intro _ _ _ _)
  | ((with_reducible apply g_rlen); (focus walk_at "hp"))
  | ((with_reducible apply g_rneed); (focus walk_at "hp"); (focus omega))
  | ((with_reducible apply g_rneedM); (focus walk_at "hp"))
  | ((with_reducible apply g_rwithM); (focus walk_at "hp"))
  | ((with_reducible apply g_rspans); (focus walk_at "hp"); (focus with_reducible assumption))
  | ((with_reducible apply g_rheaps); (focus walk_at "hp"); (focus with_reducible assumption))
  | ((with_reducible apply g_rtotal); (focus walk_at "hp"); (focus with_reducible assumption)))

local macro_rules | `(tactic| walk_at "sp") => `(tactic| first
  | ((with_reducible apply g_taken); (focus walk_at "hp"); (focus first | decide | omega); (focus first | decide | omega); intro _ _ _ _ _ _))
local macro_rules | `(tactic| walk_at "hp") => `(tactic| first
  | ((with_reducible apply DiceAt.ex); (focus walk_at "as"); walk_at "hp")
  | ((with_reducible apply exb_tD); (focus walk_at "as"); (focus walk_at "hp"); walk_at "hp")
  | ((with_reducible apply exb_insD); (focus walk_at "as"); (focus walk_at "hp"); walk_at "hp")
  | ((with_reducible apply RingIn.exD); (focus walk_at "as"); (focus walk_at "hp"); walk_at "hp")
  | ((with_reducible apply TupK.exD); (focus walk_at "as"); (focus walk_at "hp"); walk_at "hp"))

section
variable {P : Program} {w : World} {K : PySem.W.Frag} {mg : Str → Option Value} {base : Heap} {C : Addr}
theorem g_notint {H : Hp} {Q : VK} {E : XK} {v : V} {lo hi : Int} (p : Pl K H v) (h : inB lo hi v = false) (q : Q (.bl false) H) : sp_is_integer K [v, .int lo, .int hi] H Q E := ⟨_, lo, hi, rfl, p, by rw [h]; exact q⟩
def sp_chartX (K : PySem.W.Frag) : Sp := fun vs H Q E => ∃ (r : Addr) (v : V), vs = [.ref r, v] ∧ Pl K H v ∧ inB 1 100 v = false ∧ E (.ref (He.ga K "InvalidNumber")) none H
theorem okx_chart (Z : Blt mg) (c_MAX_CHARTED : ∃ t, mg "MAX_CHARTED" = some (.int 100 t)) (Exq_InvalidNumber : ExcQ K (He.ga K "InvalidNumber") 6) (g_InvalidNumber : mg "InvalidNumber" = some (.ref (He.ga K "InvalidNumber"))) (D_is_integer : Df P w K mg base 1 "is_integer" ["value", "low", "high"] (sp_is_integer K)) (G : GFun K mg "chart" s_chart) : Df P w K mg base 5 "chart" ["ring", "count"] (sp_chartX K) := by
  refine Df.of G sc_chart b_chart (fun vs H Q E h => ?_) (fun f cdv A outer s H vs Q E hr h => ?_)
  · obtain ⟨r, v, rfl, _⟩ := h
    rfl
  · obtain ⟨r, v, rfl, hp, hb, q⟩ := h
    refine ⟨_, (pss_cons (ps_if (pt_not (pt_val (pg D_is_integer hr (pa_cons (pv 1) (pa_cons pe_int (pa_cons (pint c_MAX_CHARTED) pa_nil)))))) (pss_one (psr_ownQ Exq_InvalidNumber g_InvalidNumber rfl (takes_of rfl rfl rfl rfl))) pss_nil)
      (pss_cons ps_never
      (pss_cons ps_never
      (pss_cons ps_never
      (pss_cons ps_never
      (pss_one ps_never)))))), ?_⟩
    walk_at "g0"
    walk_at "go"
    refine g_notint hp hb ?_
    walk_at "go"
    exact q
def sp_pack (K : PySem.W.Frag) : Sp := fun vs H Q _ => ∃ (l : Addr) (ns : List Int), vs = [.ref l] ∧ SqL K H l (ns.map V.int) ∧ ns.length ≤ 900 ∧ (∀ v ∈ ns, 0 ≤ v ∧ v < 256) ∧ ∀ H', Ex H H' → Q (.byt (byteArr ns)) H'
set_option maxHeartbeats 8000000 in
theorem ok_pack (Z : Blt mg) (c_BYTE : ∃ t, mg "BYTE" = some (.int 256 t)) (D_is_integer : Df P w K mg base 1 "is_integer" ["value", "low", "high"] (sp_is_integer K)) (G : GFun K mg "pack_bytes" s_pack_bytes) : Df P w K mg base 2 "pack_bytes" ["values"] (sp_pack K) := by
  refine Df.of G sc_pack_bytes b_pack_bytes (fun vs H Q E h => ?_) (fun f cdv A outer s H vs Q E hr h => ?_)
  · obtain ⟨l, ns, rfl, _⟩ := h
    rfl
  · obtain ⟨l, ns, rfl, hl, hn, h8, q⟩ := h
    refine ⟨_, PSs.nox (pss_cons (ps_if (PW.pt (pw_or (pt_not (pt_val (pe_callB call_isi (by rfl) Z.zisinstance (by decide +kernel) (pa_cons (pv 0) (pa_cons (pe_bltn rfl Z.zlist (v := .ty "list") (by decide +kernel) rfl) pa_nil))))) (pw_or1 (pt_not (pt_val (pe_callB (cr_all rfl) (by rfl) Z.zall (by decide +kernel) (pa_cons (pe_lc (own := [("value", 1)]) rfl sc_pack_bytes.nd (pi_list (pv 0)) (blkOk_by (N := N_pack_bytes) (sc := defScope s_pack_bytes) (by decide +kernel)) (fun _ _ _ _ _ => (pg_name (i := 1) sc_pack_bytes.nd rfl (by first | exact Or.inl rfl | exact Or.inr rfl))) (fun _ _ _ _ _ => pts_nil) (fun _ _ _ _ _ => (pg D_is_integer hr (pa_cons (pv 1) (pa_cons pe_int (pa_cons (pe_op op_sub (pint c_BYTE) pe_int) pa_nil)))))) pa_nil))))))) (pss_one ps_never) pss_nil)
      (pss_one (ps_ret (pe_callTy (c_bytes rfl) (by rfl) Z.zbytes (by decide +kernel) (pa_cons (pv 0) pa_nil))))), ?_⟩
    walk_at "g0"
    walk_at "go"
    refine g_kLcL hl (fun D i H' => Ex H H' ∧ H' D = some (.lst ((List.replicate i true).map V.bl))) (fun D H1 nD e1 hD => ⟨e1, hD⟩) (fun D i H1 nD _ hP => ex_l hP.1 hl) ?_ ?_
    · rintro D i x H1 nD hx ⟨e1, hD⟩
      have hi : i < ns.length := by
        have := (List.getElem?_eq_some_iff.mp hx).1
        rw [List.length_map] at this
        exact this
      rw [List.getElem?_map, List.getElem?_eq_getElem hi] at hx
      cases hx
      have hv := h8 _ (List.getElem_mem hi)
      walk_at "go"
      refine g_kLcE hD (lt1000 (by rw [List.length_map, List.length_replicate]; omega)) fun H2 e2 h2 => ⟨Exb.ex nD e1 e2, ?_⟩
      rw [h2, List.replicate_succ', List.map_append]
      rfl
    · rintro D H1 nD ⟨e1, hD⟩
      walk_at "go"
      refine ⟨D, _, rfl, SqL.of hD, ?_⟩
      rw [show (List.replicate (ns.map V.int).length true).all id = true by simp]
      walk_at "go"
      refine g_bytL (ex_l e1 hl) h8 ?_
      exact q _ e1
def BadPack (K : PySem.W.Frag) (H : Hp) (v : V) : Prop := (∃ (l : Addr) (x : V), v = .ref l ∧ SqL K H l [x] ∧ (∀ H', Pl K H' x) ∧ inB 0 255 x = false) ∨ ∃ u : Value, TyX K H v u ∧ PySem.W.kitOne K u (.type "list") = some false
def sp_packX (K : PySem.W.Frag) : Sp := fun vs H Q E => ∃ v, vs = [v] ∧ BadPack K H v ∧ ∀ H', Ex H H' → E (.ref (He.ga K "InvalidCount")) none H'
set_option maxHeartbeats 8000000 in
theorem okx_pack (Z : Blt mg) (c_BYTE : ∃ t, mg "BYTE" = some (.int 256 t)) (Exq_InvalidCount : ExcQ K (He.ga K "InvalidCount") 10) (g_InvalidCount : mg "InvalidCount" = some (.ref (He.ga K "InvalidCount"))) (D_is_integer : Df P w K mg base 1 "is_integer" ["value", "low", "high"] (sp_is_integer K)) (G : GFun K mg "pack_bytes" s_pack_bytes) : Df P w K mg base 2 "pack_bytes" ["values"] (sp_packX K) := by
  refine Df.of G sc_pack_bytes b_pack_bytes (fun vs H Q E h => ?_) (fun f cdv A outer s H vs Q E hr h => ?_)
  · obtain ⟨v, rfl, _⟩ := h
    rfl
  · obtain ⟨v, rfl, hb, q⟩ := h
    refine ⟨_, (pss_cons (ps_if (PW.pt (pw_or (pt_not (pt_val (pe_callB call_isi (by rfl) Z.zisinstance (by decide +kernel) (pa_cons (pv 0) (pa_cons (pe_bltn rfl Z.zlist (v := .ty "list") (by decide +kernel) rfl) pa_nil))))) (pw_or1 (pt_not (pt_val (pe_callB (cr_all rfl) (by rfl) Z.zall (by decide +kernel) (pa_cons (pe_lc (own := [("value", 1)]) rfl sc_pack_bytes.nd (pi_list (pv 0)) (blkOk_by (N := N_pack_bytes) (sc := defScope s_pack_bytes) (by decide +kernel)) (fun _ _ _ _ _ => (pg_name (i := 1) sc_pack_bytes.nd rfl (by first | exact Or.inl rfl | exact Or.inr rfl))) (fun _ _ _ _ _ => pts_nil) (fun _ _ _ _ _ => (pg D_is_integer hr (pa_cons (pv 1) (pa_cons pe_int (pa_cons (pe_op op_sub (pint c_BYTE) pe_int) pa_nil)))))) pa_nil))))))) (pss_one (psr_ownQ Exq_InvalidCount g_InvalidCount rfl (takes_of rfl rfl rfl rfl))) pss_nil)
      (pss_one ps_never)), ?_⟩
    walk_at "g0"
    walk_at "go"
    rcases hb with ⟨l, x, rfl, hl, hx, hv⟩ | ⟨u, ty, hk⟩
    · refine g_isi (.ty _) (sqL_ty hl) (kit_ty (r := true) (by decide +kernel)) ?_
      walk_at "go"
      refine g_kLcL hl (fun D i H' => Ex H H' ∧ H' D = some (.lst ((List.replicate i false).map V.bl))) (fun D H1 nD e1 hD => ⟨e1, hD⟩) (fun D i H1 nD _ hP => ex_l hP.1 hl) ?_ ?_
      · rintro D i y H1 nD hy ⟨e1, hD⟩
        obtain rfl : i = 0 := by have := (List.getElem?_eq_some_iff.mp hy).1; simp at this; omega
        cases hy
        walk_at "go"
        refine ⟨x, 0, 255, rfl, hx _, ?_⟩
        rw [hv]
        refine g_kLcE hD (lt1000 (by decide)) fun H2 e2 h2 => ⟨Exb.ex nD e1 e2, h2⟩
      · rintro D H1 nD ⟨e1, hD⟩
        walk_at "go"
        refine ⟨D, [false], rfl, SqL.of hD, ?_⟩
        walk_at "go"
        exact q _ e1
    · refine g_isi (.ty _) ty hk ?_
      walk_at "go"
      exact q _ (Ex.refl _)
def sp_unpack : Sp := fun vs H Q _ => ∃ (ns : List Int), vs = [.byt (byteArr ns)] ∧ ns.length ≤ 900 ∧ (∀ v ∈ ns, 0 ≤ v ∧ v < 256) ∧ ∀ p H', H p = none → Ex H H' → H' p = some (.lst (ns.map V.int)) → Q (.ref p) H'
theorem ok_unpack (Z : Blt mg) (G : GFun K mg "unpack_bytes" s_unpack_bytes) : Df P w K mg base 1 "unpack_bytes" ["data"] sp_unpack := by
  refine Df.of G sc_unpack_bytes b_unpack_bytes (fun vs H Q E h => ?_) (fun f cdv A outer s H vs Q E hr h => ?_)
  · obtain ⟨ns, rfl, _⟩ := h
    rfl
  · obtain ⟨ns, rfl, hn, h8, q⟩ := h
    refine ⟨_, PSs.nox (pss_one (ps_ret (pe_callTy (c_listB rfl) (by rfl) Z.zlist (by decide +kernel) (pa_cons (pv 0) pa_nil)))), ?_⟩
    walk_at "g0"
    walk_at "go"
    exact g_lstB h8 (by omega) fun p H2 np e2 h2 => q p H2 np e2 h2
end
end G48

/-! behind a lambda: what is carried over; texts compared; lists of pairs and the empty list -/
namespace G48
open PySem PySem.Spec PyProof.Rows L2 Evl
open LamX (Tabs ExtN)
section
variable {K : PySem.W.Frag} {H H' : Hp} {C : Addr}
theorem Scr.exn {a : Addr} {xs : List V} (e : ExtN H H') : Scr K H a xs → Scr K H' a xs
  | .inl ⟨o, h⟩ => .inl ⟨o, e _ _ h fun _ z => by cases z⟩
  | .inr h => .inr h
theorem DiceAt.exn {d : Addr} (e : ExtN H H') (D : DiceAt K H d) : DiceAt K H' d := by
  obtain ⟨sc, ns, p, m, r, h, hs, z, q⟩ := D
  exact ⟨sc, ns, p, m, r, exn_lst e h, hs.exn e, z, q⟩
theorem RingIn.exn {r a b : Addr} {ds hs : List Int} (e : ExtN H H') (R : RingIn K C H r a b ds hs) : RingIn K C H' r a b ds hs :=
  ⟨let ⟨dx, h⟩ := R.obj; ⟨dx, exn_ins e h⟩, exn_t e R.sp, exn_t e R.hp, R.ok⟩
theorem TupK.exn {a : Addr} {xs : List V} (e : ExtN H H') (h : TupK H a xs) : TupK H' a xs := by
  obtain ⟨o, h, c⟩ := h
  exact ⟨o, e _ _ h (fun _ z => by cases z), c⟩
theorem tabs_exD {T : List (Addr × Str)} {d : Addr} (e : Exb d H H') (D : DiceAt K H d) (t : Tabs T H) : Tabs T H' := let ⟨_, hl⟩ := D.lst; tabs_exb e hl t
variable {Q : VK} {a b : Addr}
theorem strD_sh (x y : Str) (hx : PyData.strOk x = true) (hy : PyData.strOk y = true) : SeqAt.shaped (.tuple [.str x, .str y]) = true := by
  show (PyData.canLay0 (.tuple [.str x, .str y]) && decide (PyData.depth (.tuple [.str x, .str y]) ≤ 64)) = true
  rw [Bool.and_eq_true]
  exact ⟨by simp [PyData.canLay0, PyData.canLayAll0, hx, hy], decide_eq_true (by simp [PyData.depth, PyData.depthAll])⟩
theorem strD_dp {x y : Str} (h : SqT K H a [.str x, .str y]) : Dp K H (.ref a) (.tuple [.str x, .str y]) := .tup h (.cons (.str _) (.cons (.str _) .nil))
theorem strD_eqv (x y : Str) : PyData.eqv (.tuple [.str x, .str y]) (.tuple [.str x, .str y]) = true := by simp [PyData.eqv, PyData.eqvAll]
/-- the error's name is the one that is due -/
theorem g_neTS {x y : Str} (hx : PyData.strOk x = true) (hy : PyData.strOk y = true) (h1 : SqT K H a [.str x, .str y]) (h2 : SqT K H b [.str x, .str y]) (q : Q (.bl false) H) : rNeD K (.ref a) (.ref b) H Q := g_neD (strD_dp h1) (strD_dp h2) (strD_sh _ _ hx hy) (strD_sh _ _ hx hy) (by rw [strD_eqv]; exact q)
theorem nilD_eqv (ps : List PyData) : PyData.eqv (.list ps) (.list []) = ps.isEmpty := by
  cases ps with
  | nil => simp [PyData.eqv, PyData.eqvAll]
  | cons p ps => simp [PyData.eqv, PyData.eqvAll]
theorem g_eqNil {zs : List V} {ps : List (Int × Int)} (h1 : SqL K H a zs) (h2 : pairsV K H zs ps) (h3 : SqL K H b []) (q : Q (.bl ps.isEmpty) H) : rEqD K (.ref a) (.ref b) H Q :=
  g_eqD (.lst h1 h2.dp) (.lst h3 .nil) (pairsL_sh ps) (pairsL_sh []) (by rw [show PyData.list [] = PyData.list [] from rfl, nilD_eqv, List.isEmpty_map]; exact q)
theorem g_neNil {zs : List V} {ps : List (Int × Int)} (h1 : SqL K H a zs) (h2 : pairsV K H zs ps) (h3 : SqL K H b []) (q : Q (.bl (!ps.isEmpty)) H) : rNeD K (.ref a) (.ref b) H Q :=
  g_neD (.lst h1 h2.dp) (.lst h3 .nil) (pairsL_sh ps) (pairsL_sh []) (by rw [nilD_eqv, List.isEmpty_map]; exact q)
theorem g_kIfSM {t1 t2 : TS} {D : Ends} {σ : L2.St} {c : Bool} {H : Hp} (M : L2.St → Hp → Prop) (h1 : c = true → ∀ N : L2.St → Hp → Prop, (∀ σ' H', M σ' H' → N σ' H') → t1 { D with nx := N } σ H) (h2 : c = false → ∀ N : L2.St → Hp → Prop, (∀ σ' H', M σ' H' → N σ' H') → t2 { D with nx := N } σ H)
    (q : ∀ σ' H', M σ' H' → D.nx σ' H') : kIfS t1 t2 D σ c H := g_kIfS (fun h => h1 h D.nx q) fun h => h2 h D.nx q
theorem g_toldL {T : List (Addr × Str)} {t : XK → TE} {TT : (XK → Hp → VK → Prop) → Hp → VK → Prop} {σ : L2.St} {H : Hp} {Q : VK} (h : Tabs T H) (q : ∀ H1, ExtN H H1 → Tabs T H1 → TT (fun E H' Q' => t E σ H' Q') H1 Q) : tToldL T t TT σ H Q := ⟨h, q⟩
end
end G48

namespace G48
open PySem PySem.Spec PyProof.Rows L2 Evl
abbrev N_law : List Str := ["_law_script", "_law_row", "_law_turn", "_law_days", "_law_heaps", "_law_ring", "_law_codes", "_law_total", "_law_k", "_law_code", "_law_text", "_law_count", "_law_bad"]
theorem sc_law : FnScope N_law ["_law_script"] (defScope s_law) := ⟨rfl, rfl, rfl, by decide +kernel, rfl, by decide +kernel, by decide +kernel⟩
theorem b_law : BindL "law" "law" s_law ["_law_script"] := fun _ _ _ _ _ _ us hl => match us, hl with | [_], _ => rfl
end G48
--lib Z
--lib W
--lib Q
/-! the law k45 -/
namespace G48
open PySem PySem.Spec PyProof.Rows L2 Evl
open LamX (Tabs ExtN)
/-! the steps -/
local macro_rules | `(tactic| walk_at "as") => `(tactic| with_reducible assumption)
local macro_rules | `(tactic| walk_at "hp") => `(tactic| first
  | with_reducible assumption
  | ((with_reducible apply SqT.of); walk_at "as")
  | ((with_reducible apply SqL.of); walk_at "as")
  | ((with_reducible apply ex_at); (focus walk_at "as"); walk_at "hp")
  | ((with_reducible apply ex_t); (focus walk_at "as"); walk_at "hp")
  | ((with_reducible apply ex_l); (focus walk_at "as"); walk_at "hp")
  | ((with_reducible apply exb_ins); (focus walk_at "as"); (focus walk_at "hp"); walk_at "hp")
  | ((with_reducible apply exb_t); (focus walk_at "as"); (focus walk_at "hp"); walk_at "hp")
  | ((with_reducible apply exb_at); (focus walk_at "as"); (focus walk_at "ne"); walk_at "hp")
  | ((with_reducible apply exb_l); (focus walk_at "as"); (focus walk_at "ne"); walk_at "hp"))
local macro_rules | `(tactic| walk_at "ne") => `(tactic| first
  | with_reducible assumption
  | exact Ne.symm (by with_reducible assumption)
  | exact ne_of_none (by with_reducible assumption) (by with_reducible assumption)
  | exact Ne.symm (ne_of_none (by with_reducible assumption) (by with_reducible assumption)))
local macro_rules | `(tactic| walk_at "tr") => `(tactic| first
  | rfl
  | with_reducible assumption
  | exact decide_eq_true (by first | with_reducible assumption | omega)
  | exact decide_eq_false (by first | with_reducible assumption | omega)
  | (rw [Bool.not_eq_true']; exact decide_eq_false (by first | with_reducible assumption | omega))
  | (rw [Bool.not_eq_false']; exact decide_eq_true (by first | with_reducible assumption | omega)))
local macro_rules | `(tactic| walk_at "nn") => `(tactic| first | with_reducible assumption | (exact List.cons_ne_nil _ _))
local macro_rules | `(tactic| walk_at "sz") => `(tactic| first | (exact sz1000 (Nat.le_of_ble_eq_true rfl)) | (refine sz1000 ?_; simp only [List.length_map, List.length_cons, List.length_nil, List.length_append]; omega) | with_reducible assumption)
local macro_rules | `(tactic| walk_at "sl") => `(tactic| first | with_reducible assumption | (refine lt1000 ?_; simp only [List.length_map, List.length_cons, List.length_nil, List.length_append]; omega) | (refine lt1000 ?_; omega))
local macro_rules | `(tactic| walk_at "ix") => `(tactic| first | rfl | with_reducible assumption)
local macro_rules | `(tactic| walk_at "rg") => `(tactic| exact RgOk.of_le (by omega) (by omega) (by omega) (by omega))
local macro_rules | `(tactic| walk_at "sp") => `(tactic| fail "sp")
local macro_rules | `(tactic| walk_at "cl") => `(tactic| with_reducible assumption)
local macro_rules | `(tactic| walk_at "lk") => `(tactic| with_reducible assumption)
local macro_rules | `(tactic| walk_at "it") => `(tactic| first | rfl | with_reducible assumption | exact atI_nat (by with_reducible assumption))
local macro_rules | `(tactic| walk_at "g1") => `(tactic| first
  | (with_reducible apply g_var); (focus rfl)
  | with_reducible apply g_c
  | with_reducible apply g_seq
  | with_reducible apply g_asg
  | with_reducible apply gg_name
  | with_reducible apply g_op
  | with_reducible apply g_cons
  | with_reducible apply g_nil
  | with_reducible apply g_cb
  | with_reducible apply g_fld
  | ((with_reducible apply g_kFld); (focus walk_at "hp"); (focus walk_at "cl"); (focus walk_at "cl"); (focus walk_at "lk"))
  | with_reducible apply g_call
  | walk_at "sp"
  | with_reducible apply g_ret
  | with_reducible apply g_drop
  | with_reducible apply g_test
  | with_reducible apply g_B
  | with_reducible apply g_kTest
  | with_reducible apply g_ifS
  | with_reducible apply g_kIfST
  | with_reducible apply g_kIfSF
  | with_reducible apply g_add
  | with_reducible apply g_sub
  | with_reducible apply g_lt
  | with_reducible apply g_le
  | with_reducible apply g_gt
  | with_reducible apply g_ge
  | with_reducible apply g_eqI
  | with_reducible apply g_neI
  | ((with_reducible apply g_mod); (focus first | decide | omega))
  | ((with_reducible apply g_mul); (focus first | (left; constructor <;> omega) | (right; constructor <;> omega)))
  | ((with_reducible apply g_fdiv); (focus (constructor <;> omega)))
  | ((with_reducible apply g_ixT); (focus walk_at "hp"); (focus walk_at "it"))
  | ((with_reducible apply g_ixL); (focus walk_at "hp"); (focus walk_at "it"))
  | with_reducible apply g_and
  | with_reducible apply g_or
  | with_reducible apply g_not
  | with_reducible apply g_kNotT
  | with_reducible apply g_kNotF
  | with_reducible apply g_if
  | with_reducible apply g_kAndT
  | with_reducible apply g_kAndF
  | with_reducible apply g_kOrT
  | with_reducible apply g_kOrF
  | with_reducible apply g_kIfT
  | with_reducible apply g_kIfF
  | with_reducible apply g_next
  | with_reducible apply g_andV
  | with_reducible apply g_orV
  | with_reducible apply g_notV
  | with_reducible apply g_kNotV
  | with_reducible apply g_kAndVT
  | with_reducible apply g_kAndVF
  | with_reducible apply g_chain
  | with_reducible apply g_kChainT
  | with_reducible apply g_kChainF
  | with_reducible apply g_tup
  | with_reducible apply g_lst
  | ((with_reducible apply g_kT); (focus walk_at "sz"); intro _ _ _ _ _)
  | ((with_reducible apply g_kL); (focus walk_at "sz"); intro _ _ _ _ _)
  | with_reducible apply g_un
  | with_reducible apply g_neg
  | with_reducible apply g_meth
  | ((with_reducible apply g_kMeth); (focus walk_at "hp"); (focus walk_at "lk"))
  | with_reducible apply g_prop
  | ((with_reducible apply g_kProp); (focus walk_at "hp"))
  | with_reducible apply g_make
  | with_reducible apply g_par
  | with_reducible apply g_kPar
  | ((with_reducible apply g_lenLM); (focus walk_at "hp"))
  | ((with_reducible apply g_lenTM); (focus walk_at "hp"))
  | ((with_reducible apply g_lenL); (focus walk_at "hp"))
  | ((with_reducible apply g_lenT); (focus walk_at "hp"))
  | with_reducible apply g_int1
  | with_reducible apply g_max2
  | with_reducible apply g_min2
  | ((with_reducible apply g_listL); (focus walk_at "hp"); intro _ _ _ _ _)
  | ((with_reducible apply g_listT); (focus walk_at "hp"); intro _ _ _ _ _)
  | ((with_reducible apply g_tupL); (focus walk_at "hp"); intro _ _ _ _ _)
  | ((with_reducible apply g_sum); (focus walk_at "hp"))
  | with_reducible apply g_sfld
  | with_reducible apply g_sl
  | with_reducible apply g_nopart
  | with_reducible apply g_part
  | with_reducible apply g_kPart
  | with_reducible apply g_lstRg
  | with_reducible apply g_rg1
  | with_reducible apply g_kRg1
  | with_reducible apply g_bm
  | with_reducible apply gg_sub
  | ((with_reducible apply gg_tup); (focus walk_at "hp"); (focus rfl))
  | with_reducible apply gg_cons
  | with_reducible apply gg_nil
  | with_reducible apply g_forL
  | with_reducible apply g_forT
  | with_reducible apply g_forR1
  | with_reducible apply g_forR2
  | with_reducible apply g_forE
  | with_reducible apply g_forEL
  | ((with_reducible apply g_maxT); (focus walk_at "hp"); (focus walk_at "nn"))
  | ((with_reducible apply g_maxL); (focus walk_at "hp"); (focus walk_at "nn"))
  | ((with_reducible apply g_catA); (focus walk_at "hp"); (focus walk_at "hp"); (focus walk_at "sz"); intro _ _ _ _)
  | ((with_reducible apply g_slA); (focus walk_at "hp"); intro _ _ _ _)
  | ((with_reducible apply g_tupD); (focus walk_at "hp"); intro _ _ _ _ _)
  | ((with_reducible apply g_setL); (focus walk_at "hp"); (focus walk_at "ix"); intro _ _ _)
  | ((with_reducible apply g_append); (focus walk_at "hp"); (focus walk_at "sl"); intro _ _ _)
  | ((with_reducible apply g_aug); (focus rfl))
  | with_reducible apply g_ipI
  | with_reducible apply g_retN
  | with_reducible apply g_lcR1
  | with_reducible apply g_lcR2
  | with_reducible apply g_lcL
  | with_reducible apply g_lcU
  | with_reducible apply g_lcN
  | ((with_reducible apply g_kLcG); (focus rfl))
  | with_reducible apply g_yes
  | with_reducible apply g_kLcTT
  | with_reducible apply g_kLcTF
  | ((with_reducible apply g_kLcE); (focus walk_at "hp"); (focus walk_at "sl"); intro _ _ _)
  | ((with_reducible apply g_pow); (focus (constructor <;> (try constructor) <;> decide)))
  | ((with_reducible apply g_kLRg); (focus walk_at "rg"); intro _ _ _ _ _)
  | ((with_reducible apply g_cat); (focus walk_at "hp"); (focus walk_at "hp"); (focus walk_at "sz"); intro _ _ _ _ _)
  | ((with_reducible apply g_slL); (focus walk_at "hp"); intro _ _ _ _ _)
  | with_reducible apply g_bmT
  | with_reducible apply g_break
  | with_reducible apply g_cont)
local macro_rules | `(tactic| walk_at "g0") => `(tactic| try dsimp only [L2.cxOf, L2.Cx.nox, L2.Cx.wish])
local macro_rules | `(tactic| walk_at "yn") => `(tactic| first
  | ((with_reducible apply y_kIfS); (focus walk_at "tr"))
  | ((with_reducible apply n_kIfS); (focus walk_at "tr"))
  | ((with_reducible apply y_kOr); (focus walk_at "tr"))
  | ((with_reducible apply n_kOr); (focus walk_at "tr"))
  | ((with_reducible apply y_kAnd); (focus walk_at "tr"))
  | ((with_reducible apply n_kAnd); (focus walk_at "tr"))
  | ((with_reducible apply y_kNot); (focus walk_at "tr"))
  | ((with_reducible apply n_kNot); (focus walk_at "tr"))
  | ((with_reducible apply y_kIf); (focus walk_at "tr"))
  | ((with_reducible apply n_kIf); (focus walk_at "tr"))
  | ((with_reducible apply y_kAndV); (focus walk_at "tr"))
  | ((with_reducible apply n_kAndV); (focus walk_at "tr"))
  | ((with_reducible apply y_kOrV); (focus walk_at "tr"))
  | ((with_reducible apply n_kOrV); (focus walk_at "tr"))
  | ((with_reducible apply y_kChain); (focus walk_at "tr"))
  | ((with_reducible apply n_kChain); (focus walk_at "tr"))
  | ((with_reducible apply y_kLcT); (focus walk_at "tr"))
  | ((with_reducible apply n_kLcT); (focus walk_at "tr"))
  | ((with_reducible apply y_kWh); (focus walk_at "tr"))
  | ((with_reducible apply n_kWh); (focus walk_at "tr")))
local macro_rules | `(tactic| walk_at "go") => `(tactic| repeat (first | walk_at "g1" | walk_at "yn"))
local macro_rules | `(tactic| walk_at "hp") => `(tactic| first
  | ((with_reducible apply RingIn.ex); (focus walk_at "as"); walk_at "hp")
  | ((with_reducible apply RingAt.ex); (focus walk_at "as"); walk_at "hp")
  | ((with_reducible apply RingIn.exb); (focus walk_at "as"); (focus walk_at "hp"); walk_at "hp")
  | ((with_reducible apply RingAt.exb); (focus walk_at "as"); (focus walk_at "hp"); walk_at "hp")
  | ((with_reducible apply TupK.ex); (focus walk_at "as"); walk_at "hp")
  | ((with_reducible apply TupK.exb); (focus walk_at "as"); (focus walk_at "hp"); walk_at "hp"))
local macro_rules | `(tactic| walk_at "lk") => `(tactic| first | with_reducible exact rf_spans | with_reducible exact rf_heaps | with_reducible exact rf_total | with_reducible exact rf_nr | with_reducible exact rf_wd)
local macro_rules | `(tactic| walk_at "sp") => `(tactic| first
  | ((with_reducible apply g_isiTup); (focus walk_at "hp"))
  | ((with_reducible apply g_isiLst); (focus walk_at "hp"))
  | ((with_reducible apply g_isint); (focus omega); (focus omega))
  | ((with_reducible apply g_checkn); (focus omega); (focus omega))
  | ((with_reducible apply g_rbooks); (focus walk_at "hp"))
  | ((with_reducible apply g_rpace); (focus walk_at "hp"); intro _ _ _ _)
  | ((with_reducible apply g_rlen); (focus walk_at "hp"))
  | ((with_reducible apply g_rneed); (focus walk_at "hp"); (focus omega))
  | ((with_reducible apply g_rneedM); (focus walk_at "hp"))
  | ((with_reducible apply g_rwithM); (focus walk_at "hp"))
  | ((with_reducible apply g_rspans); (focus walk_at "hp"); (focus with_reducible assumption))
  | ((with_reducible apply g_rheaps); (focus walk_at "hp"); (focus with_reducible assumption))
  | ((with_reducible apply g_rtotal); (focus walk_at "hp"); (focus with_reducible assumption)))

local macro_rules | `(tactic| walk_at "sp") => `(tactic| first
  | ((with_reducible apply g_taken); (focus walk_at "hp"); (focus first | decide | omega); (focus first | decide | omega); intro _ _ _ _ _ _))
local macro_rules | `(tactic| walk_at "hp") => `(tactic| first
  | ((with_reducible apply DiceAt.ex); (focus walk_at "as"); walk_at "hp")
  | ((with_reducible apply exb_tD); (focus walk_at "as"); (focus walk_at "hp"); walk_at "hp")
  | ((with_reducible apply exb_insD); (focus walk_at "as"); (focus walk_at "hp"); walk_at "hp")
  | ((with_reducible apply RingIn.exD); (focus walk_at "as"); (focus walk_at "hp"); walk_at "hp")
  | ((with_reducible apply TupK.exD); (focus walk_at "as"); (focus walk_at "hp"); walk_at "hp"))

local macro_rules | `(tactic| walk_at "sp") => `(tactic| first
  | ((with_reducible apply g_next'); (focus walk_at "hp"); (focus first | decide | omega); (focus first | decide | omega); intro _ _ _ _ _ _))

local macro_rules | `(tactic| walk_at "g1") => `(tactic| first
  | with_reducible apply g_m1
  | with_reducible apply g_kM1
  | with_reducible apply g_joined
  | with_reducible apply g_jcons
  | with_reducible apply g_jnil
  | with_reducible apply g_kOut
  | with_reducible apply g_fmt
  | with_reducible apply g_lcTx
  | with_reducible apply g_lcZ
  | with_reducible apply g_lcNL
  | with_reducible apply g_forZ2
  | with_reducible apply g_forZ3
  | with_reducible apply g_inS)

section
variable {P : Program} {w : World} {K : PySem.W.Frag} {mg : Str → Option Value} {base : Heap} {C SC : Addr}
theorem codeR_b8 {ds hs : List Int} (O : RingOk ds hs) : ∀ v ∈ codeR ds hs, 0 ≤ v ∧ v < 256 := fun v hv => by
  unfold codeR at hv
  rcases List.mem_append.mp hv with h | h
  · exact cod_b8 O (Nat.le_refl _) v h
  · rw [List.mem_singleton.mp h]
    have := chk_lt (ns := cod ds hs ds.length)
    omega
theorem g_neW1 {H : Hp} {Q : VK} {a b : Addr} {x : Str} (hx : PyData.strOk x = true) (h1 : SqT K H a [.str x]) (h2 : SqT K H b [.str x]) (q : Q (.bl false) H) : rNeD K (.ref a) (.ref b) H Q := by
  have hs : SeqAt.shaped (.tuple [.str x]) = true := by
    show (PyData.canLay0 (.tuple [.str x]) && decide (PyData.depth (.tuple [.str x]) ≤ 64)) = true
    rw [Bool.and_eq_true]
    exact ⟨by simp [PyData.canLay0, PyData.canLayAll0, hx], decide_eq_true (by simp [PyData.depth, PyData.depthAll])⟩
  exact g_neD (.tup h1 (.cons (.str _) .nil)) (.tup h2 (.cons (.str _) .nil)) hs hs (by rw [SeqAt.eqv_refl _ (SeqAt.canLay_of_shaped hs)]; exact q)
theorem g_neRing {H : Hp} {Q : VK} {E : XK} {r a b r' a' b' : Addr} {ds hs : List Int} (RI : RingIn K C H r a b ds hs) (RI' : RingIn K C H r' a' b' ds hs) (q : Q (.bl false) H) : rNeO C (sp_Ring_eq K C) E (.ref r) (.ref r') H Q := by
  obtain ⟨dx, ho⟩ := RI.obj
  obtain ⟨dx', ho'⟩ := RI'.obj
  refine g_neO ho ho' ⟨r, a, b, r', a', b', ds, hs, ds, hs, rfl, RI, RI', g_kNb ?_⟩
  rw [decide_eq_true (show ds = ds ∧ hs = hs from ⟨rfl, rfl⟩)]
  exact q
def sp_law (K : PySem.W.Frag) : Sp := fun vs H Q _ => ∃ (a : Addr) (ns : List Int), vs = [.ref a] ∧ Scr K H a (ns.map V.int) ∧ ns.length ≤ 63 ∧ H (lamT K) = some (.tbl #[]) ∧ ∀ H', Q (.bl true) H'
theorem sp_law_len {K : PySem.W.Frag} {vs : List V} {H : Hp} {Q : VK} {E : XK} (h : sp_law K vs H Q E) : vs.length = ["_law_script"].length := by
  obtain ⟨a, ns, rfl, _⟩ := h
  rfl
set_option maxHeartbeats 16000000 in
theorem bd_law (Z : Blt mg) (R : RingC K C) (Exq_InvalidNumber : ExcQ K (He.ga K "InvalidNumber") 6) (Exq_InvalidCount : ExcQ K (He.ga K "InvalidCount") 10) (G__law_raised : GFun K mg "_law_raised" s__law_raised) (T__law_raised : GivesL P w K mg base N__law_raised "_law_raised" s__law_raised "_law_work" 9 (TRaiseQ K)) (D__law_taken : Df P w K mg base 1 "_law_taken" ["_law_row", "_law_many"] (sp_taken K)) (D__law_pair : Df P w K mg base 3 "_law_pair" ["_law_row", "_law_most"] (sp_parts K)) (I_Ring : If P w K mg base "Ring" C 3 ["self", "days", "starts"] (sp_Ring_init K C))
    (D_format_ring : Df P w K mg base 1 "format_ring" ["ring"] (sp_format_ring K C)) (D_parse_ring : Df P w K mg base 5 "parse_ring" ["text"] (sp_parse_ring K C)) (D_encode_ring : Df P w K mg base 3 "encode_ring" ["ring"] (sp_encode K C)) (D_decode_ring : Df P w K mg base 5 "decode_ring" ["data"] (sp_decode K C)) (D_unpack_bytes : Df P w K mg base 1 "unpack_bytes" ["data"] sp_unpack) (D_pack_bytes : Df P w K mg base 2 "pack_bytes" ["values"] (sp_pack K)) (DX_pack_bytes : Df P w K mg base 2 "pack_bytes" ["values"] (sp_packX K))
    (D_chart : Df P w K mg base 5 "chart" ["ring", "count"] (sp_chart K C)) (DX_chart : Df P w K mg base 5 "chart" ["ring", "count"] (sp_chartX K)) (D__law_chart : Df P w K mg base 3 "_law_chart" ["_law_days", "_law_heaps", "_law_count"] (sp_mchart K)) (D__law_alike : Df P w K mg base 9 "_law_alike" ["_law_one", "_law_due"] (sp_alike K 4)) (neq_Ring : PySem.W.findIn K (.ref C) "__ne__" = some (some (.builtin "object.__ne__"))) (neo_Ring : PySem.W.subIn K (.ref C) (.type "object") = some true) (M_Ring___eq__ : Mf P w K mg base C 1 "__eq__" ["self", "other"] (sp_Ring_eq K C)) : BodyT P w K mg base N_law s_law 12 (sp_law K) := by
  intro f A outer s H vs Q E TB hr h
  · obtain ⟨sc, ns, rfl, hsc, hns, ht0, q⟩ := h
    have cl_Ring := R.cl
    refine ⟨_, (pss_cons (ps_set (i := 1) sc_law.nd rfl (by first | exact Or.inl rfl | exact Or.inr rfl) (pe_lst (pa_cons (pv 0) (pa_cons pe_int (pa_cons pe_int (pa_cons pe_int pa_nil))))))
      (pss_cons (ps_for PassesOwn.never rfl (pi_range1 (by rfl) Z.zrange (pa_cons pe_int pa_nil)) (pg_name (i := 2) sc_law.nd rfl (by first | exact Or.inl rfl | exact Or.inr rfl)) (pss_cons (ps_asg (pg D__law_pair hr (pa_cons (pv 1) (pa_cons pe_int pa_nil))) (pg_tup (by rfl) (pgs_cons (pg_name (i := 3) sc_law.nd rfl (by first | exact Or.inl rfl | exact Or.inr rfl)) (pgs_cons (pg_name (i := 4) sc_law.nd rfl (by first | exact Or.inl rfl | exact Or.inr rfl)) pgs_nil))))
          (pss_cons (ps_set (i := 5) sc_law.nd rfl (by first | exact Or.inl rfl | exact Or.inr rfl) (pk I_Ring hr (pa_cons (pv 3) (pa_cons (pv 4) pa_nil))))
          (pss_cons (ps_par (i := 6) (j := 7) rfl sc_law.nd rfl rfl (by decide) rfl rfl (pa_cons (pe_lst (pa_cons pe_int (pa_cons (pe_callB c_len (by rfl) Z.zlen PySem.boot_len (pa_cons (pv 3) pa_nil)) pa_nil))) (pa_cons pe_int pa_nil)) (by rfl))
          (pss_cons (ps_for PassesOwn.never rfl (pi_range1 (by rfl) Z.zrange (pa_cons (pe_callB c_len (by rfl) Z.zlen PySem.boot_len (pa_cons (pv 3) pa_nil)) pa_nil)) (pg_name (i := 8) sc_law.nd rfl (by first | exact Or.inl rfl | exact Or.inr rfl)) (pss_one (ps_set (i := 6) sc_law.nd rfl (by first | exact Or.inl rfl | exact Or.inr rfl) (pe_op op_cat (pv 6) (pe_lst (pa_cons (pe_ix ix_tup (pv 3) (pv 8) (fun _ _ => rfl)) (pa_cons (pe_ix ix_tup (pv 4) (pv 8) (fun _ _ => rfl)) pa_nil)))))))
          (pss_cons (ps_for PassesOwn.never rfl (pi_list (pv 6)) (pg_name (i := 9) sc_law.nd rfl (by first | exact Or.inl rfl | exact Or.inr rfl)) (pss_one (ps_set (i := 7) sc_law.nd rfl (by first | exact Or.inl rfl | exact Or.inr rfl) (pe_op op_mod (pe_callTy c_int1 (by rfl) Z.zint (by decide +kernel) (pa_cons (pe_op op_add (pe_op op_mul pe_int (pv 7)) (pv 9)) pa_nil)) pe_int))))
          (pss_cons (ps_expr (pe_bm PySem.F.plainAttrs_list PySem.F.slot_list_append PySem.F.type_list_append mt_append (pv 6) (pa_cons (pv 7) pa_nil)))
          (pss_cons (ps_set (i := 10) sc_law.nd rfl (by first | exact Or.inl rfl | exact Or.inr rfl) (pe_joinW pe_str (pe_lc (own := [("_law_k", 8)]) rfl sc_law.nd (pi_range1 (by rfl) Z.zrange (pa_cons (pe_callB c_len (by rfl) Z.zlen PySem.boot_len (pa_cons (pv 3) pa_nil)) pa_nil)) (blkOk_by (N := N_law) (sc := defScope s_law) (by decide +kernel)) (fun _ _ _ _ _ => (pg_name (i := 8) sc_law.nd rfl (by first | exact Or.inl rfl | exact Or.inr rfl))) (fun _ _ _ _ _ => pts_nil) (fun _ _ _ _ _ => (pe_op op_addS (pe_op op_addS (pe_op op_addS pe_str (pe_callTy call_str_int (by rfl) Z.zstr (by decide +kernel) (pa_cons (pe_ix (ix_tupK K) (pv 3) (pv 8) (fun _ _ => rfl)) pa_nil))) pe_str) (pe_callTy call_str_int (by rfl) Z.zstr (by decide +kernel) (pa_cons (pe_ix (ix_tupK K) (pv 4) (pv 8) (fun _ _ => rfl)) pa_nil)))))))
          (pss_cons (ps_if (pt_not (pt_val (pg D__law_alike hr (pa_cons (pe_lst (pa_cons (pg D_format_ring hr (pa_cons (pv 5) pa_nil)) (pa_cons (pg D_unpack_bytes hr (pa_cons (pg D_encode_ring hr (pa_cons (pv 5) pa_nil)) pa_nil)) pa_nil))) (pa_cons (pe_lst (pa_cons (pv 10) (pa_cons (pv 6) pa_nil))) pa_nil))))) (pss_one (ps_ret pe_bl)) pss_nil)
          (pss_cons (ps_if (PW.pt (pw_or (pt_cmpR (op_neMf neq_Ring neo_Ring M_Ring___eq__ hr) (pg D_parse_ring hr (pa_cons (pv 10) pa_nil)) (pv 5) (nomark _)) (pw_or1 (pt_cmpR (op_neMf neq_Ring neo_Ring M_Ring___eq__ hr) (pg D_decode_ring hr (pa_cons (pg D_pack_bytes hr (pa_cons (pv 6) pa_nil)) pa_nil)) (pv 5) (nomark _))))) (pss_one (ps_ret pe_bl)) pss_nil)
          (pss_cons (ps_set (i := 11) sc_law.nd rfl (by first | exact Or.inl rfl | exact Or.inr rfl) (pe_op op_add pe_int (pg D__law_taken hr (pa_cons (pv 1) (pa_cons (pe_ix ix_list (pe_lst (pa_cons pe_int (pa_cons pe_int pa_nil))) (pg D__law_taken hr (pa_cons (pv 1) (pa_cons pe_int pa_nil))) (fun _ _ => rfl)) pa_nil)))))
          (pss_cons (ps_if (pt_cmpR op_ne (pg D_chart hr (pa_cons (pv 5) (pa_cons (pv 11) pa_nil))) (pg D__law_chart hr (pa_cons (pv 3) (pa_cons (pv 4) (pa_cons (pv 11) pa_nil)))) (nomark _)) (pss_one (ps_ret pe_bl)) pss_nil)
          (pss_one (ps_for PassesOwn.never rfl (pi_tup (pe_tup (pa_cons pe_int (pa_cons pe_int (pa_cons (pe_op op_sub pe_int pe_int) (pa_cons pe_non (pa_cons pe_bl pa_nil))))))) (pg_name (i := 12) sc_law.nd rfl (by first | exact Or.inl rfl | exact Or.inr rfl)) (pss_one (ps_if (pt_cmpR (op_neD hr.units) (pe_toldL0 (T := lamTs K) TB rfl lamTs_m lamTs_u hr G__law_raised sc__law_raised b__law_raised T__law_raised rfl (.inl rfl) (lamS_of (N := N_law) (sc := defScope s_law) (by decide +kernel)) (lamB0 fun _ _ _ _ _ _ _ _ => rfl) (fun A outer s H E f c' hr => (pg DX_chart hr (pa_cons (pv 5) (pa_cons (pv 12) pa_nil)) (passes_call (takes_of rfl rfl rfl rfl) (fun _ _ _ _ h => h))))) (pe_tup (pa_cons pe_str pa_nil)) (nomark _)) (pss_one (ps_ret pe_bl)) pss_nil))))))))))))))))
      (pss_cons (ps_for PassesOwn.never rfl (pi_tup (pe_tup (pa_cons (pe_lst (pa_cons pe_int pa_nil)) (pa_cons (pe_lst (pa_cons (pe_op op_sub pe_int pe_int) pa_nil)) (pa_cons (pe_lst (pa_cons pe_bl pa_nil)) (pa_cons (pe_lst (pa_cons pe_non pa_nil)) (pa_cons (pe_tup (pa_cons pe_int pa_nil)) (pa_cons pe_int pa_nil)))))))) (pg_name (i := 12) sc_law.nd rfl (by first | exact Or.inl rfl | exact Or.inr rfl)) (pss_one (ps_if (pt_cmpR (op_neD hr.units) (pe_toldL0 (T := lamTs K) TB rfl lamTs_m lamTs_u hr G__law_raised sc__law_raised b__law_raised T__law_raised rfl (.inl rfl) (lamS_of (N := N_law) (sc := defScope s_law) (by decide +kernel)) (lamB0 fun _ _ _ _ _ _ _ _ => rfl) (fun A outer s H E f c' hr => (pg DX_pack_bytes hr (pa_cons (pv 12) pa_nil) (passes_call (takes_of rfl rfl rfl rfl) (fun _ _ _ _ h => h))))) (pe_tup (pa_cons pe_str pa_nil)) (nomark _)) (pss_one (ps_ret pe_bl)) pss_nil)))
      (pss_one (ps_ret pe_bl))))), ?_⟩
    walk_at "g0"
    walk_at "go"
    rename_i d H1 nd e1 hd
    have T1 := (lamTs_0 ht0).ext e1
    have D1 : DiceAt K H1 d := ⟨sc, ns, 0, 0, 0, hd, hsc.ex e1, hns, by decide, by decide, by decide⟩
    clear hd hsc e1 ht0 nd
    refine g_kForR1 ⟨by omega, by omega⟩ (fun t σ H' => ∃ v2 v3 v4 v5 v6 v7 v8 v9 v10 v11 v12 : Option V, σ = [some (.ref sc), some (.ref d), v2, v3, v4, v5, v6, v7, v8, v9, v10, v11, v12] ∧ DiceAt K H' d ∧ Tabs (lamTs K) H')
      ⟨_, _, _, _, _, _, _, _, _, _, _, rfl, D1, T1⟩ ?_ ?_
    · rintro t σ H2 ht ⟨v2, v3, v4, v5, v6, v7, v8, v9, v10, v11, v12, rfl, D2, T2⟩
      walk_at "go"
      refine ⟨d, 8, rfl, D2, by decide, fun p a b ds hs H3 np e3 D3 hp ta tb O hlm => ?_⟩
      have T3 : Tabs (lamTs K) H3 := tabs_exD e3 D2 T2
      have sa := ta.sq (K := K)
      have sb := tb.sq (K := K)
      have o2 := O.two
      have o8 := O.eight
      have o1 := O.one
      have o12 := O.twelve
      walk_at "go"
      refine g_mkRing sa sb O fun r H4 nr e4 RI4 => ?_
      have sa4 := RI4.sp
      have sb4 := RI4.hp
      have D4 := D3.ex e4
      have T4 := T3.ext e4
      clear e3 D3 T3 hp ta tb sa sb D2 T2 e4 np nr
      walk_at "go"
      rename_i l5 H5 n5 e5 h5
      have sa5 := ex_t e5 sa4
      refine g_kForR1 ⟨by omega, by omega⟩ (fun i σ H' => ∃ (c : Addr) (w8 w9 w10 w11 w12 : Option V), σ = [some (.ref sc), some (.ref d), some (.int (t : Int)), some (.ref a), some (.ref b), some (.ref r), some (.ref c), some (.int 1), w8, w9, w10, w11, w12] ∧ Ex H4 H' ∧ H4 c = none ∧ H' c = some (.lst ((cod ds hs i).map V.int)))
        ⟨l5, _, _, _, _, _, rfl, e5, n5, h5⟩ ?_ ?_
      · rintro i σ H6 hi ⟨c, w8, w9, w10, w11, w12, rfl, e6, nc, hc⟩
        have hi' : i < ds.length := by omega
        have sa6 := ex_t e6 sa4
        have sb6 := ex_t e6 sb4
        have hia : (ds.map V.int)[i]? = some (.int (ds.getD i 0)) := getD_at hi'
        have hib : (hs.map V.int)[i]? = some (.int (hs.getD i 0)) := getD_at (by rw [O.len]; exact hi')
        walk_at "go"
        rename_i l7 H7 n7 e7 h7
        refine g_cat (e7 _ _ hc) h7 (sz1000 (by rw [List.length_map, cod_len]; simp; omega)) fun l8 H8 n8 e8 h8 => ?_
        walk_at "go"
        refine ⟨l8, _, _, _, _, _, rfl, (e6.trans e7).trans e8, fresh_back (e6.trans e7) n8, ?_⟩
        rw [h8, cod_next, List.map_append]
        rfl
      · rintro σ H6 ⟨c, w8, w9, w10, w11, w12, rfl, e6, nc, hc⟩
        rw [show ((ds.length : Nat) : Int).toNat = ds.length from Int.toNat_natCast _] at hc
        walk_at "go"
        refine g_kForL (SqL.of hc) (fun i σ H' => ∃ (w8 w9 w10 w11 w12 : Option V), σ = [some (.ref sc), some (.ref d), some (.int (t : Int)), some (.ref a), some (.ref b), some (.ref r), some (.ref c), some (.int (chk ((cod ds hs ds.length).take i))), w8, w9, w10, w11, w12] ∧ H' = H6)
          ⟨_, _, _, _, _, rfl, rfl⟩ (fun i σ H' _ hP => by
            obtain ⟨_, _, _, _, _, _, rfl⟩ := hP
            exact SqL.of hc) ?_ ?_
        · rintro i x σ H7 hx ⟨w8, w9, w10, w11, w12, rfl, rfl⟩
          obtain ⟨v, hv, rfl⟩ : ∃ v, (cod ds hs ds.length)[i]? = some v ∧ x = .int v := by
            rw [List.getElem?_map] at hx
            cases hz : (cod ds hs ds.length)[i]? with
            | none => rw [hz] at hx; cases hx
            | some v => rw [hz] at hx; exact ⟨v, rfl, (Option.some.inj hx).symm⟩
          have hck := chk_lt (ns := (cod ds hs ds.length).take i)
          have hvb := cod_b8 O (Nat.le_refl _) v (List.mem_of_getElem? hv)
          walk_at "go"
          rw [show (7 * chk ((cod ds hs ds.length).take i) + v) % 251 = chk ((cod ds hs ds.length).take (i + 1)) by rw [chk_take hv, Int.mul_comm 7]]
          exact ⟨_, _, _, _, _, rfl, rfl⟩
        · rintro σ H7 ⟨w8, w9, w10, w11, w12, rfl, rfl⟩
          rw [show (cod ds hs ds.length).take ((cod ds hs ds.length).map V.int).length = cod ds hs ds.length by rw [List.length_map, List.take_length]]
          have T6 := T4.ext e6
          have D6 := D4.ex e6
          have RI6 := RI4.ex e6
          have hcd : c ≠ d := fun z => by
            obtain ⟨ys, hd⟩ := D4.lst
            rw [z, hd] at nc
            cases nc
          walk_at "go"
          refine g_kBM_list (SqL.of hc) ?_
          walk_at "go"
          refine g_append hc (lt1000 (by rw [List.length_map, cod_len]; omega)) fun H8 e8 h8 => ?_
          have hc8 : H8 c = some (.lst ((codeR ds hs).map V.int)) := by
            rw [h8]
            unfold codeR
            rw [List.map_append]
            rfl
          have T8 : Tabs (lamTs K) H8 := tabs_exb e8 hc T6
          have D8 := D6.exb e8 (Ne.symm hcd) hc
          have RI8 := RI6.exb e8 hc
          have sa8 := RI8.sp
          have sb8 := RI8.hp
          clear h8 e8 T6 D6 RI6 e6 hc nc T4 D4 RI4 sa4 sb4 e5 h5 n5 sa5
          walk_at "go"
          refine g_kLcR1 ⟨by omega, by omega⟩ (fun D i H' => Ex H8 H' ∧ H' D = some (.lst (((List.range i).map fun k => SX.S (lineL (ds.getD k 0) (hs.getD k 0))).map V.str))) (fun D H2 nD eD hD => ⟨eD, hD⟩) (fun D i H14 nD hi hP => ?_) (fun D H14 nD hP => ?_)
          · obtain ⟨e14, hD14⟩ := hP
            have hi' : i < ds.length := by omega
            have sa14 := ex_t e14 sa8
            have sb14 := ex_t e14 sb8
            have hia : (ds.map V.int)[i]? = some (.int (ds.getD i 0)) := getD_at hi'
            have hib : (hs.map V.int)[i]? = some (.int (hs.getD i 0)) := getD_at (by rw [O.len]; exact hi')
            have ra := O.dd _ (getD_mem hi')
            have rb := O.hh _ (getD_mem (ds := hs) (j := i) (by rw [O.len]; exact hi'))
            have l1 : ((toString (ds.getD i 0) : String) : PySem.Str).length ≤ 2 := (num_ok (i := ds.getD i 0) (by omega) (by omega)).l2
            have l2 : ((toString (hs.getD i 0) : String) : PySem.Str).length ≤ 2 := (num_ok (i := hs.getD i 0) (by omega) (by omega)).l2
            have s1 : (" " : PySem.Str).length = 1 := by decide +kernel
            have s7 : ("reader " : PySem.Str).length = 7 := by decide +kernel
            walk_at "go"
            refine ⟨_, rfl, log_small (by omega) (by omega), ?_⟩
            refine g_addS (by omega) ?_
            walk_at "go"
            refine g_addS (by simp only [len_cat]; omega) ?_
            walk_at "go"
            refine ⟨_, rfl, log_small (by omega) (by omega), ?_⟩
            refine g_addS (by simp only [len_cat]; omega) ?_
            refine g_kLcE hD14 (lt1000 (by rw [List.length_map, List.length_map, List.length_range]; omega)) fun H15 e15 h15 => ⟨Exb.ex nD e14 e15, ?_⟩
            rw [h15, List.range_succ, List.map_append, List.map_append]
            refine congrArg (fun z => some (HO.lst (_ ++ [V.str z]))) ?_
            dsimp only
            rw [← line_cat, em_cat]
            rfl
          · obtain ⟨e14, hD14⟩ := hP
            rw [Int.toNat_natCast] at hD14
            have RI14 := RI8.ex e14
            have hc14 := e14 _ _ hc8
            walk_at "go"
            refine g_join (SqL.of hD14) ?_ ?_
            · have h3 : ("\n" : PySem.Str).length = 1 := by decide +kernel
              have hle : ∀ x ∈ ((List.range ds.length).map fun k => SX.S (lineL (ds.getD k 0) (hs.getD k 0))).map (·.length), x ≤ 110 := fun x hx => by
                rw [List.map_map] at hx
                obtain ⟨k, hk, rfl⟩ := List.mem_map.mp hx
                have hk := List.mem_range.mp hk
                have ra := O.dd _ (getD_mem hk)
                have rb := O.hh _ (getD_mem (ds := hs) (j := k) (by rw [O.len]; exact hk))
                have := line_len (num_ok (i := ds.getD k 0) (by omega) (by omega)) (num_ok (i := hs.getD k 0) (by omega) (by omega))
                show (SX.S (lineL (ds.getD k 0) (hs.getD k 0))).length ≤ 110
                rw [SX.S_len]
                omega
              have := nsum_le hle
              rw [List.length_map, List.length_map, List.length_range] at this
              rw [List.length_map, List.length_range, h3]
              omega
            have etx : Txt.join "\n" ((List.range ds.length).map fun k => SX.S (lineL (ds.getD k 0) (hs.getD k 0))) = txtR ds hs := by
              unfold txtR linesL
              rw [List.map_map]
              rfl
            rw [etx]
            have T14 := T8.ext e14
            have D14 := D8.ex e14
            clear hD14 nD e14 T8 D8 RI8 sa8 sb8 hc8
            walk_at "go"
            refine ⟨r, a, b, ds, hs, rfl, RI14, fun H15 e15 => ?_⟩
            have RI15 := RI14.ex e15
            walk_at "go"
            refine ⟨r, a, b, ds, hs, rfl, RI15, fun H16 e16 => ?_⟩
            walk_at "go"
            refine ⟨codeR ds hs, rfl, by rw [code_len]; omega, codeR_b8 O, fun l17 H17 n17 e17 h17 => ?_⟩
            walk_at "go"
            rename_i L1 H18 n18 e18 h18 L2 H19 n19 e19 h19
            have e1419 := (((e15.trans e16).trans e17).trans e18).trans e19
            have hc19 := e1419 _ _ hc14
            have h17' := (e18.trans e19) _ _ h17
            have hlk : Lk K H19 4 (.ref L1) (.ref L2) := .lst (SqL.of (e19 _ _ h18)) (SqL.of h19) rfl (show 2 ≤ 10000 by decide) fun i x y hx hy => by
              rcases i with _ | _ | i
              · cases hx
                cases hy
                exact .leaf (.str _)
              · cases hx
                cases hy
                exact Lk.intsL (SqL.of h17') (SqL.of hc19) (by rw [code_len]; omega)
              · cases hx
            refine ⟨_, _, rfl, hlk, fun H20 e20 => ?_⟩
            have e1420 := e1419.trans e20
            have RI20 := RI14.ex e1420
            have hc20 := e20 _ _ hc19
            have T20 := T14.ext e1420
            have D20 := D14.ex e1420
            clear hlk h17' h19 h18 h17 n18 n19 n17 e15 e16 e17 e18 e19 e1419 e20 RI15 hc19 RI14 hc14 T14 D14
            walk_at "go"
            refine ⟨ds, hs, rfl, O, fun r2 a2 b2 H21 nr2 e21 RI2 => ?_⟩
            have RI21 := RI20.ex e21
            have hc21 := e21 _ _ hc20
            walk_at "go"
            refine g_neRing RI2 RI21 ?_
            walk_at "go"
            refine ⟨c, codeR ds hs, rfl, SqL.of hc21, by rw [code_len]; omega, codeR_b8 O, fun H22 e22 => ?_⟩
            walk_at "go"
            refine ⟨ds, hs, rfl, O, fun r3 a3 b3 H23 nr3 e23 RI3 => ?_⟩
            have RI23 := RI21.ex (e22.trans e23)
            walk_at "go"
            refine g_neRing RI3 RI23 ?_
            have T23 := T20.ext ((e21.trans e22).trans e23)
            have D23 := D20.ex ((e21.trans e22).trans e23)
            clear e1420 RI20 hc20 T20 D20 e21 RI2 RI21 hc21 e22 e23 RI3 nr2 nr3
            walk_at "go"
            rename_i l24 H24 n24 e24 h24 k24 H25 k0 k1 e25 D25
            have hl24 : l24 ≠ d := by
              obtain ⟨_, hd⟩ := D23.lst
              exact Ne.symm (ne_of_none hd n24)
            have h25 := e25 _ _ hl24 h24
            have hfar : ∃ far, atI [V.int 8, .int 100] k24 = some (.int far) ∧ 8 ≤ far ∧ far ≤ 100 := by
              have : k24 = 0 ∨ k24 = 1 := by omega
              rcases this with rfl | rfl
              · exact ⟨8, rfl, by decide, by decide⟩
              · exact ⟨100, rfl, by decide, by decide⟩
            obtain ⟨far, hfar, f1, f2⟩ := hfar
            refine g_ixL (SqL.of h25) hfar ?_
            have T25 := tabs_exD e25 (D23.ex e24) (T23.ext e24)
            have RI25 := (RI23.ex e24).exD e25 (D23.ex e24)
            walk_at "go"
            rename_i cn H26 c0 c1 e26 D26
            have T26 := tabs_exD e26 D25 T25
            have RI26 := RI25.exD e26 D25
            obtain ⟨m, hm⟩ : ∃ m : Nat, 1 + cn = (m : Int) := ⟨(1 + cn).toNat, by omega⟩
            rw [hm]
            have hm1 : 1 ≤ m := by omega
            have hm2 : m ≤ 100 := by omega
            clear e24 h24 n24 e25 D25 h25 T25 RI25 T23 D23 RI23 e26 hfar k0 k1 c0 c1
            refine ⟨r, a, b, ds, hs, m, rfl, RI26, hm1, hm2, fun H27 e27 => ?_⟩
            have RI27 := RI26.ex e27
            have sa27 := RI27.sp
            have sb27 := RI27.hp
            walk_at "go"
            refine ⟨a, b, ds, hs, m, rfl, sa27, sb27, O, hm1, hm2, fun H28 e28 => ?_⟩
            refine g_neS rfl ?_
            rw [show decide (V.str (chartT ds hs m) = V.str (chartT ds hs m)) = true from decide_eq_true rfl]
            have RI28 := RI27.ex e28
            have T28 := T26.ext (e27.trans e28)
            have D28 := D26.ex (e27.trans e28)
            clear e27 e28 sa27 sb27 RI27 RI26 T26 D26
            walk_at "go"
            rename_i q29 H29 n29 e29 h29
            refine g_kForT (SqT.of h29) (fun i σ H' => ∃ v2 v3 v4 v6 v7 v8 v9 v10 v11 v12 : Option V, σ = [some (.ref sc), some (.ref d), v2, v3, v4, some (.ref r), v6, v7, v8, v9, v10, v11, v12] ∧ RingIn K C H' r a b ds hs ∧ DiceAt K H' d ∧ Tabs (lamTs K) H' ∧ SqT K H' q29 [.int 0, .int 101, .int (0 - 1), .non, .bl true])
              ⟨_, _, _, _, _, _, _, _, _, _, rfl, RI28.ex e29, D28.ex e29, T28.ext e29, SqT.of h29⟩ (fun i σ H' _ hP => by
                obtain ⟨_, _, _, _, _, _, _, _, _, _, _, _, _, _, h⟩ := hP
                exact h) ?_ ?_
            · rintro i x σ H30 hx ⟨v2, v3, v4, v6, v7, v8, v9, v10, v11, v12, rfl, RI30, D30, T30, hq30⟩
              have hb : (∀ H', Pl K H' x) ∧ inB 1 100 x = false := by
                rcases i with _ | _ | _ | _ | _ | i
                · cases hx; exact ⟨fun _ => .int _, by decide⟩
                · cases hx; exact ⟨fun _ => .int _, by decide⟩
                · cases hx; exact ⟨fun _ => .int _, by decide⟩
                · cases hx; exact ⟨fun _ => .non, rfl⟩
                · cases hx; exact ⟨fun _ => .bl _, rfl⟩
                · cases hx
              walk_at "go"
              refine g_toldL T30 fun H31 e31 T31 => ?_
              unfold TRaiseQ
              walk_at "go"
              refine ⟨r, x, rfl, hb.1 _, hb.2, He.ga K "InvalidNumber", 6, rfl, rfl, Exq_InvalidNumber, by decide, by decide, fun pe H32 n32 e32 hp32 => ?_⟩
              have hp32 : H32 pe = some (.tup [.str "number"]) := hp32
              walk_at "go"
              rename_i p33 H33 n33 e33 h33
              refine g_neW1 (x := "number") (by decide +kernel) (SqT.of (e33 _ _ hp32)) (SqT.of h33) ?_
              walk_at "go"
              have e3133 := e32.trans e33
              exact ⟨_, _, _, _, _, _, _, _, _, _, rfl, (RI30.exn e31).ex e3133, (D30.exn e31).ex e3133, T31.ext e3133, ex_t e3133 (exn_t e31 hq30)⟩
            · rintro σ H30 ⟨v2, v3, v4, v6, v7, v8, v9, v10, v11, v12, rfl, RI30, D30, T30, hq30⟩
              walk_at "go"
              exact ⟨_, _, _, _, _, _, _, _, _, _, _, rfl, D30, T30⟩
    · rintro σ H2 ⟨v2, v3, v4, v5, v6, v7, v8, v9, v10, v11, v12, rfl, D2, T2⟩
      walk_at "go"
      rename_i l3 H3 n3 e3 h3 l4 H4 n4 e4 h4 l5 H5 n5 e5 h5 l6 H6 n6 e6 h6 t7 H7 n7 e7 h7 q8 H8 n8 e8 h8
      have e78 := e7.trans e8
      have e68 := e6.trans e78
      have e58 := e5.trans e68
      have e48 := e4.trans e58
      refine g_kForT (SqT.of h8) (fun i σ H' => ∃ v2 v3 v4 v5 v6 v7 v8 v9 v10 v11 v12 : Option V, σ = [some (.ref sc), some (.ref d), v2, v3, v4, v5, v6, v7, v8, v9, v10, v11, v12] ∧ Tabs (lamTs K) H' ∧ SqT K H' q8 [.ref l3, .ref l4, .ref l5, .ref l6, .ref t7, .int 5] ∧
          H' l3 = some (.lst [.int 256]) ∧ H' l4 = some (.lst [.int (0 - 1)]) ∧ H' l5 = some (.lst [.bl true]) ∧ H' l6 = some (.lst [.non]) ∧ SqT K H' t7 [.int 1])
        ⟨_, _, _, _, _, _, _, _, _, _, _, rfl, T2.ext (e3.trans e48), SqT.of h8, e48 _ _ h3, e58 _ _ h4, e68 _ _ h5, e78 _ _ h6, SqT.of (e8 _ _ h7)⟩ (fun i σ H' _ hP => by
          obtain ⟨_, _, _, _, _, _, _, _, _, _, _, _, _, h, _⟩ := hP
          exact h) ?_ ?_
      · rintro i x σ H9 hx ⟨v2, v3, v4, v5, v6, v7, v8, v9, v10, v11, v12, rfl, T9, hq9, g3, g4, g5, g6, g7⟩
        walk_at "go"
        refine g_toldL T9 fun H10 e10 T10 => ?_
        have i3 := exn_lst e10 g3
        have i4 := exn_lst e10 g4
        have i5 := exn_lst e10 g5
        have i6 := exn_lst e10 g6
        have i7 := exn_t e10 g7
        have hb : BadPack K H10 x := by
          rcases i with _ | _ | _ | _ | _ | _ | i
          · cases hx; exact .inl ⟨l3, _, rfl, SqL.of i3, fun _ => .int _, by decide⟩
          · cases hx; exact .inl ⟨l4, _, rfl, SqL.of i4, fun _ => .int _, by decide⟩
          · cases hx; exact .inl ⟨l5, _, rfl, SqL.of i5, fun _ => .bl _, rfl⟩
          · cases hx; exact .inl ⟨l6, _, rfl, SqL.of i6, fun _ => .non, rfl⟩
          · cases hx; exact .inr ⟨_, sqT_ty i7, kit_ty (by decide +kernel)⟩
          · cases hx; exact .inr ⟨.type "int", .base (.int 5), kit_ty (by decide +kernel)⟩
          · cases hx
        unfold TRaiseQ
        walk_at "go"
        refine ⟨x, rfl, hb, fun H11 e11 => ⟨He.ga K "InvalidCount", 10, rfl, rfl, Exq_InvalidCount, by decide, by decide, fun pe H12 n12 e12 hp12 => ?_⟩⟩
        have hp12 : H12 pe = some (.tup [.str "count"]) := hp12
        walk_at "go"
        rename_i p13 H13 n13 e13 h13
        refine g_neW1 (x := "count") (by decide +kernel) (SqT.of (e13 _ _ hp12)) (SqT.of h13) ?_
        walk_at "go"
        have e1 := (e11.trans e12).trans e13
        exact ⟨_, _, _, _, _, _, _, _, _, _, _, rfl, T10.ext e1, ex_t e1 (exn_t e10 hq9), e1 _ _ i3, e1 _ _ i4, e1 _ _ i5, e1 _ _ i6, ex_t e1 i7⟩
      · rintro σ H9 ⟨v2, v3, v4, v5, v6, v7, v8, v9, v10, v11, v12, rfl, T9, _⟩
        walk_at "go"
        exact q _
end
end G48

namespace G48
open PySem PySem.Spec PyProof.Rows L2 Evl
theorem facts {P : Program} {w : World} {K : PySem.W.Frag} {h : Heap} {mg : Str → Option Value} {f : Addr} (X : K.In h) (G : h.Ns mainGlobals mg) (hfa : mg ("law" : Str) = some (.ref f)) (c0 : SaysL fasL fnL h K) :
    ∃ fd : FuncData, (∀ (s : Shared) (v : Value), BindsTo s fd ⟨[v], []⟩ [("_law_script", v)]) ∧ ∀ base : Heap, LamX.TabB base mg (lamC K) (lamT K) → FnOk P w K mg base CX0 13 f fd ["_law_script"] (sp_law K) := by
  have c := c0.1
  obtain ⟨fd, FL⟩ := c.def_ 32 (d := gd "law" s_law)
  have e := hfa.symm.trans (He.glo_ok X G (c.fact 56))
  cases e
  refine ⟨fd, fun s v => FunD.bindsA FL b_law s [v] rfl, fun base TB => ?_⟩
  have Z : Blt mg := ⟨He.free_ok X G (c.fact 0), He.free_ok X G (c.fact 1), He.free_ok X G (c.fact 2), He.free_ok X G (c.fact 3), He.free_ok X G (c.fact 4), He.free_ok X G (c.fact 5), He.free_ok X G (c.fact 6), He.free_ok X G (c.fact 7), He.free_ok X G (c.fact 8), He.free_ok X G (c.fact 9), He.free_ok X G (c.fact 10), He.free_ok X G (c.fact 11), He.free_ok X G (c.fact 12), He.free_ok X G (c.fact 13), He.free_ok X G (c.fact 14), He.free_ok X G (c.fact 15), He.free_ok X G (c.fact 16), He.free_ok X G (c.fact 17), He.free_ok X G (c.fact 18), He.free_ok X G (c.fact 19), He.free_ok X G (c.fact 20), He.free_ok X G (c.fact 21)⟩
  have G_is_integer : GFun K mg "is_integer" s_is_integer := let ⟨fd, F⟩ := c.def_ 0 (d := gd "is_integer" s_is_integer); ⟨_, fd, He.glo_ok X G (c.fact 22), Fun_ofD F⟩
  have G_check_number : GFun K mg "check_number" s_check_number := let ⟨fd, F⟩ := c.def_ 1 (d := gd "check_number" s_check_number); ⟨_, fd, He.glo_ok X G (c.fact 23), Fun_ofD F⟩
  have G_check_days : GFun K mg "check_days" s_check_days := let ⟨fd, F⟩ := c.def_ 2 (d := gd "check_days" s_check_days); ⟨_, fd, He.glo_ok X G (c.fact 24), Fun_ofD F⟩
  have G_check_starts : GFun K mg "check_starts" s_check_starts := let ⟨fd, F⟩ := c.def_ 3 (d := gd "check_starts" s_check_starts); ⟨_, fd, He.glo_ok X G (c.fact 25), Fun_ofD F⟩
  have G_Ring___init__ : IFun K mg "Ring" (He.ga K "Ring") "Ring.__init__" s_Ring___init__ := let ⟨fd, F⟩ := c.def_ 4 (d := md "Ring" "__init__" "Ring.__init__" s_Ring___init__); ⟨_, fd, He.mkr_ok (c.fact 26), He.glo_ok X G (c.fact 27), Fun_ofD F⟩
  have G_Ring_books : PFun K (He.ga K "Ring") "books" "Ring.books" s_Ring_books := let ⟨fd, F⟩ := c.def_ 5 (d := prd "Ring" "books" "Ring.books" s_Ring_books); let ⟨pA, hp⟩ := Gp.pp_ok (c.fact 28); ⟨pA, _, fd, hp, Fun_ofD F⟩
  have G_Ring___len__ : CFun K (He.ga K "Ring") "__len__" "Ring.__len__" s_Ring___len__ := let ⟨fd, F⟩ := c.def_ 6 (d := md "Ring" "__len__" "Ring.__len__" s_Ring___len__); ⟨_, fd, He.meth_ok (c.fact 29), Fun_ofD F⟩
  have G_Ring_need_reader : CFun K (He.ga K "Ring") "need_reader" "Ring.need_reader" s_Ring_need_reader := let ⟨fd, F⟩ := c.def_ 7 (d := md "Ring" "need_reader" "Ring.need_reader" s_Ring_need_reader); ⟨_, fd, He.meth_ok (c.fact 30), Fun_ofD F⟩
  have G__law_taken : GFun K mg "_law_taken" s__law_taken := let ⟨fd, F⟩ := c.def_ 8 (d := gd "_law_taken" s__law_taken); ⟨_, fd, He.glo_ok X G (c.fact 31), Fun_ofD F⟩
  have G__law_pair : GFun K mg "_law_pair" s__law_pair := let ⟨fd, F⟩ := c.def_ 9 (d := gd "_law_pair" s__law_pair); ⟨_, fd, He.glo_ok X G (c.fact 32), Fun_ofD F⟩
  have G_Scene___init__ : IFun K mg "Scene" (He.ga K "Scene") "Scene.__init__" s_Scene___init__ := let ⟨fd, F⟩ := c.def_ 10 (d := md "Scene" "__init__" "Scene.__init__" s_Scene___init__); ⟨_, fd, He.mkr_ok (c.fact 33), He.glo_ok X G (c.fact 34), Fun_ofD F⟩
  have G_Scene_begun : CFun K (He.ga K "Scene") "begun" "Scene.begun" s_Scene_begun := let ⟨fd, F⟩ := c.def_ 11 (d := md "Scene" "begun" "Scene.begun" s_Scene_begun); ⟨_, fd, He.meth_ok (c.fact 35), Fun_ofD F⟩
  have G_Scene_following : CFun K (He.ga K "Scene") "following" "Scene.following" s_Scene_following := let ⟨fd, F⟩ := c.def_ 12 (d := md "Scene" "following" "Scene.following" s_Scene_following); ⟨_, fd, He.meth_ok (c.fact 36), Fun_ofD F⟩
  have G_first_scene : GFun K mg "first_scene" s_first_scene := let ⟨fd, F⟩ := c.def_ 13 (d := gd "first_scene" s_first_scene); ⟨_, fd, He.glo_ok X G (c.fact 37), Fun_ofD F⟩
  have G__law_begun : GFun K mg "_law_begun" s__law_begun := let ⟨fd, F⟩ := c.def_ 14 (d := gd "_law_begun" s__law_begun); ⟨_, fd, He.glo_ok X G (c.fact 38), Fun_ofD F⟩
  have G__law_first : GFun K mg "_law_first" s__law_first := let ⟨fd, F⟩ := c.def_ 15 (d := gd "_law_first" s__law_first); ⟨_, fd, He.glo_ok X G (c.fact 39), Fun_ofD F⟩
  have G__law_next : GFun K mg "_law_next" s__law_next := let ⟨fd, F⟩ := c.def_ 16 (d := gd "_law_next" s__law_next); ⟨_, fd, He.glo_ok X G (c.fact 40), Fun_ofD F⟩
  have G_checksum_of : GFun K mg "checksum_of" s_checksum_of := let ⟨fd, F⟩ := c.def_ 17 (d := gd "checksum_of" s_checksum_of); ⟨_, fd, He.glo_ok X G (c.fact 41), Fun_ofD F⟩
  have G_encode_ring : GFun K mg "encode_ring" s_encode_ring := let ⟨fd, F⟩ := c.def_ 18 (d := gd "encode_ring" s_encode_ring); ⟨_, fd, He.glo_ok X G (c.fact 42), Fun_ofD F⟩
  have G_check_byte : GFun K mg "check_byte" s_check_byte := let ⟨fd, F⟩ := c.def_ 19 (d := gd "check_byte" s_check_byte); ⟨_, fd, He.glo_ok X G (c.fact 43), Fun_ofD F⟩
  have G_decode_ring : GFun K mg "decode_ring" s_decode_ring := let ⟨fd, F⟩ := c.def_ 20 (d := gd "decode_ring" s_decode_ring); ⟨_, fd, He.glo_ok X G (c.fact 44), Fun_ofD F⟩
  have G_is_numeral : GFun K mg "is_numeral" s_is_numeral := let ⟨fd, F⟩ := c.def_ 21 (d := gd "is_numeral" s_is_numeral); ⟨_, fd, He.glo_ok X G (c.fact 45), Fun_ofD F⟩
  have G_numbers_of : GFun K mg "numbers_of" s_numbers_of := let ⟨fd, F⟩ := c.def_ 22 (d := gd "numbers_of" s_numbers_of); ⟨_, fd, He.glo_ok X G (c.fact 46), Fun_ofD F⟩
  have G_format_ring : GFun K mg "format_ring" s_format_ring := let ⟨fd, F⟩ := c.def_ 23 (d := gd "format_ring" s_format_ring); ⟨_, fd, He.glo_ok X G (c.fact 47), Fun_ofD F⟩
  have G_parse_ring : GFun K mg "parse_ring" s_parse_ring := let ⟨fd, F⟩ := c.def_ 24 (d := gd "parse_ring" s_parse_ring); ⟨_, fd, He.glo_ok X G (c.fact 48), Fun_ofD F⟩
  have G_chart : GFun K mg "chart" s_chart := let ⟨fd, F⟩ := c.def_ 25 (d := gd "chart" s_chart); ⟨_, fd, He.glo_ok X G (c.fact 49), Fun_ofD F⟩
  have G__law_chart : GFun K mg "_law_chart" s__law_chart := let ⟨fd, F⟩ := c.def_ 26 (d := gd "_law_chart" s__law_chart); ⟨_, fd, He.glo_ok X G (c.fact 50), Fun_ofD F⟩
  have G__law_alike : GFun K mg "_law_alike" s__law_alike := let ⟨fd, F⟩ := c.def_ 27 (d := gd "_law_alike" s__law_alike); ⟨_, fd, He.glo_ok X G (c.fact 51), Fun_ofD F⟩
  have G__law_raised : GFun K mg "_law_raised" s__law_raised := let ⟨fd, F⟩ := c.def_ 28 (d := gd "_law_raised" s__law_raised); ⟨_, fd, He.glo_ok X G (c.fact 52), Fun_ofD F⟩
  have G_Ring___eq__ : CFun K (He.ga K "Ring") "__eq__" "Ring.__eq__" s_Ring___eq__ := let ⟨fd, F⟩ := c.def_ 29 (d := md "Ring" "__eq__" "Ring.__eq__" s_Ring___eq__); ⟨_, fd, He.meth_ok (c.fact 53), Fun_ofD F⟩
  have G_pack_bytes : GFun K mg "pack_bytes" s_pack_bytes := let ⟨fd, F⟩ := c.def_ 30 (d := gd "pack_bytes" s_pack_bytes); ⟨_, fd, He.glo_ok X G (c.fact 54), Fun_ofD F⟩
  have G_unpack_bytes : GFun K mg "unpack_bytes" s_unpack_bytes := let ⟨fd, F⟩ := c.def_ 31 (d := gd "unpack_bytes" s_unpack_bytes); ⟨_, fd, He.glo_ok X G (c.fact 55), Fun_ofD F⟩
  have R : RingC K (He.ga K "Ring") := ⟨He.cls_ok (c.fact 57), He.noat_ok (c.fact 58), He.noat_ok (c.fact 59), He.noat_ok (c.fact 60)⟩
  have RS : SceneC K (He.ga K "Scene") := ⟨He.cls_ok (c.fact 61), He.noat_ok (c.fact 62), He.noat_ok (c.fact 63), He.noat_ok (c.fact 64), He.noat_ok (c.fact 65), He.noat_ok (c.fact 66)⟩
  have c_MAX_READERS : ∃ t, mg "MAX_READERS" = some (.int 8 t) := He.int_ok X G (c.fact 67)
  have c_MAX_DAYS : ∃ t, mg "MAX_DAYS" = some (.int 30 t) := He.int_ok X G (c.fact 68)
  have c_MAX_BOOKS : ∃ t, mg "MAX_BOOKS" = some (.int 12 t) := He.int_ok X G (c.fact 69)
  have c_CHECKSUM_FACTOR : ∃ t, mg "CHECKSUM_FACTOR" = some (.int 7 t) := He.int_ok X G (c.fact 70)
  have c_CHECKSUM_MODULUS : ∃ t, mg "CHECKSUM_MODULUS" = some (.int 251 t) := He.int_ok X G (c.fact 71)
  have c_FIRST_BYTE : ∃ t, mg "FIRST_BYTE" = some (.int 82 t) := He.int_ok X G (c.fact 72)
  have c_LEAST_READERS : ∃ t, mg "LEAST_READERS" = some (.int 2 t) := He.int_ok X G (c.fact 73)
  have c_MAX_DIGITS : ∃ t, mg "MAX_DIGITS" = some (.int 2 t) := He.int_ok X G (c.fact 74)
  have c_DIGITS : ∃ t, mg "DIGITS" = some (.str "0123456789" t) := He.str_ok X G (c.fact 75)
  have c_READER : ∃ t, mg "READER" = some (.str "reader" t) := He.str_ok X G (c.fact 76)
  have c_WORDS : ∃ t, mg "WORDS" = some (.int 3 t) := He.int_ok X G (c.fact 77)
  have c_MAX_CHARTED : ∃ t, mg "MAX_CHARTED" = some (.int 100 t) := He.int_ok X G (c.fact 78)
  have c_BUSY : ∃ t, mg "BUSY" = some (.str "#" t) := He.str_ok X G (c.fact 79)
  have c_FREE : ∃ t, mg "FREE" = some (.str "." t) := He.str_ok X G (c.fact 80)
  have g_ReadingError : mg "ReadingError" = some (.ref (He.ga K "ReadingError")) := He.glo_ok X G (c.fact 81)
  have g_InvalidOperation : mg "InvalidOperation" = some (.ref (He.ga K "InvalidOperation")) := He.glo_ok X G (c.fact 82)
  have g_InvalidRing : mg "InvalidRing" = some (.ref (He.ga K "InvalidRing")) := He.glo_ok X G (c.fact 83)
  have g_DecodeError : mg "DecodeError" = some (.ref (He.ga K "DecodeError")) := He.glo_ok X G (c.fact 84)
  have g_NotationError : mg "NotationError" = some (.ref (He.ga K "NotationError")) := He.glo_ok X G (c.fact 85)
  have g_BeingRead : mg "BeingRead" = some (.ref (He.ga K "BeingRead")) := He.glo_ok X G (c.fact 86)
  have g_DiaryError : mg "DiaryError" = some (.ref (He.ga K "DiaryError")) := He.glo_ok X G (c.fact 87)
  have g_InvalidNumber : mg "InvalidNumber" = some (.ref (He.ga K "InvalidNumber")) := He.glo_ok X G (c.fact 88)
  have g_UnknownReader : mg "UnknownReader" = some (.ref (He.ga K "UnknownReader")) := He.glo_ok X G (c.fact 89)
  have g_UnknownBook : mg "UnknownBook" = some (.ref (He.ga K "UnknownBook")) := He.glo_ok X G (c.fact 90)
  have g_Contradiction : mg "Contradiction" = some (.ref (He.ga K "Contradiction")) := He.glo_ok X G (c.fact 91)
  have g_InvalidCount : mg "InvalidCount" = some (.ref (He.ga K "InvalidCount")) := He.glo_ok X G (c.fact 92)
  have Isi_Ring : IsiC K (He.ga K "Ring") := isi_ok (c.fact 93)
  have g_Ring : mg "Ring" = some (.ref (He.ga K "Ring")) := He.glo_ok X G (c.fact 27)
  have Exq_InvalidNumber : ExcQ K (He.ga K "InvalidNumber") 6 := excQ_ok (c.fact 94)
  have c_BYTE : ∃ t, mg "BYTE" = some (.int 256 t) := He.int_ok X G (c.fact 95)
  have Exq_InvalidCount : ExcQ K (He.ga K "InvalidCount") 10 := excQ_ok (c.fact 96)
  have neq_Ring : PySem.W.findIn K (.ref (He.ga K "Ring")) "__ne__" = some (some (.builtin "object.__ne__")) := of_decide_eq_true (c.fact 97)
  have neo_Ring : PySem.W.subIn K (.ref (He.ga K "Ring")) (.type "object") = some true := of_decide_eq_true (c.fact 98)
  have D_is_integer := ok_is_integer (P := P) (w := w) (base := base) Z G_is_integer
  have D_check_number := ok_check_number (P := P) (w := w) (base := base) Z D_is_integer G_check_number
  have D_check_days := ok_check_days (P := P) (w := w) (base := base) Z c_MAX_READERS c_MAX_DAYS D_is_integer G_check_days
  have D_check_starts := ok_check_starts (P := P) (w := w) (base := base) Z c_MAX_BOOKS D_is_integer G_check_starts
  have I_Ring := ok_Ring_init (P := P) (w := w) (base := base) (C := He.ga K "Ring") Z R D_check_days D_check_starts G_Ring___init__
  have Q_Ring_books := ok_Ring_books (P := P) (w := w) (base := base) (C := He.ga K "Ring") Z R G_Ring_books
  have M_Ring___len__ := ok_Ring_len (P := P) (w := w) (base := base) (C := He.ga K "Ring") Z R G_Ring___len__
  have M_Ring_need_reader := ok_Ring_need (P := P) (w := w) (base := base) (C := He.ga K "Ring") Z R D_is_integer G_Ring_need_reader
  have D__law_taken := ok_taken (P := P) (w := w) (base := base) Z G__law_taken
  have D__law_pair := ok_pair (P := P) (w := w) (base := base) Z D__law_taken G__law_pair
  have I_Scene := ok_Scene_init (P := P) (w := w) (base := base) (SC := He.ga K "Scene") Z RS G_Scene___init__
  have M_Scene_begun := ok_begun (P := P) (w := w) (base := base) (SC := He.ga K "Scene") Z RS I_Scene G_Scene_begun
  have M_Scene_following := ok_following (P := P) (w := w) (base := base) (SC := He.ga K "Scene") Z RS I_Scene M_Scene_begun G_Scene_following
  have D_first_scene := ok_first_scene (P := P) (w := w) (base := base) (C := He.ga K "Ring") (SC := He.ga K "Scene") Z R RS I_Scene M_Scene_begun M_Ring___len__ G_first_scene
  have D__law_begun := ok_mbegun (P := P) (w := w) (base := base) Z G__law_begun
  have D__law_first := ok_mfirst (P := P) (w := w) (base := base) Z D__law_begun G__law_first
  have D__law_next := ok_mnext (P := P) (w := w) (base := base) Z D__law_begun G__law_next
  have D_checksum_of := ok_checksum (P := P) (w := w) (base := base) Z c_CHECKSUM_FACTOR c_CHECKSUM_MODULUS G_checksum_of
  have D_encode_ring := ok_encode (P := P) (w := w) (base := base) (C := He.ga K "Ring") Z R c_FIRST_BYTE D_checksum_of M_Ring___len__ G_encode_ring
  have D_check_byte := ok_check_byte (P := P) (w := w) (base := base) Z G_check_byte
  have D_decode_ring := ok_decode (P := P) (w := w) (base := base) (C := He.ga K "Ring") Z R c_FIRST_BYTE c_LEAST_READERS c_MAX_READERS c_MAX_DAYS c_MAX_BOOKS D_check_byte D_checksum_of I_Ring G_decode_ring
  have D_is_numeral := ok_is_numeral (P := P) (w := w) (base := base) Z c_MAX_DIGITS c_DIGITS G_is_numeral
  have D_numbers_of := ok_numbers_of (P := P) (w := w) (base := base) Z c_READER c_WORDS D_is_numeral G_numbers_of
  have D_format_ring := ok_format_ring (P := P) (w := w) (base := base) (C := He.ga K "Ring") Z R c_READER G_format_ring
  have D_parse_ring := ok_parse_ring (P := P) (w := w) (base := base) (C := He.ga K "Ring") Z R D_numbers_of I_Ring G_parse_ring
  have D_chart := ok_chart (P := P) (w := w) (base := base) (C := He.ga K "Ring") (SC := He.ga K "Scene") Z R RS c_MAX_CHARTED c_BUSY c_FREE D_is_integer D_first_scene M_Ring___len__ M_Scene_following G_chart
  have D__law_chart := ok_mchart (P := P) (w := w) (base := base) Z D__law_first D__law_next G__law_chart
  have D__law_alike := ok_alike (P := P) (w := w) (base := base) Z G__law_alike
  have T__law_raised := ok_raisedQ (P := P) (w := w) (base := base) Z g_ReadingError g_InvalidOperation g_InvalidRing g_DecodeError g_NotationError g_BeingRead g_DiaryError g_InvalidNumber g_UnknownReader g_UnknownBook g_Contradiction g_InvalidCount
  have M_Ring___eq__ := ok_Ring_eq (P := P) (w := w) (base := base) (C := He.ga K "Ring") Z R Isi_Ring g_Ring G_Ring___eq__
  have DX_chart := okx_chart (P := P) (w := w) (base := base) Z c_MAX_CHARTED Exq_InvalidNumber g_InvalidNumber D_is_integer G_chart
  have D_pack_bytes := ok_pack (P := P) (w := w) (base := base) Z c_BYTE D_is_integer G_pack_bytes
  have DX_pack_bytes := okx_pack (P := P) (w := w) (base := base) Z c_BYTE Exq_InvalidCount g_InvalidCount D_is_integer G_pack_bytes
  have D_unpack_bytes := ok_unpack (P := P) (w := w) (base := base) Z G_unpack_bytes
  exact fn_lam (st := s_law) (Fun_ofD FL) sc_law (fun vs H Q E h => sp_law_len h) (bd_law (P := P) (w := w) (base := base) Z R Exq_InvalidNumber Exq_InvalidCount G__law_raised T__law_raised D__law_taken D__law_pair I_Ring D_format_ring D_parse_ring D_encode_ring D_decode_ring D_unpack_bytes D_pack_bytes DX_pack_bytes D_chart DX_chart D__law_chart D__law_alike neq_Ring neo_Ring M_Ring___eq__) TB
end G48
open PySem PySem.W PySem.Calls PyProof.Rows
theorem PySem.Challenge.cw_readingring_k45_text_and_bytes_holds : PySem.Challenge.rw_readingring_k45_text_and_bytes.Holds := by
  w_on; o_law
  refine HandSHeadRun.head_any (r := OpenLaw.row PySem.Challenge.rw_readingring_k45_text_and_bytes) (q := view (OpenLaw.row PySem.Challenge.rw_readingring_k45_text_and_bytes).prog [62]) (H := G48.hk) (ob := G48.ob) (M := 40000) (loose := G48.loose) (d := HandSHeadRun.topDef (OpenLaw.row PySem.Challenge.rw_readingring_k45_text_and_bytes).prog 62) (kwd := []) G48.ob_eq
    (by kernel_rfl) (fun s => by kernel_rfl) G48.run (by kernel_rfl) (by kernel_rfl) (by kernel_rfl) (by rfl) (by first | assumption | decide +kernel) (by decide +kernel) ⟨rfl, rfl, rfl, rfl, rfl, by decide +kernel⟩ ?hw ?hc
  case hw => w_witness2
  case hc =>
    refine G48.walk_lam (l := PySem.Challenge.rw_readingring_k45_text_and_bytes) (n := 63) (k := 13) (x := "_law_script") rfl (by decide) (by kernel_rfl) ⟨rfl, by decide, by decide⟩ ?F
    intro w mg fa h Y G hmg0
    obtain ⟨K, KX, c⟩ := Y
    have hmg : mg ("law" : PySem.Str) = some (.ref fa) := by
      have e : (HandSHeadRun.topDef (OpenLaw.row PySem.Challenge.rw_readingring_k45_text_and_bytes).prog 62).name = ("law" : PySem.Str) := by kernel_rfl
      rw [← e]
      exact hmg0
    obtain ⟨fd, hb, hF⟩ := G48.facts (P := (PySem.Challenge.rw_readingring_k45_text_and_bytes).prog) (w := w) KX G hmg c
    exact ⟨K, KX, fd, G48.lamC K, G48.lamT K, G48.sp_law K, c.2.2.2, c.2.2.1, PySem.W.codeHd_of_K KX c.2.1, hb, fun H a ns hl hT hS => ⟨a, ns, rfl, hS, hl, hT, fun _ => rfl⟩, fun base _ _ TB => hF base TB⟩
