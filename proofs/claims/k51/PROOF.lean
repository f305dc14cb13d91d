import PyProof.Rows.All
import Wide.All
import OpenK.AllK
import Wide.FinOn
import HandS.ForMost
import HandS.ForExc
import HandS.Evl
import HandS.Property
import HandS.IsInst
import HandS.TupAny
import HandS.Flow
import HandS.Zip
import HandS.Conv
import HandS.Defaults
import HandS.Head0
import HandS.Head1
import HandS.Head2
import HandS.HeadEnd
import HandS.HeadHook1
import HandS.HeadHook2
import HandS.HeadNt
import HandS.TupMul
import HandS.TupLe
import HandS.Strs
import HandS.Walk
import KE.GoesEnum
import KE.GoesMore
import KE.DatumOrd
import HandS.Deep
import HandS.OwnEq
import KE.KTupSum
import PyProof.RulesMatchSeq
import PyProof.Rows.MatchSeqLen
import KE.KDflt
import HandS.Lambda
import HandS.ExcIs
import HandS.ExcOwn
import HandS.WordsExc
import HandS.EndTab
import HandS.HeadHook4
import HandS.ExcInit
import HandS.ExcField
import HandS.FStr
import KE.KExcIs
import KE.KOpsOwn
import HandS.ClsMeth
import HandS.SetBool
import HandS.SetFor
import HandS.DictComp
import HandS.WordsDict
import HandS.Iter
import KE.GoesNew
import HandS.Style
import HandS.More
import HandS.Text
import HandS.Codes
import HandS.GenList
import PyProof.GenComp
import PyProof.GenQ
import PyProof.EnumMake
import PyProof.Draws
import HandS.Star
import PySem.Challenge.RW_readingring_k51_whole_diaries
set_option Elab.async false
set_option linter.all false
set_option maxRecDepth 100000
set_option maxHeartbeats 2000000
/-! a Hook whose facts are any Bools of the part of the heap -/
namespace Gp
open PySem PySem.W PySem.Spec PyProof.Rows He5
abbrev FB : Type := Frag → Bool
def obsP (fas : List FB) (fn : List DefA) (K : Frag) : He.AlD := ((fas.all fun f => f K) && fn.all fun d => d.ok K, fn.map fun d => fnA K (d.at_ K))
def SaysP (fas : List FB) (fn : List DefA) (K : Frag) : Prop := obsP fas fn K = valA fn
def obsPG (n : Nat) (fas : List FB) (fn : List DefA) (g : Addr → Option Obj) : He.AlD := obsP fas fn (He.frG g (asA g n))
def hookP (n : Nat) (fas : List FB) (fn : List DefA) : Hook where
  α := He.AlD
  obs := fun s => obsPG n fas fn s.heap.get?
  val := fun _ => valA fn
  says := fun _ h => ∃ K : Frag, K.In h ∧ SaysP fas fn K
  of := fun _ _ e => ⟨_, He.frG_in, e⟩
  keeps := fun _ _ _ ⟨K, hK, c⟩ k => ⟨K, Frag.In.keeps hK k, c⟩
theorem obsPG_eq {n : Nat} {fas : List FB} {fn : List DefA} {g : Addr → Option Obj} {s : Shared} (h : ∀ a, g a = s.heap.get? a) : obsPG n fas fn g = (hookP n fas fn).obs s := by
  have e : g = s.heap.get? := funext h
  rw [e] <;> rfl
section
variable {fas : List FB} {fn : List DefA} {K : Frag}
theorem SaysP.fact (c : SaysP fas fn K) (i : Nat) {f : FB} (h : fas[i]? = some f := by rfl) : f K = true := by
  have c1 := (He.ba (show ((fas.all fun f => f K) && fn.all fun d => d.ok K) = true from congrArg (fun z : He.AlD => z.1) c)).1
  exact List.all_eq_true.mp c1 f (List.mem_of_getElem? h)
theorem SaysP.def_ (c : SaysP fas fn K) (i : Nat) {d : DefA} (h : fn[i]? = some d := by rfl) : ∃ fd, L2.FunD K d.name d.qual d.params d.body d.scope (d.dvs K) (d.kws K) (d.at_ K) fd := by
  have c2 := (He.ba (show ((fas.all fun f => f K) && fn.all fun d => d.ok K) = true from congrArg (fun z : He.AlD => z.1) c)).2
  have e : fn.map (fun d => fnA K (d.at_ K)) = fn.map DefA.val := congrArg (fun z : He.AlD => z.2) c
  have e2 : (fn.map fun d => fnA K (d.at_ K))[i]? = (fn.map DefA.val)[i]? := by rw [e]
  rw [List.getElem?_map, List.getElem?_map, h] at e2
  exact DefA.funD (Option.some.inj e2) (List.all_eq_true.mp c2 d (List.mem_of_getElem? h))
end
/-- a property's getter -/
def pga (K : Frag) (C : Addr) (m : PySem.Str) : Addr := match findIn K (.ref C) m with
  | some (some (.ref p)) => (match recIn K p "property" with
    | some (.ref g :: _) => g
    | _ => 0)
  | _ => 0
def ppB (K : Frag) (C : Addr) (m : PySem.Str) : Bool := match findIn K (.ref C) m with
  | some (some (.ref p)) => decide (specialIn K (.ref p) "__get__" = some (some (.builtin "property.__get__"))) && (decide (takesIn K (.ref p) = some true) && (match recIn K p "property" with
    | some (.ref _ :: _) => true
    | _ => false))
  | _ => false
theorem pp_ok {K : Frag} {C : Addr} {m : PySem.Str} (h : ppB K C m = true) : ∃ p, L2.PropOf K C m p (pga K C m) := by
  unfold ppB at h
  unfold pga
  split at h
  · rename_i p hp
    obtain ⟨h1, h2⟩ := He.ba h
    obtain ⟨h2, h3⟩ := He.ba h2
    split at h3
    · rename_i g rest hr
      refine ⟨p, hp, of_decide_eq_true h1, of_decide_eq_true h2, rest, ?_⟩
      exact hr
    · cases h3
  · cases h
end Gp
theorem Fun_ofD {K : PySem.W.Frag} {x q : PySem.Str} {st : PySem.Stmt} {f : PySem.Addr} {fd : PySem.FuncData} (F : L2.FunD K x q (L2.defArgs st) (L2.defBody st) (L2.defScope st) [] [] f fd) : L2.Fun K x q st f fd := by
  obtain ⟨oc, od, dV, kV, doc, pm, an, cdv, ct, osl, rfl, lk, hcd, hD, hK⟩ := F.ex
  rcases hD with ⟨_, rfl⟩ | ⟨e, _⟩
  · exact ⟨⟨oc, od, kV, doc, pm, an, cdv, ct, osl, rfl, lk, hcd⟩, F.kp⟩
  · exact absurd rfl e
namespace G48
open PySem PySem.Spec PyProof.Rows L2 Evl
/-! ### the built-ins that stand -/
structure Blt (mg : Str → Option Value) : Prop where
  zlen : mg "len" = none
  zisinstance : mg "isinstance" = none
  zint : mg "int" = none
  zbool : mg "bool" = none
  ztuple : mg "tuple" = none
  zlist : mg "list" = none
  zmax : mg "max" = none
  zmin : mg "min" = none
  zsum : mg "sum" = none
  zrange : mg "range" = none
  zenumerate : mg "enumerate" = none
  zzip : mg "zip" = none
  zall : mg "all" = none
  zany : mg "any" = none
  zsorted : mg "sorted" = none
  zstr : mg "str" = none
  zset : mg "set" = none
  zabs : mg "abs" = none
  zdivmod : mg "divmod" = none
  zbytes : mg "bytes" = none
  zdict : mg "dict" = none
  zValueError : mg "ValueError" = none

/-! ### defs that stand, and defs that keep a promise -/
structure GFun (K : PySem.W.Frag) (mg : Str → Option Value) (x : Str) (st : Stmt) : Prop where
  ex : ∃ f fd, mg x = some (.ref f) ∧ Fun K x x st f fd
structure CFun (K : PySem.W.Frag) (C : Addr) (m q : Str) (st : Stmt) : Prop where
  ex : ∃ f fd, Meth K C m f ∧ Fun K m q st f fd
structure PFun (K : PySem.W.Frag) (C : Addr) (m q : Str) (st : Stmt) : Prop where
  ex : ∃ p f fd, PropOf K C m p f ∧ Fun K m q st f fd
structure IFun (K : PySem.W.Frag) (mg : Str → Option Value) (x : Str) (C : Addr) (q : Str) (st : Stmt) : Prop where
  ex : ∃ f fd, Mk K C f ∧ mg x = some (.ref C) ∧ Fun K "__init__" q st f fd

section
variable (P : Program) (w : World) (K : PySem.W.Frag) (mg : Str → Option Value) (base : Heap)
structure Df (k : Nat) (x : Str) (ps : List Str) (sp : Sp) : Prop where
  ex : ∃ f fd, mg x = some (.ref f) ∧ PySem.W.keepIn K (.ref f) = true ∧ Binds K fd ps [] ∧ FnOk P w K mg base (L2.CX P w) k f fd ps sp
structure Mf (C : Addr) (k : Nat) (m : Str) (ps : List Str) (sp : Sp) : Prop where
  ex : ∃ f fd, Meth K C m f ∧ Binds K fd ps [] ∧ FnOk P w K mg base (L2.CX P w) k f fd ps sp
structure Pf (C : Addr) (k : Nat) (m : Str) (ps : List Str) (sp : Sp) : Prop where
  ex : ∃ p f fd, PropOf K C m p f ∧ Binds K fd ps [] ∧ FnOk P w K mg base (L2.CX P w) k f fd ps sp
structure If (x : Str) (C : Addr) (k : Nat) (ps : List Str) (sp : Sp) : Prop where
  ex : ∃ f fd, Mk K C f ∧ mg x = some (.ref C) ∧ Binds K fd ps [] ∧ FnOk P w K mg base (L2.CX P w) k f fd ps sp
end

section
variable {P : Program} {w : World} {K : PySem.W.Frag} {mg : Str → Option Value} {base : Heap}
/-- the body's question -/
abbrev Body (P : Program) (w : World) (K : PySem.W.Frag) (mg : Str → Option Value) (base : Heap) (qual : Str) (N : List Str) (st : Stmt) (f : Addr) (k : Nat) (sp : Sp) : Prop :=
  ∀ (cdv : Value) (A : Around) (outer : List Env) (s : Shared) (H : Hp) (vs : List V) (Q : VK) (E : XK), Room k (A.deeper (envOfC qual (defScope st) s.heap.objs.size f cdv)) → sp vs H Q E →
      ∃ t, PSs (cxOf (L2.CX P w) P w K mg base N qual (defScope st) f cdv A outer s H E) (defBody st) t ∧ t { nx := fun _ H' => Q .non H', rt := Q } (start N vs) H
abbrev BindL (q x : Str) (st : Stmt) (ps : List Str) : Prop := ∀ (kV doc pm : Value) (an : Option Addr) (cdv ct : Value) (us : List Value), us.length = ps.length → bindArgs (PySem.W.fnOf x q (defArgs st) (defBody st) (defScope st) .none kV doc pm an cdv ct) ⟨us, []⟩ = pure (ps.zip us)
theorem Df.of {x : Str} {st : Stmt} {N ps : List Str} {k : Nat} {sp : Sp} (G : GFun K mg x st) (S : FnScope N ps (defScope st)) (hb : BindL x x st ps)
    (len : ∀ vs H Q E, sp vs H Q E → vs.length = ps.length) (body : ∀ f, Body P w K mg base x N st f k sp) : Df P w K mg base (k + 1) x ps sp := by
  obtain ⟨f, fd, hg, F⟩ := G.ex
  exact ⟨f, fd, hg, F.kp, F.binds hb, F.okX S len (body f)⟩
theorem Mf.of {C : Addr} {m q : Str} {st : Stmt} {N ps : List Str} {k : Nat} {sp : Sp} (G : CFun K C m q st) (S : FnScope N ps (defScope st)) (hb : BindL q m st ps)
    (len : ∀ vs H Q E, sp vs H Q E → vs.length = ps.length) (body : ∀ f, Body P w K mg base q N st f k sp) : Mf P w K mg base C (k + 1) m ps sp := by
  obtain ⟨f, fd, hg, F⟩ := G.ex
  exact ⟨f, fd, hg, F.binds hb, F.okX S len (body f)⟩
theorem Pf.of {C : Addr} {m q : Str} {st : Stmt} {N ps : List Str} {k : Nat} {sp : Sp} (G : PFun K C m q st) (S : FnScope N ps (defScope st)) (hb : BindL q m st ps)
    (len : ∀ vs H Q E, sp vs H Q E → vs.length = ps.length) (body : ∀ f, Body P w K mg base q N st f k sp) : Pf P w K mg base C (k + 1) m ps sp := by
  obtain ⟨p, f, fd, hg, F⟩ := G.ex
  exact ⟨p, f, fd, hg, F.binds hb, F.okX S len (body f)⟩
theorem If.of {C : Addr} {x q : Str} {st : Stmt} {N ps : List Str} {k : Nat} {sp : Sp} (G : IFun K mg x C q st) (S : FnScope N ps (defScope st)) (hb : BindL q "__init__" st ps)
    (len : ∀ vs H Q E, sp vs H Q E → vs.length = ps.length) (body : ∀ f, Body P w K mg base q N st f k sp) : If P w K mg base x C (k + 1) ps sp := by
  obtain ⟨f, fd, hg, hm, F⟩ := G.ex
  exact ⟨f, fd, hg, hm, F.binds hb, F.okX S len (body f)⟩
end
section
variable {X : Cx} {k j : Nat} {x : Str} {ps : List Str} {sp : Sp} {E : XK} {p pos apos : Pos} {e o : Expr} {es : List Expr} {t : TA} {ta : TE} {C : Addr} {m : Str}
/-- f(e, ..), f a def of the text, raising as E says -/
theorem pg (D : Df X.prog X.w X.K X.mg X.base k x ps sp) (hr : Room j X.A) (ha : PA X (e :: es) t) (hx : Passes (L2.CX X.prog X.w) X E := by exact passL) (hk : k ≤ j := by decide) (hg : Gl X x := by rfl)
    (hd : (x == ("__debug__" : Str)) = false := by decide) (he : starEach (e :: es) X.env = (false, eval e X.env) :: starEach es X.env := by rfl) (hpl : (backTo pos (starEach es X.env)).any (·.1) = false := by rfl) :
    PE X (.Call (.Name x p) (e :: es) [] pos) (tCall sp [] E t) := by
  obtain ⟨f, fd, hm, kp, b, F⟩ := D.ex
  exact pe_call F (hr.mono hk) hg hm kp b .nil hx ha hd he hpl
theorem pg0 (D : Df X.prog X.w X.K X.mg X.base k x ps sp) (hr : Room j X.A) (hx : Passes (L2.CX X.prog X.w) X E := by exact passL) (hk : k ≤ j := by decide) (hg : Gl X x := by rfl)
    (hd : (x == ("__debug__" : Str)) = false := by decide) : PE X (.Call (.Name x p) [] [] pos) (tCall sp [] E tNil) := by
  obtain ⟨f, fd, hm, kp, b, F⟩ := D.ex
  exact pe_call0 F (hr.mono hk) hg hm kp b .nil hx hd
/-- o.m(e, ..), o.m() -/
theorem pm {pl : Sem Bool} (ho : PE X o ta) (c : Cls X.K C) (D : Mf X.prog X.w X.K X.mg X.base C k m ps sp) (hr : Room j X.A) (ha : PA X (e :: es) t) (hx : Passes (L2.CX X.prog X.w) X E := by exact passL) (hk : k ≤ j := by decide)
    (hst : starEach (e :: es) X.env = (false, eval e X.env) :: starEach es X.env := by rfl) (hpl : (backTo pos (starEach es X.env)).any (·.1) = false := by rfl)
    (ht : eval (.Call (.Attribute o m apos) (e :: es) [] pos) X.env = (do
      let ov ← eval o X.env
      standAt apos.atName
      let (f, first) ← holding [ov] (getMethod ov m pl)
      callWith pos f first (backTo pos (starEach (e :: es) X.env)) (backToKw pos (keywordEach [] X.env))) := by rfl) :
    PE X (.Call (.Attribute o m apos) (e :: es) [] pos) (tMeth C m sp [] E ta t) := by
  obtain ⟨f, fd, hm, b, F⟩ := D.ex
  exact pe_meth ho c hm F (hr.mono hk) b .nil hx ha hst hpl ht
theorem pm0 {pl : Sem Bool} (ho : PE X o ta) (c : Cls X.K C) (D : Mf X.prog X.w X.K X.mg X.base C k m ps sp) (hr : Room j X.A) (hx : Passes (L2.CX X.prog X.w) X E := by exact passL) (hk : k ≤ j := by decide)
    (ht : eval (.Call (.Attribute o m apos) [] [] pos) X.env = (do
      let ov ← eval o X.env
      standAt apos.atName
      let (f, first) ← holding [ov] (getMethod ov m pl)
      callWith pos f first (backTo pos (starEach [] X.env)) (backToKw pos (keywordEach [] X.env))) := by rfl) :
    PE X (.Call (.Attribute o m apos) [] [] pos) (tMeth C m sp [] E ta tNil) := by
  obtain ⟨f, fd, hm, b, F⟩ := D.ex
  exact pe_meth0 ho c hm F (hr.mono hk) b .nil hx ht
/-- o.m, a property -/
theorem pp (ho : PE X o ta) (c : Cls X.K C) (D : Pf X.prog X.w X.K X.mg X.base C k m ps sp) (hr : Room j X.A) (hk : k + 1 ≤ j := by decide) (hab : attributeBase o m X.env (eval o X.env) = eval o X.env := by rfl) :
    PE X (.Attribute o m pos) (tProp C sp [] E0 ta) := by
  obtain ⟨p, f, fd, hm, b, F⟩ := D.ex
  exact pe_prop ho c hm F (hr.mono hk) b .nil passL hab
/-- C(e, ..) -/
theorem pk (D : If X.prog X.w X.K X.mg X.base x C k ps sp) (hr : Room j X.A) (ha : PA X (e :: es) t) (hx : Passes (L2.CX X.prog X.w) X E := by exact passL) (hk : k + 1 ≤ j := by decide) (hg : Gl X x := by rfl)
    (hd : (x == ("__debug__" : Str)) = false := by decide) (he : starEach (e :: es) X.env = (false, eval e X.env) :: starEach es X.env := by rfl) (hpl : (backTo pos (starEach es X.env)).any (·.1) = false := by rfl) :
    PE X (.Call (.Name x p) (e :: es) [] pos) (tMake C sp [] E t) := by
  obtain ⟨f, fd, M, hm, b, F⟩ := D.ex
  exact pe_make M F (hr.mono hk) hg hm b .nil hx ha hd he hpl
/-- a call of a def one level in (by a built-in) -/
theorem run_in1 {f : Addr} {fd : FuncData} {ds : List Value} {dvs : List V} {pins : List (Addr × Obj)} {σ : L2.St} {H : Hp} {s : Shared} {Q : VK} {us : List Value} {vs : List V} (F : FnOk X.prog X.w X.K X.mg X.base (L2.CX X.prog X.w) k f fd ps sp) (hr : Room (k + 1) X.A) (hb : Binds X.K fd ps ds) (hd : Vals dvs ds) (hx : Passes (L2.CX X.prog X.w) X E)
    (I : Inv X pins σ H s) (r : Vals vs us) (h : sp (vs ++ dvs) H Q E) : wpAny (model X.prog X.w) X.A.in1 (call (.ref f) us) (EP X pins σ Q) X.xe s := by
  have r2 : Vals (vs ++ dvs) (us ++ ds) := r.append hd
  have hl : (us ++ ds).length = ps.length := by rw [← r2.length]; exact F.len _ _ _ _ h
  refine wpAny_call (codeAny_mono (F.run X.A.in1 X.stack s H ⟨us, []⟩ (us ++ ds) (vs ++ dvs) Q E hr.in1 I.env0.in1 (hb s us I.kIn hl) r2 h) fun r s' hq => ?_)
  cases r with
  | error e => exact hx pins σ H s e s' I hq
  | ok fl =>
    cases fl with
    | ret u => exact I.after hq
    | next => exact False.elim hq
    | brk => exact False.elim hq
    | cont => exact False.elim hq
/-- len(o), by the own __len__ -/
def rLenO (C : Addr) (sp : Sp) (E : XK) : List V → Hp → VK → Prop := fun xs H Q => ∃ a dx fs, xs = [.ref a] ∧ H a = some (.ins C dx fs) ∧ sp [.ref a] H (fun v H2 => ∃ n : Int, v = .int n ∧ (0 ≤ n ∧ n < 2 ^ 63) ∧ Q (.int n) H2) E
theorem call_lenO (D : Mf X.prog X.w X.K X.mg X.base C k "__len__" ps sp) (hr : Room j X.A) (hk : k + 1 ≤ j := by decide) (hx : Passes (L2.CX X.prog X.w) X E := by exact passL) : CallR X (.builtin "len") (rLenO C sp E) := by
  intro pins s σ H xs us Q I r h
  obtain ⟨a, dx, fs, rfl, ea, q⟩ := h
  obtain ⟨u, rfl, rx⟩ := vals1 r
  obtain rfl : u = Value.ref a := rx
  obtain ⟨f, fd, hm, b, F⟩ := D.ex
  obtain ⟨mA, O, _, _, _, _⟩ := ins_get I.hok ea
  obtain ⟨od, J, _⟩ := O.look
  obtain ⟨m0, fr⟩ := I.fr
  refine PySem.W.len_K fr I.ok.mod.kin J hm.at_ hm.fn ?_
  refine thn (run_in1 F (hr.mono hk) b .nil hx I (us := [.ref a]) (vs := [.ref a]) (.cons rfl .nil) q) fun u s1 ⟨v, H1, I1, rv, n, ev, hn, q1⟩ => ?_
  subst ev
  obtain ⟨tk, rfl⟩ := rv
  exact ⟨hn, .int n, H1, I1.tok _, ⟨_, rfl⟩, q1⟩
end
end G48
namespace G48
open PySem PySem.Spec PyProof.Rows L2 Evl
/-! ### heaps: what stands is carried over -/
/-- all but l stands -/
def Exb (l : Addr) (H H' : Hp) : Prop := ∀ b o, b ≠ l → H b = some o → H' b = some o
theorem Exb.upd {H : Hp} {l : Addr} {o : HO} : Exb l H (upd H l o) := fun b u nb e => by rw [upd_ne nb]; exact e
theorem Exb.of {l : Addr} {H H' : Hp} (e : Ex H H') : Exb l H H' := fun b u _ h => e b u h
theorem Exb.trans {l : Addr} {H H1 H2 : Hp} (a : Exb l H H1) (b : Exb l H1 H2) : Exb l H H2 := fun c o n h => b c o n (a c o n h)
theorem Exb.ex {l : Addr} {H0 H H' : Hp} (h : H0 l = none) (a : Ex H0 H) (b : Exb l H H') : Ex H0 H' := fun c o e => b c o (ne_of_none e h) (a c o e)
theorem ex_at {H H' : Hp} {a : Addr} {o : HO} (e : Ex H H') (h : H a = some o) : H' a = some o := e a o h
theorem exb_at {H H' : Hp} {l a : Addr} {o : HO} (e : Exb l H H') (n : a ≠ l) (h : H a = some o) : H' a = some o := e a o n h
theorem exb_t {K : PySem.W.Frag} {H H' : Hp} {l a : Addr} {xs ys : List V} (e : Exb l H H') (hl : H l = some (.lst ys)) (h : SqT K H a xs) : SqT K H' a xs := by
  rcases h with (h | ⟨o, h⟩) | h
  · exact .inl (.inl (e _ _ (ne_of h hl (by intro z; cases z)) h))
  · exact .inl (.inr ⟨o, e _ _ (ne_of h hl (by intro z; cases z)) h⟩)
  · exact .inr h
theorem exb_l {K : PySem.W.Frag} {H H' : Hp} {l a : Addr} {xs : List V} (e : Exb l H H') (n : a ≠ l) (h : SqL K H a xs) : SqL K H' a xs := by
  rcases h with (h | ⟨o, h⟩) | h
  · exact .inl (.inl (e _ _ n h))
  · exact .inl (.inr ⟨o, e _ _ n h⟩)
  · exact .inr h
theorem exb_ins {H H' : Hp} {l a C dx : Addr} {fs : List (Str × V)} {ys : List V} (e : Exb l H H') (hl : H l = some (.lst ys)) (h : H a = some (.ins C dx fs)) : H' a = some (.ins C dx fs) :=
  e _ _ (ne_of h hl (by intro z; cases z)) h


theorem sz1000 {n : Nat} (h : n ≤ 1000) : n ≤ sizeLine := Nat.le_trans h (by rw [sizeLine_eq]; decide)
theorem lt1000 {n : Nat} (h : n < 1000) : n < sizeLine := Nat.lt_trans h (by rw [sizeLine_eq]; decide)
/-! ### a reading's first step, by what stands at its head -/
section
variable {K : PySem.W.Frag} {σ : L2.St} {H H' : Hp} {ta tb tc te : TE} {t u : TT} {x y z v : V} {Q : VK} {QB : Bool → Hp → Prop} {i : Nat} {D : Ends} {t1 t2 t3 : TS} {tr : TA} {QA : List V → Hp → Prop} {r r' : R2} {a C dx : Addr} {fs : List (Str × V)} {f m : Str} {b c : Bool} {xs ys : List V} {sp : Sp} {E : XK} {ra : List V → Hp → VK → Prop}
theorem g_var (h : σ[i]? = some (some v)) (q : Q v H) : tVar i σ H Q := ⟨v, h, q⟩
theorem g_c (q : Q v H) : tC v σ H Q := q
theorem g_op (q : ta σ H fun x H1 => tb σ H1 fun y H2 => r x y H2 Q) : tOp r ta tb σ H Q := q
theorem g_un {r : V → Hp → VK → Prop} (q : ta σ H fun x H1 => r x H1 Q) : tUn r ta σ H Q := q
theorem g_nil (q : QA [] H) : tNil σ H QA := q
theorem g_cons (q : ta σ H fun x H1 => tr σ H1 fun xs H2 => QA (x :: xs) H2) : tCons ta tr σ H QA := q
theorem g_cb (q : tr σ H fun vs H1 => ra vs H1 Q) : tCB ra tr σ H Q := q
theorem app_nil_sp (sp : Sp) (Q : VK) (E : XK) : (fun (vs : List V) (H1 : Hp) => sp (vs ++ []) H1 Q E) = fun vs H1 => sp vs H1 Q E := by
  funext vs H1
  rw [List.append_nil]
theorem g_call (q : tr σ H fun vs H1 => sp vs H1 Q E) : tCall sp [] E tr σ H Q := by
  show tr σ H (fun vs H1 => sp (vs ++ []) H1 Q E)
  rw [app_nil_sp]
  exact q
def kT (Q : VK) (xs : List V) (H1 : Hp) : Prop := xs.length ≤ sizeLine ∧ ∀ p, H1 p = none → Q (.ref p) (upd H1 p (.tup xs))
def kL (Q : VK) (xs : List V) (H1 : Hp) : Prop := xs.length ≤ sizeLine ∧ ∀ p, H1 p = none → Q (.ref p) (upd H1 p (.lst xs))
theorem g_tup (q : tr σ H (kT Q)) : tTup tr σ H Q := q
theorem g_lst (q : tr σ H (kL Q)) : tLst tr σ H Q := q
theorem g_kT (h : xs.length ≤ sizeLine) (q : ∀ p H2, H p = none → Ex H H2 → H2 p = some (.tup xs) → Q (.ref p) H2) : kT Q xs H := ⟨h, fun p hp => q p _ hp (Ex.new hp) upd_same⟩
theorem g_kL (h : xs.length ≤ sizeLine) (q : ∀ p H2, H p = none → Ex H H2 → H2 p = some (.lst xs) → Q (.ref p) H2) : kL Q xs H := ⟨h, fun p hp => q p _ hp (Ex.new hp) upd_same⟩
def kTest (Q : Bool → Hp → Prop) : VK := fun x H' => ∃ k, x = .bl k ∧ Q k H'
theorem g_test (q : ta σ H (kTest QB)) : tTest ta σ H QB := q
theorem g_B (q : ta σ H (kTest QB)) : tB ta σ H QB := q
theorem g_kTest (q : QB b H) : kTest QB (.bl b) H := ⟨b, rfl, q⟩
def kNot (Q : Bool → Hp → Prop) (c : Bool) (H1 : Hp) : Prop := Q (!c) H1
theorem g_not (q : t σ H (kNot QB)) : tNot t σ H QB := q
theorem g_kNotT (q : QB false H) : kNot QB true H := q
theorem g_kNotF (q : QB true H) : kNot QB false H := q
theorem g_kNotS (q : QB (!c) H) : kNot QB c H := q
def kAnd (u : TT) (σ : L2.St) (Q : Bool → Hp → Prop) (c : Bool) (H1 : Hp) : Prop := if c = true then u σ H1 Q else Q false H1
def kOr (u : TT) (σ : L2.St) (Q : Bool → Hp → Prop) (c : Bool) (H1 : Hp) : Prop := if c = true then Q true H1 else u σ H1 Q
theorem g_and (q : t σ H (kAnd u σ QB)) : tAnd t u σ H QB := q
theorem g_or (q : t σ H (kOr u σ QB)) : tOr t u σ H QB := q
theorem g_kAndT (q : u σ H QB) : kAnd u σ QB true H := q
theorem g_kAndF (q : QB false H) : kAnd u σ QB false H := q
theorem g_kOrT (q : QB true H) : kOr u σ QB true H := q
theorem g_kOrF (q : u σ H QB) : kOr u σ QB false H := q
theorem g_kAnd (h1 : c = true → u σ H QB) (h2 : c = false → QB false H) : kAnd u σ QB c H := by
  cases c with
  | true => exact h1 rfl
  | false => exact h2 rfl
theorem g_kOr (h1 : c = true → QB true H) (h2 : c = false → u σ H QB) : kOr u σ QB c H := by
  cases c with
  | true => exact h1 rfl
  | false => exact h2 rfl
def kAndV (tb : TE) (σ : L2.St) (Q : VK) : VK := fun x H1 => ∃ c, x = .bl c ∧ if c = true then tb σ H1 Q else Q (.bl false) H1
def kOrV (tb : TE) (σ : L2.St) (Q : VK) : VK := fun x H1 => ∃ c, x = .bl c ∧ if c = true then Q (.bl true) H1 else tb σ H1 Q
theorem g_andV (q : ta σ H (kAndV tb σ Q)) : tAndV ta tb σ H Q := q
theorem g_orV (q : ta σ H (kOrV tb σ Q)) : tOrV ta tb σ H Q := q
theorem g_kAndVT (q : tb σ H Q) : kAndV tb σ Q (.bl true) H := ⟨true, rfl, q⟩
theorem g_kAndVF (q : Q (.bl false) H) : kAndV tb σ Q (.bl false) H := ⟨false, rfl, q⟩
theorem g_kOrVT (q : Q (.bl true) H) : kOrV tb σ Q (.bl true) H := ⟨true, rfl, q⟩
theorem g_kOrVF (q : tb σ H Q) : kOrV tb σ Q (.bl false) H := ⟨false, rfl, q⟩
theorem g_kAndV (h1 : c = true → tb σ H Q) (h2 : c = false → Q (.bl false) H) : kAndV tb σ Q (.bl c) H := by
  cases c with
  | true => exact g_kAndVT (h1 rfl)
  | false => exact g_kAndVF (h2 rfl)
theorem g_kOrV (h1 : c = true → Q (.bl true) H) (h2 : c = false → tb σ H Q) : kOrV tb σ Q (.bl c) H := by
  cases c with
  | true => exact g_kOrVT (h1 rfl)
  | false => exact g_kOrVF (h2 rfl)
def kNotV (Q : VK) : VK := fun x H1 => ∃ c, x = .bl c ∧ Q (.bl (!c)) H1
theorem g_notV (q : ta σ H (kNotV Q)) : tNotV ta σ H Q := q
theorem g_kNotV (q : Q (.bl (!c)) H) : kNotV Q (.bl c) H := ⟨c, rfl, q⟩
def kIf (ta tb : TE) (σ : L2.St) (Q : VK) (c : Bool) (H1 : Hp) : Prop := if c = true then ta σ H1 Q else tb σ H1 Q
theorem g_if (q : t σ H (kIf ta tb σ Q)) : tIf t ta tb σ H Q := q
theorem g_kIfT (q : ta σ H Q) : kIf ta tb σ Q true H := q
theorem g_kIfF (q : tb σ H Q) : kIf ta tb σ Q false H := q
theorem g_kIf (h1 : c = true → ta σ H Q) (h2 : c = false → tb σ H Q) : kIf ta tb σ Q c H := by
  cases c with
  | true => exact h1 rfl
  | false => exact h2 rfl
def kIfS (t u : TS) (D : Ends) (σ : L2.St) (c : Bool) (H1 : Hp) : Prop := if c = true then t D σ H1 else u D σ H1
theorem g_ifS (q : t σ H (kIfS t1 t2 D σ)) : tIfS t t1 t2 D σ H := q
theorem g_kIfST (q : t1 D σ H) : kIfS t1 t2 D σ true H := q
theorem g_kIfSF (q : t2 D σ H) : kIfS t1 t2 D σ false H := q
theorem g_kIfS (h1 : c = true → t1 D σ H) (h2 : c = false → t2 D σ H) : kIfS t1 t2 D σ c H := by
  cases c with
  | true => exact h1 rfl
  | false => exact h2 rfl
def kChain (r' : R2) (tc : TE) (σ : L2.St) (y : V) (Q : VK) : VK := fun z H3 => ∃ k, z = .bl k ∧ (if k = true then tc σ H3 fun w' H4 => r' y w' H4 Q else Q (.bl false) H3)
theorem g_chain (q : ta σ H fun x H1 => tb σ H1 fun y H2 => r x y H2 (kChain r' tc σ y Q)) : tChain r r' ta tb tc σ H Q := q
theorem g_kChainT (q : tc σ H fun w' H4 => r' y w' H4 Q) : kChain r' tc σ y Q (.bl true) H := ⟨true, rfl, q⟩
theorem g_kChainF (q : Q (.bl false) H) : kChain r' tc σ y Q (.bl false) H := ⟨false, rfl, q⟩
theorem g_kChain (h1 : c = true → tc σ H fun w' H4 => r' y w' H4 Q) (h2 : c = false → Q (.bl false) H) : kChain r' tc σ y Q (.bl c) H := by
  cases c with
  | true => exact g_kChainT (h1 rfl)
  | false => exact g_kChainF (h2 rfl)
theorem y_kAnd (hc : c = true) (q : u σ H QB) : kAnd u σ QB c H := by rw [hc]; exact q
theorem n_kAnd (hc : c = false) (q : QB false H) : kAnd u σ QB c H := by rw [hc]; exact q
theorem y_kOr (hc : c = true) (q : QB true H) : kOr u σ QB c H := by rw [hc]; exact q
theorem n_kOr (hc : c = false) (q : u σ H QB) : kOr u σ QB c H := by rw [hc]; exact q
theorem y_kNot (hc : c = true) (q : QB false H) : kNot QB c H := by rw [hc]; exact q
theorem n_kNot (hc : c = false) (q : QB true H) : kNot QB c H := by rw [hc]; exact q
theorem y_kAndV (hc : c = true) (q : tb σ H Q) : kAndV tb σ Q (.bl c) H := by rw [hc]; exact g_kAndVT q
theorem n_kAndV (hc : c = false) (q : Q (.bl false) H) : kAndV tb σ Q (.bl c) H := by rw [hc]; exact g_kAndVF q
theorem y_kOrV (hc : c = true) (q : Q (.bl true) H) : kOrV tb σ Q (.bl c) H := by rw [hc]; exact g_kOrVT q
theorem n_kOrV (hc : c = false) (q : tb σ H Q) : kOrV tb σ Q (.bl c) H := by rw [hc]; exact g_kOrVF q
theorem y_kIf (hc : c = true) (q : ta σ H Q) : kIf ta tb σ Q c H := by rw [hc]; exact q
theorem n_kIf (hc : c = false) (q : tb σ H Q) : kIf ta tb σ Q c H := by rw [hc]; exact q
theorem y_kIfS (hc : c = true) (q : t1 D σ H) : kIfS t1 t2 D σ c H := by rw [hc]; exact q
theorem n_kIfS (hc : c = false) (q : t2 D σ H) : kIfS t1 t2 D σ c H := by rw [hc]; exact q
theorem y_kChain (hc : c = true) (q : tc σ H fun w' H4 => r' y w' H4 Q) : kChain r' tc σ y Q (.bl c) H := by rw [hc]; exact g_kChainT q
theorem n_kChain (hc : c = false) (q : Q (.bl false) H) : kChain r' tc σ y Q (.bl c) H := by rw [hc]; exact g_kChainF q
/-! objects -/
def kFld (K : PySem.W.Frag) (f : Str) (Q : VK) : VK := fun x H1 => ∃ a C dx fs v, x = .ref a ∧ H1 a = some (.ins C dx fs) ∧ Cls K C ∧ NoAttr K C f ∧ fs.lookup f = some v ∧ Q v H1
theorem g_fld (q : ta σ H (kFld K f Q)) : tFld K ta f σ H Q := q
theorem g_kFld (h : H a = some (.ins C dx fs)) (c : Cls K C) (n : NoAttr K C f) (l : fs.lookup f = some v) (q : Q v H) : kFld K f Q (.ref a) H := ⟨a, C, dx, fs, v, rfl, h, c, n, l, q⟩
def kMeth (C : Addr) (m : Str) (sp : Sp) (E : XK) (tr : TA) (σ : L2.St) (Q : VK) : VK := fun x H1 => ∃ a dx fs, x = .ref a ∧ H1 a = some (.ins C dx fs) ∧ fs.lookup m = none ∧ tr σ H1 fun vs H2 => sp (x :: vs) H2 Q E
theorem g_meth (q : ta σ H (kMeth C m sp E tr σ Q)) : tMeth C m sp [] E ta tr σ H Q := by
  have e : (fun (x : V) (H1 : Hp) => ∃ a dx fs, x = .ref a ∧ H1 a = some (.ins C dx fs) ∧ fs.lookup m = none ∧ tr σ H1 fun vs H2 => sp (x :: (vs ++ [])) H2 Q E) = kMeth C m sp E tr σ Q := by
    funext x H1
    have e2 : (fun (vs : List V) (H2 : Hp) => sp (x :: (vs ++ [])) H2 Q E) = fun vs H2 => sp (x :: vs) H2 Q E := by
      funext vs H2
      rw [List.append_nil]
    unfold kMeth
    rw [e2]
  show ta σ H (fun (x : V) (H1 : Hp) => ∃ a dx fs, x = .ref a ∧ H1 a = some (.ins C dx fs) ∧ fs.lookup m = none ∧ tr σ H1 fun vs H2 => sp (x :: (vs ++ [])) H2 Q E)
  rw [e]
  exact q
theorem g_kMeth (h : H a = some (.ins C dx fs)) (l : fs.lookup m = none) (q : tr σ H fun vs H2 => sp (.ref a :: vs) H2 Q E) : kMeth C m sp E tr σ Q (.ref a) H := ⟨a, dx, fs, rfl, h, l, q⟩
def kProp (C : Addr) (sp : Sp) (E : XK) (Q : VK) : VK := fun x H1 => ∃ a dx fs, x = .ref a ∧ H1 a = some (.ins C dx fs) ∧ sp [.ref a] H1 Q E
theorem g_prop (q : ta σ H (kProp C sp E Q)) : tProp C sp [] E ta σ H Q := q
theorem g_kProp (h : H a = some (.ins C dx fs)) (q : sp [.ref a] H Q E) : kProp C sp E Q (.ref a) H := ⟨a, dx, fs, rfl, h, q⟩
/-- a new instance: its own dict at dx -/
def kMake (C : Addr) (sp : Sp) (E : XK) (Q : VK) (vs : List V) (H1 : Hp) : Prop := ∀ x dx, H1 x = none → H1 dx = none → dx ≠ x → sp (.ref x :: vs) (upd (upd H1 dx (.own x)) x (.ins C dx [])) (fun v H2 => v = .non ∧ Q (.ref x) H2) E
theorem g_make (q : tr σ H (kMake C sp E Q)) : tMake C sp [] E tr σ H Q := by
  have e : (fun (vs : List V) (H1 : Hp) => ∀ x dx, H1 x = none → H1 dx = none → dx ≠ x → sp (.ref x :: (vs ++ [])) (upd (upd H1 dx (.own x)) x (.ins C dx [])) (fun v H2 => v = .non ∧ Q (.ref x) H2) E) = kMake C sp E Q := by
    funext vs H1
    rw [List.append_nil] <;> rfl
  show tr σ H (fun (vs : List V) (H1 : Hp) => ∀ x dx, H1 x = none → H1 dx = none → dx ≠ x → sp (.ref x :: (vs ++ [])) (upd (upd H1 dx (.own x)) x (.ins C dx [])) (fun v H2 => v = .non ∧ Q (.ref x) H2) E)
  rw [e]
  exact q
def kSFld (K : PySem.W.Frag) (f : Str) (D : Ends) (σ : L2.St) (y : V) : VK := fun x H2 => ∃ a C dx fs, x = .ref a ∧ H2 a = some (.ins C dx fs) ∧ Cls K C ∧ NoAttr K C f ∧ fs.length < 1000 ∧ D.nx σ (upd H2 a (.ins C dx (putF f y fs)))
theorem g_sfld (q : tb σ H fun y H1 => ta σ H1 (kSFld K f D σ y)) : sFld K ta tb f D σ H := q
theorem g_kSFld (h : H a = some (.ins C dx fs)) (c : Cls K C) (n : NoAttr K C f) (l : fs.length < 1000) (q : ∀ H2, Exb a H H2 → H2 a = some (.ins C dx (putF f y fs)) → D.nx σ H2) : kSFld K f D σ y (.ref a) H := ⟨a, C, dx, fs, rfl, h, c, n, l, q _ Exb.upd upd_same⟩
/-! slices, ranges as lists, methods of the built-in types -/
theorem g_sl {rs : V → Option Int → Option Int → Hp → VK → Prop} {tl th : TO} (q : te σ H fun x H1 => tl σ H1 fun l H2 => th σ H2 fun h H3 => rs x l h H3 Q) : tSl rs te tl th σ H Q := q
theorem g_nopart {QO : Option Int → Hp → Prop} (q : QO none H) : tNoPart σ H QO := q
def kPart (QO : Option Int → Hp → Prop) : VK := fun x H1 => ∃ i, x = .int i ∧ QO (some i) H1
theorem g_part {QO : Option Int → Hp → Prop} (q : te σ H (kPart QO)) : tPart te σ H QO := q
theorem g_kPart {QO : Option Int → Hp → Prop} {i : Int} (q : QO (some i) H) : kPart QO (.int i) H := ⟨i, rfl, q⟩
def kLRg (Q : VK) (a b : Int) (H1 : Hp) : Prop := RgOk a b ∧ ∀ q, H1 q = none → Q (.ref q) (upd H1 q (.lst (rgV a b)))
theorem g_lstRg {tg : L2.St → Hp → (Int → Int → Hp → Prop) → Prop} (q : tg σ H (kLRg Q)) : tLstRg tg σ H Q := q
theorem g_kLRg {i j : Int} (h : RgOk i j) (q : ∀ p H2, H p = none → Ex H H2 → H2 p = some (.lst (rgV i j)) → Q (.ref p) H2) : kLRg Q i j H := ⟨h, fun p hp => q p _ hp (Ex.new hp) upd_same⟩
def kRg1 (R : Int → Int → Hp → Prop) : VK := fun x H1 => ∃ n, x = .int n ∧ R 0 n H1
theorem g_rg1 {R : Int → Int → Hp → Prop} (q : ta σ H (kRg1 R)) : tRg1 ta σ H R := q
theorem g_kRg1 {R : Int → Int → Hp → Prop} {n : Int} (q : R 0 n H) : kRg1 R (.int n) H := ⟨n, rfl, q⟩
theorem g_rg2 {R : Int → Int → Hp → Prop} (q : ta σ H fun x H1 => tb σ H1 fun y H2 => ∃ i j, x = .int i ∧ y = .int j ∧ R i j H2) : tRg2 ta tb σ H R := q
def kBM (K : PySem.W.Frag) (T : String) (r : V → List V → Hp → VK → Prop) (tr : TA) (σ : L2.St) (Q : VK) : VK := fun x H1 => tyV K T x H1 ∧ tr σ H1 fun xs H2 => r x xs H2 Q
theorem g_bm {r : V → List V → Hp → VK → Prop} {T : String} (q : ta σ H (kBM K T r tr σ Q)) : tBM K T r ta tr σ H Q := q
theorem g_kBM_list {r : V → List V → Hp → VK → Prop} (h : SqL K H a xs) (q : tr σ H fun vs H2 => r (.ref a) vs H2 Q) : kBM K "list" r tr σ Q (.ref a) H := ⟨.inl ⟨rfl, xs, h⟩, q⟩
/-! statements -/
theorem g_seq (q : t1 { D with nx := t2 D } σ H) : tSeq t1 t2 D σ H := q
theorem g_next (q : D.nx σ H) : tNext D σ H := q
theorem g_break (q : D.bk σ H) : tBreak D σ H := q
theorem g_cont (q : D.ct σ H) : tCont D σ H := q
theorem g_asg {g : TG} (q : te σ H fun x H1 => g x σ H1 D.nx) : tAsg te g D σ H := q
theorem g_ret (q : te σ H D.rt) : tRet te D σ H := q
theorem g_retN (q : D.rt .non H) : tRetN D σ H := q
theorem g_drop (q : te σ H fun _ H1 => D.nx σ H1) : tDrop te D σ H := q
theorem gg_name {QS : L2.St → Hp → Prop} (q : QS (σ.set i (some v)) H) : gName i v σ H QS := q
theorem gg_tup {QS : L2.St → Hp → Prop} {n : Nat} {gs : TGs} (h : SqT K H a xs) (l : xs.length = n) (q : gs xs σ H QS) : gTup K n gs (.ref a) σ H QS := ⟨a, xs, rfl, h, l, q⟩
theorem gg_cons {QS : L2.St → Hp → Prop} {g : TG} {gs : TGs} (q : g v σ H fun σ' H' => gs xs σ' H' QS) : gCons g gs (v :: xs) σ H QS := ⟨v, xs, rfl, q⟩
theorem gg_nil {QS : L2.St → Hp → Prop} (q : QS σ H) : gNil [] σ H QS := ⟨rfl, q⟩
theorem gg_sub {QS : L2.St → Hp → Prop} {st : TSet} (q : ta σ H fun o H1 => tb σ H1 fun k H2 => st o k v H2 fun H3 => QS σ H3) : gSub ta tb st v σ H QS := q
theorem g_setL {QH : Hp → Prop} {l : Addr} {k : Int} {j : Nat} (h : H l = some (.lst xs)) (e : ixN xs.length k = some j) (q : ∀ H2, Exb l H H2 → H2 l = some (.lst (xs.set j v)) → QH H2) : rSetL (.ref l) (.int k) v H QH := ⟨l, xs, k, j, rfl, rfl, h, e, q _ Exb.upd upd_same⟩
def kPar (i j : Nat) (D : Ends) (σ : L2.St) (vs : List V) (H1 : Hp) : Prop := ∃ v w, vs = [v, w] ∧ D.nx ((σ.set i (some v)).set j (some w)) H1
theorem g_par {j : Nat} (q : tr σ H (kPar i j D σ)) : tPar i j tr D σ H := q
theorem g_kPar {j : Nat} (q : D.nx ((σ.set i (some x)).set j (some y)) H) : kPar i j D σ [x, y] H := ⟨x, y, rfl, q⟩
theorem g_aug {ti : TIp} (h : σ[i]? = some (some x)) (q : te σ H fun y H1 => ti x y H1 fun z H2 => D.nx (σ.set i (some z)) H2) : tAug i te ti D σ H := ⟨x, h, q⟩
theorem g_ipI {g : Int → Int → Int} {p k : Int} (q : Q (.int (g p k)) H) : ipI g (.int p) (.int k) H Q := ⟨p, k, rfl, rfl, q⟩
/-- while: W with its measure -/
def kWh (W : Nat → L2.St → Hp → Prop) (tb : TS) (D : Ends) (m : Nat) (σ : L2.St) (b : Bool) (H1 : Hp) : Prop :=
  if b = true then ∃ N : L2.St → Hp → Prop, (∀ σ' H', N σ' H' → ∃ m', m' < m ∧ W m' σ' H') ∧ tb { D with nx := N, ct := N, bk := D.nx } σ H1 else D.nx σ H1
theorem g_while (W : Nat → L2.St → Hp → Prop) (m0 : Nat) (h0 : W m0 σ H) (hs : ∀ m σ' H', W m σ' H' → t σ' H' (kWh W t1 D m σ')) : tWhile t t1 D σ H := ⟨W, ⟨m0, h0⟩, hs⟩
theorem g_kWhT {W : Nat → L2.St → Hp → Prop} {m : Nat} (q : t1 { D with nx := fun σ' H' => ∃ m', m' < m ∧ W m' σ' H', ct := fun σ' H' => ∃ m', m' < m ∧ W m' σ' H', bk := D.nx } σ H) : kWh W t1 D m σ true H := ⟨_, fun _ _ h => h, q⟩
theorem g_kWhF {W : Nat → L2.St → Hp → Prop} {m : Nat} (q : D.nx σ H) : kWh W t1 D m σ false H := q
theorem g_kWh {W : Nat → L2.St → Hp → Prop} {m : Nat} (h1 : b = true → t1 { D with nx := fun σ' H' => ∃ m', m' < m ∧ W m' σ' H', ct := fun σ' H' => ∃ m', m' < m ∧ W m' σ' H', bk := D.nx } σ H) (h2 : b = false → D.nx σ H) : kWh W t1 D m σ b H := by
  cases b with
  | true => exact g_kWhT (h1 rfl)
  | false => exact g_kWhF (h2 rfl)
theorem y_kWh {W : Nat → L2.St → Hp → Prop} {m : Nat} (hc : b = true) (q : t1 { D with nx := fun σ' H' => ∃ m', m' < m ∧ W m' σ' H', ct := fun σ' H' => ∃ m', m' < m ∧ W m' σ' H', bk := D.nx } σ H) : kWh W t1 D m σ b H := by rw [hc]; exact g_kWhT q
theorem n_kWh {W : Nat → L2.St → Hp → Prop} {m : Nat} (hc : b = false) (q : D.nx σ H) : kWh W t1 D m σ b H := by rw [hc]; exact g_kWhF q
/-- for over a list, a tuple, a range -/
def kForL (K : PySem.W.Frag) (g : TG) (tb : TS) (D : Ends) (σ : L2.St) : VK := fun x H1 => tFor (iList K (tC x)) g tb D σ H1
theorem g_forL {g : TG} (q : te σ H (kForL K g t1 D σ)) : tFor (iList K te) g t1 D σ H := q
theorem g_kForL {g : TG} (h : SqL K H a xs) (Pv : Nat → L2.St → Hp → Prop) (h0 : Pv 0 σ H) (hl : ∀ i σ H, i ≤ xs.length → Pv i σ H → SqL K H a xs)
    (hs : ∀ i x σ H, xs[i]? = some x → Pv i σ H → g x σ H fun σ2 H2 => t1 { D with nx := Pv (i + 1), ct := Pv (i + 1), bk := D.nx } σ2 H2) (hd : ∀ σ H, Pv xs.length σ H → D.nx σ H) : kForL K g t1 D σ (.ref a) H :=
  ⟨a, rfl, ⟨xs, h⟩, for_list Pv h0 hl hs hd⟩
def kForT (K : PySem.W.Frag) (g : TG) (tb : TS) (D : Ends) (σ : L2.St) : VK := fun x H1 => tFor (iTup K (tC x)) g tb D σ H1
theorem g_forT {g : TG} (q : te σ H (kForT K g t1 D σ)) : tFor (iTup K te) g t1 D σ H := q
theorem g_kForT {g : TG} (h : SqT K H a xs) (Pv : Nat → L2.St → Hp → Prop) (h0 : Pv 0 σ H) (hl : ∀ i σ H, i ≤ xs.length → Pv i σ H → SqT K H a xs)
    (hs : ∀ i x σ H, xs[i]? = some x → Pv i σ H → g x σ H fun σ2 H2 => t1 { D with nx := Pv (i + 1), ct := Pv (i + 1), bk := D.nx } σ2 H2) (hd : ∀ σ H, Pv xs.length σ H → D.nx σ H) : kForT K g t1 D σ (.ref a) H :=
  ⟨a, rfl, ⟨xs, h⟩, for_tup Pv h0 hl hs hd⟩
def kForR1 (g : TG) (tb : TS) (D : Ends) (σ : L2.St) (vs : List V) (H1 : Hp) : Prop := tFor (iRng1 (fun _ H Q => Q vs H)) g tb D σ H1
theorem g_forR1 {g : TG} (q : tr σ H (kForR1 g t1 D σ)) : tFor (iRng1 tr) g t1 D σ H := q
theorem g_kForR1 {g : TG} {n : Int} (hn : 0 ≤ n ∧ n < 2 ^ 62) (Pv : Nat → L2.St → Hp → Prop) (h0 : Pv 0 σ H)
    (hs : ∀ (i : Nat) σ H, (i : Int) < n → Pv i σ H → g (.int i) σ H fun σ2 H2 => t1 { D with nx := Pv (i + 1), ct := Pv (i + 1), bk := D.nx } σ2 H2) (hd : ∀ σ H, Pv n.toNat σ H → D.nx σ H) : kForR1 g t1 D σ [.int n] H :=
  ⟨n, rfl, by omega, by omega, for_range (lo := 0) (n := n.toNat) Pv h0 (fun i σ H hi p => by
    have e0 : (0 : Int) + (i : Int) = (i : Int) := Int.zero_add _
    rw [e0]
    exact hs i σ H (by omega) p) hd⟩
def kForR2 (g : TG) (tb : TS) (D : Ends) (σ : L2.St) (vs : List V) (H1 : Hp) : Prop := tFor (iRng2 (fun _ H Q => Q vs H)) g tb D σ H1
theorem g_forR2 {g : TG} (q : tr σ H (kForR2 g t1 D σ)) : tFor (iRng2 tr) g t1 D σ H := q
theorem g_kForR2 {g : TG} {lo n : Int} (hn : -(2 ^ 62) ≤ lo ∧ lo < 2 ^ 62 ∧ -(2 ^ 62) ≤ n ∧ n < 2 ^ 62) (Pv : Nat → L2.St → Hp → Prop) (h0 : Pv 0 σ H)
    (hs : ∀ (i : Nat) σ H, lo + (i : Int) < n → Pv i σ H → g (.int (lo + i)) σ H fun σ2 H2 => t1 { D with nx := Pv (i + 1), ct := Pv (i + 1), bk := D.nx } σ2 H2) (hd : ∀ σ H, Pv (n - lo).toNat σ H → D.nx σ H) : kForR2 g t1 D σ [.int lo, .int n] H :=
  ⟨lo, n, rfl, hn, for_range (lo := lo) (n := (n - lo).toNat) Pv h0 (fun i σ H hi p => hs i σ H (by omega) p) hd⟩
/-! relations on values -/
theorem g_add {p k : Int} (q : Q (.int (p + k)) H) : rI0 (fun i j => .int (i + j)) (.int p) (.int k) H Q := ⟨p, k, rfl, rfl, q⟩
theorem g_sub {p k : Int} (q : Q (.int (p - k)) H) : rI0 (fun i j => .int (i - j)) (.int p) (.int k) H Q := ⟨p, k, rfl, rfl, q⟩
theorem g_mul {p k : Int} (h : CMul p k) (q : Q (.int (p * k)) H) : rI CMul (fun i j => .int (i * j)) (.int p) (.int k) H Q := ⟨p, k, rfl, rfl, h, q⟩
theorem g_fdiv {p k : Int} (h : CDiv p k) (q : Q (.int (p / k)) H) : rI CDiv (fun i j => .int (i / j)) (.int p) (.int k) H Q := ⟨p, k, rfl, rfl, h, q⟩
theorem g_mod {p k : Int} (h : 0 < k) (q : Q (.int (p % k)) H) : rI (fun _ j => 0 < j) (fun i j => .int (i % j)) (.int p) (.int k) H Q := ⟨p, k, rfl, rfl, h, q⟩
theorem g_pow {p k : Int} (h : CPow p k) (q : Q (.int (p ^ k.toNat)) H) : rI CPow (fun i j => .int (i ^ j.toNat)) (.int p) (.int k) H Q := ⟨p, k, rfl, rfl, h, q⟩
theorem g_lt {p k : Int} (q : Q (.bl (decide (p < k))) H) : rI0 (fun i j => .bl (decide (i < j))) (.int p) (.int k) H Q := ⟨p, k, rfl, rfl, q⟩
theorem g_le {p k : Int} (q : Q (.bl (decide (p ≤ k))) H) : rI0 (fun i j => .bl (decide (i ≤ j))) (.int p) (.int k) H Q := ⟨p, k, rfl, rfl, q⟩
theorem g_gt {p k : Int} (q : Q (.bl (decide (k < p))) H) : rI0 (fun i j => .bl (decide (j < i))) (.int p) (.int k) H Q := ⟨p, k, rfl, rfl, q⟩
theorem g_ge {p k : Int} (q : Q (.bl (decide (k ≤ p))) H) : rI0 (fun i j => .bl (decide (j ≤ i))) (.int p) (.int k) H Q := ⟨p, k, rfl, rfl, q⟩
theorem g_neg {p : Int} (q : Q (.int (-p)) H) : rU (fun i => .int (-i)) (.int p) H Q := ⟨p, rfl, q⟩
theorem dec_ii {p k : Int} : decide (V.int p = V.int k) = decide (p = k) := by rw [dec_int, Bool.beq_eq_decide_eq]
theorem g_eqI {p k : Int} (q : Q (.bl (decide (p = k))) H) : rEq (.int p) (.int k) H Q := ⟨rfl, by rw [dec_ii]; exact q⟩
theorem g_neI {p k : Int} (q : Q (.bl (!decide (p = k))) H) : rNe (.int p) (.int k) H Q := ⟨rfl, by rw [dec_ii]; exact q⟩
theorem g_eqS (h : scal x y = true) (q : Q (.bl (decide (x = y))) H) : rEq x y H Q := ⟨h, q⟩
theorem g_neS (h : scal x y = true) (q : Q (.bl (!decide (x = y))) H) : rNe x y H Q := ⟨h, q⟩
theorem g_ixL {k : Int} (h : SqL K H a xs) (e : atI xs k = some v) (q : Q v H) : rIxL K (.ref a) (.int k) H Q := ⟨a, xs, k, v, rfl, rfl, h, e, q⟩
theorem g_ixT {k : Int} (h : SqT K H a xs) (e : atI xs k = some v) (q : Q v H) : rIxT K (.ref a) (.int k) H Q := ⟨a, xs, k, v, rfl, rfl, h, e, q⟩
theorem g_eqD {d e : PyData} (h1 : Dp K H x d) (h2 : Dp K H y e) (s1 : SeqAt.shaped d = true) (s2 : SeqAt.shaped e = true) (q : Q (.bl (PyData.eqv d e)) H) : rEqD K x y H Q := ⟨d, e, h1, h2, s1, s2, q⟩
theorem g_neD {d e : PyData} (h1 : Dp K H x d) (h2 : Dp K H y e) (s1 : SeqAt.shaped d = true) (s2 : SeqAt.shaped e = true) (q : Q (.bl (!PyData.eqv d e)) H) : rNeD K x y H Q := ⟨d, e, h1, h2, s1, s2, q⟩
/-- t + u, t[lo:hi] of tuples: some tuple of these items -/
theorem g_catA {a b : Addr} {xs ys : List V} (h1 : SqT K H a xs) (h2 : SqT K H b ys) (l : xs.length + ys.length ≤ sizeLine) (q : ∀ p H2, Ex H H2 → SqT K H2 p (xs ++ ys) → Q (.ref p) H2) : rCatA K (.ref a) (.ref b) H Q :=
  ⟨a, b, xs, ys, rfl, rfl, h1, h2, l, fun e => q b H (Ex.refl H) (by rw [e]; exact h2), fun _ e => q a H (Ex.refl H) (by rw [e, List.append_nil]; exact h1), fun _ _ p hp => q p _ (Ex.new hp) (SqT.of upd_same)⟩
theorem cutV_whole {xs : List V} {lo hi : Option Int} (h : HT.sIx xs.length 0 lo = 0 ∧ HT.sIx xs.length xs.length hi = xs.length) : cutV xs lo hi = xs := by
  unfold cutV
  rw [h.1, h.2]
  simp
theorem g_slA {lo hi : Option Int} (h : SqT K H a xs) (q : ∀ p H2, Ex H H2 → SqT K H2 p (cutV xs lo hi) → Q (.ref p) H2) : rSlA K (.ref a) lo hi H Q :=
  ⟨a, xs, rfl, h, fun w => q a H (Ex.refl H) (by rw [cutV_whole w]; exact h), fun _ p hp => q p _ (Ex.new hp) (SqT.of upd_same)⟩
theorem g_slL {lo hi : Option Int} (h : SqL K H a xs) (q : ∀ p H2, H p = none → Ex H H2 → H2 p = some (.lst (cutV xs lo hi)) → Q (.ref p) H2) : rSlL K (.ref a) lo hi H Q :=
  ⟨a, xs, rfl, h, fun p hp => q p _ hp (Ex.new hp) upd_same⟩
theorem g_cat {a b : Addr} (h1 : H a = some (.lst xs)) (h2 : H b = some (.lst ys)) (l : xs.length + ys.length ≤ sizeLine) (q : ∀ p H2, H p = none → Ex H H2 → H2 p = some (.lst (xs ++ ys)) → Q (.ref p) H2) : rCat (.ref a) (.ref b) H Q :=
  ⟨a, b, xs, ys, rfl, rfl, h1, h2, l, fun p hp => q p _ hp (Ex.new hp) upd_same⟩
theorem g_append {l : Addr} (h : H l = some (.lst xs)) (z : xs.length < sizeLine) (q : ∀ H2, Exb l H H2 → H2 l = some (.lst (xs ++ [y])) → Q .non H2) : rAppend (.ref l) [y] H Q := ⟨l, xs, y, rfl, rfl, h, z, q _ Exb.upd upd_same⟩
theorem g_sum {ns : List Int} (h : SqL K H a (ns.map V.int)) (q : Q (.int ns.sum) H) : rSum K [.ref a] H Q := ⟨a, ns, rfl, h, q⟩
theorem g_isi {u w : Value} (k : ClsV v u) (ty : TyX K H x w) (e : PySem.W.kitOne K w u = some b) (q : Q (.bl b) H) : rIsi K [x, v] H Q := ⟨x, v, w, u, b, rfl, k, ty, e, q⟩
end
/-! named relations of built-in calls -/
def rLen (K : PySem.W.Frag) : List V → Hp → VK → Prop := fun xs H Q => ∃ x n, xs = [x] ∧ LenV K x H n ∧ Q (.int n) H
def rListOf (K : PySem.W.Frag) : List V → Hp → VK → Prop := fun xs H Q => ∃ p ys, xs = [.ref p] ∧ (SqL K H p ys ∨ SqT K H p ys) ∧ ∀ l, H l = none → Q (.ref l) (upd H l (.lst ys))
def rTupOf (K : PySem.W.Frag) : List V → Hp → VK → Prop := fun xs H Q => ∃ p ys, xs = [.ref p] ∧ ((SqL K H p ys ∧ ∀ l, H l = none → Q (.ref l) (upd H l (.tup ys))) ∨ (SqT K H p ys ∧ Q (.ref p) H))
def rInt1 : List V → Hp → VK → Prop := fun xs H Q => (∃ i, xs = [.int i] ∧ Q (.int i) H) ∨ ∃ k, xs = [.bl k] ∧ Q (.int (if k then 1 else 0)) H
def rMax2 : List V → Hp → VK → Prop := fun xs H Q => ∃ i j, xs = [.int i, .int j] ∧ Q (.int (if j > i then j else i)) H
def rMin2 : List V → Hp → VK → Prop := fun xs H Q => ∃ i j, xs = [.int i, .int j] ∧ Q (.int (if j < i then j else i)) H
def rDivmod : List V → Hp → VK → Prop := fun xs H Q => ∃ i j, xs = [.int i, .int j] ∧ CDiv i j ∧ ∀ p, H p = none → Q (.ref p) (upd H p (.tup [.int (i / j), .int (i % j)]))
section
variable {X : Cx}
theorem c_len : CallR X (.builtin "len") (rLen X.K) := call_len
theorem c_list_of : CallR X (.type "list") (rListOf X.K) := call_list_of
theorem c_int1 : CallR X (.type "int") rInt1 := call_int1
theorem c_max2 (hc : X.calm = true) : CallR X (.builtin "max") rMax2 := call_max2 hc
theorem c_min2 (hc : X.calm = true) : CallR X (.builtin "min") rMin2 := call_min2 hc
theorem c_divmod : CallR X (.builtin "divmod") rDivmod := call_divmod
/-- a module's constant -/
theorem pint {x : Str} {i : Int} {pos : Pos} (h : ∃ t, X.mg x = some (.int i t)) (hg : Gl X x := by rfl) (hd : (x == ("__debug__" : Str)) = false := by decide) : PE X (.Name x pos) (tC (.int i)) := by
  obtain ⟨t, h⟩ := h
  exact pe_glob hg h ⟨_, rfl⟩ hd
theorem pstr {x z : Str} {pos : Pos} (h : ∃ t, X.mg x = some (.str z t)) (hg : Gl X x := by rfl) (hd : (x == ("__debug__" : Str)) = false := by decide) : PE X (.Name x pos) (tC (.str z)) := by
  obtain ⟨t, h⟩ := h
  exact pe_glob hg h ⟨_, rfl⟩ hd
end
section
variable {K : PySem.W.Frag} {H : Hp} {Q : VK} {a : Addr} {xs ys : List V} {z : Str}
theorem g_lenL (h : SqL K H a xs) (q : Q (.int (xs.length : Int)) H) : rLen K [.ref a] H Q := ⟨.ref a, xs.length, rfl, .inl ⟨xs, h, rfl⟩, q⟩
theorem g_lenT (h : SqT K H a xs) (q : Q (.int (xs.length : Int)) H) : rLen K [.ref a] H Q := ⟨.ref a, xs.length, rfl, .inr ⟨xs, h, rfl⟩, q⟩
theorem g_lenLM {α : Type} {g : α → V} {ns : List α} (h : SqL K H a (ns.map g)) (q : Q (.int (ns.length : Int)) H) : rLen K [.ref a] H Q := ⟨.ref a, ns.length, rfl, .inl ⟨_, h, (List.length_map g).symm⟩, q⟩
theorem g_lenTM {α : Type} {g : α → V} {ns : List α} (h : SqT K H a (ns.map g)) (q : Q (.int (ns.length : Int)) H) : rLen K [.ref a] H Q := ⟨.ref a, ns.length, rfl, .inr ⟨_, h, (List.length_map g).symm⟩, q⟩
theorem g_lenS (h : z.length ≤ sizeLine) (q : Q (.int (z.length : Int)) H) : rLen K [.str z] H Q := ⟨.str z, z.length, rfl, ⟨h, rfl⟩, q⟩
theorem g_listL (h : SqL K H a xs) (q : ∀ p H2, H p = none → Ex H H2 → H2 p = some (.lst xs) → Q (.ref p) H2) : rListOf K [.ref a] H Q := ⟨a, xs, rfl, .inl h, fun p hp => q p _ hp (Ex.new hp) upd_same⟩
theorem g_listT (h : SqT K H a xs) (q : ∀ p H2, H p = none → Ex H H2 → H2 p = some (.lst xs) → Q (.ref p) H2) : rListOf K [.ref a] H Q := ⟨a, xs, rfl, .inr h, fun p hp => q p _ hp (Ex.new hp) upd_same⟩
theorem g_tupL (h : SqL K H a xs) (q : ∀ p H2, H p = none → Ex H H2 → H2 p = some (.tup xs) → Q (.ref p) H2) : rTupOf K [.ref a] H Q := ⟨a, xs, rfl, .inl ⟨h, fun p hp => q p _ hp (Ex.new hp) upd_same⟩⟩
theorem g_int1 {i : Int} (q : Q (.int i) H) : rInt1 [.int i] H Q := .inl ⟨i, rfl, q⟩
theorem g_int1b {b : Bool} (q : Q (.int (if b then 1 else 0)) H) : rInt1 [.bl b] H Q := .inr ⟨b, rfl, q⟩
theorem max2_eq (i j : Int) : (if j > i then j else i) = max i j := by
  by_cases h : j > i
  · rw [if_pos h]
    omega
  · rw [if_neg h]
    omega
theorem min2_eq (i j : Int) : (if j < i then j else i) = min i j := by
  by_cases h : j < i
  · rw [if_pos h]
    omega
  · rw [if_neg h]
    omega
theorem g_max2 {i j : Int} (q : Q (.int (max i j)) H) : rMax2 [.int i, .int j] H Q := ⟨i, j, rfl, by rw [max2_eq]; exact q⟩
theorem g_min2 {i j : Int} (q : Q (.int (min i j)) H) : rMin2 [.int i, .int j] H Q := ⟨i, j, rfl, by rw [min2_eq]; exact q⟩
theorem g_divmod {i j : Int} (h : CDiv i j) (q : ∀ p H2, H p = none → Ex H H2 → H2 p = some (.tup [.int (i / j), .int (i % j)]) → Q (.ref p) H2) : rDivmod [.int i, .int j] H Q := ⟨i, j, rfl, h, fun p hp => q p _ hp (Ex.new hp) upd_same⟩
end
end G48
namespace PySem
open AutoSeq1 (wpAny_loadPart')
set_option maxHeartbeats 4000000 in
theorem g48_enum_newB {v : Value} {o : Obj} {H : Heap → Prop} (B : Begins v o H) :
    Meets (Builtin.«enumerate.__new__» ⟨[.type "enumerate", v], []⟩) (fun _ R s => H s.heap ∧
      R (.ok (.ret (.ref (s.heap.push o).objs.size))) { s with heap := (s.heap.push o).push { cls := .type "enumerate", data := .fields #[.none, .bool false, .ref s.heap.objs.size, rawInt 0, .none, .none] } }) :=
  .of_wp fun prog w A R s h => by
    obtain ⟨hp, g, d, tk, os⟩ := s; obtain ⟨h1, h⟩ := h
    have hsub := sub_enumerate
    have q1 : ∀ {A' : Around} {E : Value → Shared → Prop} {Q : Value → Shared → Prop}, Q (.ref hp.objs.size) ⟨hp.push o, g, d, tk, os⟩ → wpAny (model prog w) A' (pyIter v) Q E ⟨hp, g, d, tk, os⟩ :=
      fun q => B.iter prog w _ _ ⟨hp, g, d, tk, os⟩ _ h1 q
    wp_walk using q1
    refine wpAny_stack_any fun st => wpAny_pure ?_
    split
    · rename_i c _ _ _ _ _
      cases (c == Value.type "enumerate")
      · wp_walk using q1
        exact ⟨_, rfl, h⟩
      · wp_walk using q1
        exact ⟨_, rfl, h⟩
    · wp_walk using q1
      exact ⟨_, rfl, h⟩
section
variable {prog : Program} {w : World} {A : Around} {E : Value → Shared → Prop} {s : Shared}
theorem g48_call_enum {v : Value} {o : Obj} {H : Heap → Prop} {Q : Value → Shared → Prop} (B : Begins v o H) (h1 : H s.heap)
    (h : ∀ h', IsEnum h' (s.heap.objs.size + 1) s.heap.objs.size 0 .none → h'.get? s.heap.objs.size = some o → h'.objs.size = s.heap.objs.size + 2 →
      (∀ b o, s.heap.get? b = some o → h'.get? b = some o) → Q (.ref (s.heap.objs.size + 1)) { s with heap := h' }) :
    wpAny (model prog w) A (call (.type "enumerate") [v]) Q E s := by
  refine callType_new F.called_enumerate (by decide) (F.typeCall_enumerate_1 _) (F.newCall_enumerate_1 _) (fun obj => F.args_object_init_2 obj _) F.entry_enumerate_new
    (g48_enum_newB B) ⟨h1, ?_⟩
  have hz : (s.heap.push o).objs.size = s.heap.objs.size + 1 := Heap.size_push ..
  show _ ∧ _
  rw [hz]
  have he : IsEnum ((s.heap.push o).push
      { cls := .type "enumerate", data := .fields #[.none, .bool false, .ref s.heap.objs.size, rawInt 0, .none, .none] }) (s.heap.objs.size + 1) s.heap.objs.size 0 .none := by
    have := Heap.get?_push_size (s.heap.push o)
      (o := { cls := .type "enumerate", data := .fields #[.none, .bool false, .ref s.heap.objs.size, rawInt 0, .none, .none] }) rfl
    rw [hz] at this; exact this
  refine ⟨⟨_, he, rfl⟩, h _ he (Heap.get?_push_of_some _ (Heap.get?_push_size _ B.free)) (by rw [Heap.size_push, hz]) fun b o x => Heap.get?_push_of_some _ (Heap.get?_push_of_some _ x)⟩
end
end PySem
namespace G48
open PySem PySem.Spec PyProof.Rows L2 Evl
/-! ### enumerate(tuple) -/
def ItetG (K : PySem.W.Frag) (a : Addr) : It :=
  ⟨fun i H => ∃ (xs : List V) (x : V), SqT K H a xs ∧ xs[i]? = some x, fun i H v H' => ∃ T x, v = .ref T ∧ H T = none ∧ H' = upd H T (.tup [.int (i : Nat), x]) ∧ ∀ xs, SqT K H a xs → xs[i]? = some x, fun i H => ∃ xs : List V, SqT K H a xs ∧ xs.length ≤ i⟩
theorem turn_enumT {P : Program} {w : World} {K : PySem.W.Frag} {elts : List Expr} {kk : Nat} {tpos : Pos} (a e it : Addr) (ne1 : e ≠ it) (ne2 : e ≠ a) (ne3 : a ≠ it) :
    Turn P w K (.Tuple elts kk tpos) (ItetG K a) [e, it] e (fun i h => (∃ old, IsEnum h e it ((i : Nat) : Int) old) ∧ h.IsTupleIter it a i) where
  mem := by simp
  obj := fun i h st b hb => by
    obtain ⟨⟨old, he⟩, ⟨o, ho, hc, hd⟩⟩ := st
    have e' : b = e ∨ b = it := by simpa using hb
    rcases e' with z | z
    · rw [z]; exact ⟨_, he, fun v q => nomatch q⟩
    · rw [z]; exact ⟨o, ho, fun v q => by rw [hd] at q; cases q⟩
  keep := fun i h h' st k => let ⟨⟨old, he⟩, hi⟩ := st; ⟨⟨old, k e (by simp) _ he⟩, hi.at fun o q => k it (by simp) o q⟩
  item := by
    intro X hP hw hK hc i pins s σ H E I hf st hg
    subst hP hw hK
    obtain ⟨⟨old, he⟩, hit⟩ := st
    obtain ⟨xs, x, hq, hx⟩ := hg
    obtain ⟨its, rv, p, hz⟩ := I.tuple hq
    obtain ⟨u, hu, ru⟩ := rv.get hx
    have hel : e < s.heap.objs.size := Heap.lt_size he
    have hil : it < s.heap.objs.size := by obtain ⟨_, q, _⟩ := hit; exact Heap.lt_size q
    have hlt : i < its.toArray.size := by
      have := (List.getElem?_eq_some_iff.mp hu).1
      simpa using this
    have D : Draws X.prog X.w X.A.in1 it [it, a] its.toArray.size (fun i v => its.toArray[i]? = some v) (fun i h => h.IsTupleIter it a i ∧ h.IsTuple a its.toArray) := Draws.tuple (show X.A.in1.handled = none from I.ok.hd hc) it a ne3 its.toArray
    refine wpAny_pyNext_enum_itemC D he ⟨hit, show s.heap.IsTuple a its.toArray from p⟩ hlt ne1 (by simp [ne1, ne2]) fun y h' tk hy ho hst hT hsz hk => ?_
    have ey : y = u := by
      have h1 : its.toArray[i]? = some y := hy
      have h2 : its.toArray[i]? = some u := by simpa using hu
      rw [h1] at h2
      exact Option.some.inj h2
    subst ey
    refine ⟨_, rfl, wpAny_letOwnedTupleGo_enum (s := { s with heap := h', toks := tk + 1 }) ho fun h'' he' sb => ?_⟩
    have hT2 : h''.get? s.heap.objs.size = some { cls := .type "tuple", data := .seq #[.int i tk, y] } := (sb.2 _ (Nat.ne_of_gt hel)).trans hT
    have new : ObjOk X.prog X.w (upd H s.heap.objs.size (.tup [.int (i : Nat), x])) h'' s.heap.objs.size (.tup [.int (i : Nat), x]) :=
      ⟨by show 2 ≤ sizeLine; decide, [.int i tk, y], .cons ⟨_, rfl⟩ (.cons ru .nil), ⟨_, hT2, rfl, _, rfl⟩⟩
    have I1 : Inv X pins σ (upd H s.heap.objs.size (.tup [.int (i : Nat), x])) { s with heap := h'', toks := tk + 1 } :=
      I.turnedNew (ch := [e, it]) (fun b ob hb q => (sb.2 b (fun z => hb (by simp [z]))).trans (hk b ob (fun z => hb (by simp [z])) (fun z => hb (by simp [z])) q)) hf (Nat.le_refl _) new
    refine ⟨.ref s.heap.objs.size, _, I1, rfl, ⟨_, x, rfl, I.hok.fresh (Nat.le_refl _), rfl, fun ys hy => by rw [I.tuple_inj hy hq]; exact hx⟩, ⟨⟨y, ?_⟩, hst.1.at fun o q => (sb.2 it (Ne.symm ne1)).trans q⟩, fun b hb => ?_⟩
    · have e1 : ((i + 1 : Nat) : Int) = (i : Int) + 1 := by omega
      rw [e1]; exact he'
    · have hb' : b < s.heap.objs.size := by
        have e' : b = e ∨ b = it := by simpa using hb
        rcases e' with z | z
        · rw [z]; exact hel
        · rw [z]; exact hil
      rw [upd_ne (Nat.ne_of_lt hb')]
      exact (hf b hb).1
  done := by
    intro X hP hw hK hc i pins s σ H E I hf st hg
    subst hP hw hK
    obtain ⟨⟨old, he⟩, hit⟩ := st
    obtain ⟨xs, hq, hx⟩ := hg
    obtain ⟨its, rv, p, hz⟩ := I.tuple hq
    obtain ⟨f0, f1, f2, f3, f4, f5⟩ := hf it (by simp)
    have hl := rv.length
    have D : Draws X.prog X.w X.A.in1 it [it, a] i (fun _ _ => True) (fun j h => j = i ∧ h.IsTupleIter it a i ∧ h.IsTuple a its.toArray) :=
      { live := fun _ _ st => let ⟨_, ⟨o, ho, _⟩, _⟩ := st; ⟨o, ho⟩
        frame := fun _ _ _ st hk => ⟨st.1, st.2.1.at fun o e => hk it (by simp) o e, st.2.2.at fun o e => hk a (by simp) o e⟩
        item := fun j s Q E hi st hQ => absurd st.1 (Nat.ne_of_lt hi)
        done := fun s Q E st hE => wpAny_nextOf_tuple_end (show X.A.in1.handled = none from I.ok.hd hc) st.2.1 st.2.2 (by simp; omega) hE }
    exact wpAny_pyNext_enum_endD D he ⟨rfl, hit, show s.heap.IsTuple a its.toArray from p⟩ fun h' eb => ⟨rfl, I.turned (t' := s.toks) (fun b o hb q => eb b o hb q) f0 f1 f3 f4 f5⟩
  self := fun A i s Q E st h => let ⟨⟨_, he⟩, _⟩ := st; wpAny_pyIter_enum he h
def iEnumT (K : PySem.W.Frag) (ta : TA) : TI := fun σ H R => ta σ H fun vs H1 => ∃ a xs, vs = [.ref a] ∧ SqT K H1 a xs ∧ R (ItetG K a) H1
theorem pi_enumT {X : Cx} {e : Expr} {ta : TA} {p pos tpos : Pos} {elts : List Expr} {kk : Nat} (hg : Gl X "enumerate") (hm : X.mg "enumerate" = none) (ha : PA X [e] ta) (hs : starEach [e] X.env = [(false, eval e X.env)] := by rfl) :
    PI X (.Tuple elts kk tpos) (.Call (.Name "enumerate" p) [e] [] pos) (iEnumT X.K ta) := by
  refine ⟨fun pins s σ H R I h => ?_⟩
  refine Call_ (ld_blt I hg hm PyProof.Rows.boot_enumerate (PyProof.Rows.callWith_type1 (thn (ha.run pos pins s σ H _ I h) fun us s1 ⟨vs, H1, I1, r1, q1⟩ => ?_) hs rfl))
  obtain ⟨a, xs, ex, hq, q⟩ := q1
  subst ex
  cases r1 with
  | cons r rr =>
    cases rr
    cases r
    obtain ⟨its, rv, p', hz⟩ := I1.tuple hq
    have hal : a < s1.heap.objs.size := by
      obtain ⟨o, ho, _⟩ := id p'
      exact Heap.lt_size ho
    refine g48_call_enum (begins_tuple a its.toArray) (show s1.heap.IsTuple a its.toArray from p') fun h' he hit hsz hk => wpAny_pyIter_enum he ?_
    have I2 : Inv X pins σ H1 { s1 with heap := h' } := I1.kept (t' := s1.toks) hk
    refine ⟨s1.heap.objs.size + 1, [s1.heap.objs.size + 1, s1.heap.objs.size], _, _, H1, rfl, I2, turn_enumT a (s1.heap.objs.size + 1) s1.heap.objs.size (Nat.succ_ne_self _) (Nat.ne_of_gt (Nat.lt_succ_of_lt hal)) (Nat.ne_of_lt hal), ⟨⟨.none, he⟩, ⟨_, hit, rfl, rfl⟩⟩, fun b hb => ?_, q⟩
    have e' : b = s1.heap.objs.size + 1 ∨ b = s1.heap.objs.size := by simpa using hb
    have hle : s1.heap.objs.size ≤ b := by
      rcases e' with z | z
      · rw [z]; exact Nat.le_add_right _ _
      · rw [z]; exact Nat.le_refl _
    exact I1.fpOk hle (I1.hok.fresh hle)
section
variable {K : PySem.W.Frag} {a : Addr} {xs : List V}
theorem walk_enumT : Walk (ItetG K a) xs.length (fun H => SqT K H a xs) (YPair (fun i => some (.int (i : Nat))) (fun i => xs[i]?)) := by
  refine ⟨fun i _ hi q => ⟨xs, xs[i], q, by simp [hi]⟩, fun _ q => ⟨xs, q, Nat.le_refl _⟩, fun i H v H' _ q y => ?_⟩
  obtain ⟨T, x, h1, h2, h3, h4⟩ := y
  exact ⟨T, .int (i : Nat), x, h1, h2, h3, rfl, h4 xs q⟩
end
/-- the loop: each turn a pair (i, x) at a new place -/
def kForE (K : PySem.W.Frag) (g : TG) (tb : TS) (D : Ends) (σ : L2.St) (vs : List V) (H1 : Hp) : Prop := tFor (iEnumT K (fun _ H Q => Q vs H)) g tb D σ H1
section
variable {K : PySem.W.Frag} {σ : L2.St} {H : Hp} {tr : TA} {D : Ends} {t1 : TS} {g : TG} {a : Addr} {xs : List V}
theorem g_forE (q : tr σ H (kForE K g t1 D σ)) : tFor (iEnumT K tr) g t1 D σ H := q
theorem g_kForE (h : SqT K H a xs) (Pv : Nat → L2.St → Hp → Prop) (h0 : Pv 0 σ H) (hl : ∀ i σ H, i ≤ xs.length → Pv i σ H → SqT K H a xs)
    (hs : ∀ i x σ H T H', xs[i]? = some x → Pv i σ H → Ex H H' → H T = none → H' T = some (.tup [.int (i : Nat), x]) → g (.ref T) σ H' fun σ2 H2 => t1 { D with nx := Pv (i + 1), ct := Pv (i + 1), bk := D.nx } σ2 H2) (hd : ∀ σ H, Pv xs.length σ H → D.nx σ H) : kForE K g t1 D σ [.ref a] H :=
  ⟨a, xs, rfl, h, for_it walk_enumT Pv h0 hl (fun i x σ H H' hi p y => by
    obtain ⟨T, u, v, rfl, hT, rfl, e1, e2⟩ := y
    cases e1
    exact hs i v σ H T _ e2 p (Ex.new hT) hT upd_same) hd⟩
def kForEL (K : PySem.W.Frag) (g : TG) (tb : TS) (D : Ends) (σ : L2.St) (vs : List V) (H1 : Hp) : Prop := tFor (iEnum K (fun _ H Q => Q vs H)) g tb D σ H1
theorem g_forEL (q : tr σ H (kForEL K g t1 D σ)) : tFor (iEnum K tr) g t1 D σ H := q
theorem g_kForEL (h : SqL K H a xs) (Pv : Nat → L2.St → Hp → Prop) (h0 : Pv 0 σ H) (hl : ∀ i σ H, i ≤ xs.length → Pv i σ H → SqL K H a xs)
    (hs : ∀ i x σ H T H', xs[i]? = some x → Pv i σ H → Ex H H' → H T = none → H' T = some (.tup [.int (i : Nat), x]) → g (.ref T) σ H' fun σ2 H2 => t1 { D with nx := Pv (i + 1), ct := Pv (i + 1), bk := D.nx } σ2 H2) (hd : ∀ σ H, Pv xs.length σ H → D.nx σ H) : kForEL K g t1 D σ [.ref a] H :=
  ⟨a, xs, rfl, h, for_it walk_enum Pv h0 hl (fun i x σ H H' hi p y => by
    obtain ⟨T, u, v, rfl, hT, rfl, e1, e2⟩ := y
    cases e1
    exact hs i v σ H T _ e2 p (Ex.new hT) hT upd_same) hd⟩
end
/-! ### max and min of a tuple of ints -/
theorem maxOf_fold : ∀ (ns : List Int) (x : Int), (PySem.W.maxOf x ns = x ∨ PySem.W.maxOf x ns ∈ ns) ∧ x ≤ PySem.W.maxOf x ns ∧ ∀ y ∈ ns, y ≤ PySem.W.maxOf x ns
  | [], x => ⟨.inl rfl, Int.le_refl _, fun y h => by cases h⟩
  | y :: r, x => by
    have e : PySem.W.maxOf x (y :: r) = PySem.W.maxOf (if decide (x < y) = true then y else x) r := rfl
    rw [e]
    by_cases h : x < y
    · rw [if_pos (decide_eq_true h)]
      obtain ⟨h1, h2, h3⟩ := maxOf_fold r y
      refine ⟨?_, by omega, fun z hz => ?_⟩
      · rcases h1 with h1 | h1
        · exact .inr (by rw [h1]; exact List.mem_cons_self)
        · exact .inr (List.mem_cons_of_mem _ h1)
      · rcases List.mem_cons.mp hz with rfl | hz
        · exact h2
        · exact h3 z hz
    · rw [if_neg (by simpa using h)]
      obtain ⟨h1, h2, h3⟩ := maxOf_fold r x
      refine ⟨?_, h2, fun z hz => ?_⟩
      · rcases h1 with h1 | h1
        · exact .inl h1
        · exact .inr (List.mem_cons_of_mem _ h1)
      · rcases List.mem_cons.mp hz with rfl | hz
        · omega
        · exact h3 z hz
/-- the greatest of ints -/
def mx : List Int → Int
  | [] => 0
  | [x] => x
  | x :: y :: r => max x (mx (y :: r))
theorem mx_mem : ∀ {ns : List Int}, ns ≠ [] → mx ns ∈ ns
  | [], h => absurd rfl h
  | [x], _ => List.mem_cons_self
  | x :: y :: r, _ => by
    have ih := mx_mem (ns := y :: r) (List.cons_ne_nil _ _)
    show max x (mx (y :: r)) ∈ x :: y :: r
    by_cases h : mx (y :: r) ≤ x
    · rw [Int.max_eq_left h]
      exact List.mem_cons_self
    · rw [Int.max_eq_right (by omega)]
      exact List.mem_cons_of_mem _ ih
theorem le_mx : ∀ {ns : List Int} {y : Int}, y ∈ ns → y ≤ mx ns
  | [], _, h => by cases h
  | [x], y, h => by
    rcases List.mem_cons.mp h with rfl | h
    · exact Int.le_refl _
    · cases h
  | x :: z :: r, y, h => by
    show y ≤ max x (mx (z :: r))
    rcases List.mem_cons.mp h with rfl | h
    · omega
    · have := le_mx h
      omega
theorem mx_eq {ns : List Int} {m : Int} (h : m ∈ ns) (hl : ∀ y ∈ ns, y ≤ m) : m = mx ns := by
  have h1 := le_mx h
  have h2 := hl _ (mx_mem (List.ne_nil_of_mem h))
  omega
def rMaxT (K : PySem.W.Frag) : List V → Hp → VK → Prop := fun vs H Q => ∃ (a : Addr) (ns : List Int), vs = [V.ref a] ∧ SqT K H a (ns.map V.int) ∧ ns ≠ [] ∧ Q (.int (mx ns)) H
theorem cr_maxT {X : Cx} (hc : X.calm = true) (hu : X.A.units + 64 < cLine) : CallR X (.builtin "max") (rMaxT X.K) := by
  intro pins s σ H vs us Q I r h
  obtain ⟨a, ns, rfl, hs, hne, q⟩ := h
  obtain ⟨its, rv, hl, _⟩ := I.tuple hs
  rw [Vals.ref1 r]
  cases ns with
  | nil => exact absurd rfl hne
  | cons x ns =>
    refine PySem.W.max_tuple_datum (I.ok.hd hc) (show s.heap.IsTuple a its.toArray from hl) (x := x) (xs := ns) (PySem.W.HoldAll.of_ints (by simpa using rv.ints)) (by show X.A.units + 1 + 0 < cLine; omega) fun i v h' tk hi hv hk => ?_
    obtain ⟨as, hr⟩ := hv
    obtain ⟨h1, h2, h3⟩ := maxOf_fold ns x
    have e : PySem.W.maxOf x ns = mx (x :: ns) := by
      refine mx_eq ?_ ?_
      · rcases h1 with h1 | h1
        · rw [h1]; exact List.mem_cons_self
        · exact List.mem_cons_of_mem _ h1
      · intro y hy
        rcases List.mem_cons.mp hy with rfl | hy
        · exact h2
        · exact h3 y hy
    rw [e] at hr
    have hv : ∃ t, v = .int (mx (x :: ns)) t := by
      have hr2 : Reads h' v (.int (mx (x :: ns))) as := hr
      cases hr2
      exact ⟨_, rfl⟩
    obtain ⟨t, rfl⟩ := hv
    exact ⟨.int (mx (x :: ns)), H, I.kept hk, ⟨_, rfl⟩, q⟩
theorem g_maxT {K : PySem.W.Frag} {H : Hp} {a : Addr} {ns : List Int} {Q : VK} (h : SqT K H a (ns.map V.int)) (hn : ns ≠ []) (q : Q (.int (mx ns)) H) : rMaxT K [.ref a] H Q := ⟨a, ns, rfl, h, hn, q⟩
theorem g_maxL {K : PySem.W.Frag} {H : Hp} {a : Addr} {ns : List Int} {Q : VK} (h : SqL K H a (ns.map V.int)) (hn : ns ≠ []) (q : Q (.int (mx ns)) H) : rMax K [.ref a] H Q :=
  ⟨a, ns, rfl, h, List.length_pos_iff.mpr hn, fun m h1 h2 => by rw [mx_eq h1 h2]; exact q⟩
/-! ### tuple(list): the tuple's own object is told (a tuple's methods ask that it has no dict) -/
def TupK (H : Hp) (a : Addr) (xs : List V) : Prop := ∃ o, H a = some (.frz o (.tup xs)) ∧ o.cls = .type "tuple" ∧ o.dict = none
theorem TupK.sq {K : PySem.W.Frag} {H : Hp} {a : Addr} {xs : List V} (h : TupK H a xs) : SqT K H a xs := by
  obtain ⟨o, e, _⟩ := h
  exact .inl (.inr ⟨o, e⟩)
theorem TupK.ex {H H' : Hp} {a : Addr} {xs : List V} (e : Ex H H') (h : TupK H a xs) : TupK H' a xs := by
  obtain ⟨o, h, c⟩ := h
  exact ⟨o, e _ _ h, c⟩
theorem TupK.exb {H H' : Hp} {l a : Addr} {xs ys : List V} (e : Exb l H H') (hl : H l = some (.lst ys)) (h : TupK H a xs) : TupK H' a xs := by
  obtain ⟨o, h, c⟩ := h
  exact ⟨o, e _ _ (ne_of h hl (by intro z; cases z)) h, c⟩
def rTupD (K : PySem.W.Frag) : List V → Hp → VK → Prop := fun xs H Q => ∃ p ys, xs = [.ref p] ∧ ((SqL K H p ys ∧ ∀ l o, H l = none → o.cls = .type "tuple" → o.dict = none → Q (.ref l) (upd H l (.frz o (.tup ys)))) ∨ (SqT K H p ys ∧ Q (.ref p) H))
theorem c_tuple_of {X : Cx} : CallR X (.type "tuple") (rTupD X.K) := by
  intro pins s σ H xs us Q I r h
  obtain ⟨p, ys, rfl, h⟩ := h
  obtain ⟨u, rfl, rx⟩ := vals1 r
  cases rx
  rcases h with ⟨hq, q⟩ | ⟨hq, q⟩
  · obtain ⟨its, r', pl, hz⟩ := I.list hq
    have hlen := r'.length
    refine call_tuple_list pl.isList (fun h' kp => ?_) (by simp only [List.size_toArray] <;> omega)
    have I1 : Inv X pins σ H { s with heap := h' } := I.kept (t' := s.toks) kp
    have I2 : Inv X pins σ (upd H h'.objs.size (.frz { cls := .type "tuple", data := .seq its.toArray } (.tup ys))) { s with heap := h'.push { cls := .type "tuple", data := .seq its.toArray } } :=
      I1.laid (t' := s.toks) (fun b o e => Heap.get?_push_of_some _ e) (Nat.le_refl _) (show ObjOk X.prog X.w _ _ _ (.frz { cls := .type "tuple", data := .seq its.toArray } (.tup ys)) from ⟨Heap.get?_push_size _ rfl, hz, its, r', IsTup.new _ _⟩)
    exact ⟨.ref h'.objs.size, _, I2, rfl, q _ _ (I1.hok.fresh (Nat.le_refl _)) rfl rfl⟩
  · obtain ⟨its, r', pl, hz⟩ := I.tuple hq
    exact call_tuple_same pl ⟨.ref p, H, I, rfl, q⟩
theorem g_tupD {K : PySem.W.Frag} {H : Hp} {a : Addr} {xs : List V} {Q : VK} (h : SqL K H a xs) (q : ∀ p H2, H p = none → Ex H H2 → TupK H2 p xs → Q (.ref p) H2) : rTupD K [.ref a] H Q :=
  ⟨a, xs, rfl, .inl ⟨h, fun p o hp h1 h2 => q p _ hp (Ex.new hp) ⟨o, upd_same, h1, h2⟩⟩⟩
/-- t.index(n) -/
def tBMT (r : V → List V → Hp → VK → Prop) (to : TE) (t : TA) : TE := fun σ H Q => to σ H fun x H1 => (∃ p xs, x = .ref p ∧ TupK H1 p xs) ∧ t σ H1 fun ys H2 => r x ys H2 Q
section
variable {X : Cx} {o e : Expr} {es : List Expr} {to : TE} {t : TA} {name : Str} {apos cpos : Pos} {id : String} {r : V → List V → Hp → VK → Prop}
theorem pe_bmT (slot : Slot "tuple" name id) (hty : typeOf (.builtin id) = pure (.type "method_descriptor")) (hm : MtR X id r) (ho : PE X o to) (ha : PA X (e :: es) t)
    (hbase : attributeBase o name X.env (eval o X.env) = eval o X.env := by rfl)
    (hfew : ((backTo cpos (starEach (e :: es) X.env)).all (fun x => !x.1) && (backToKw cpos (keywordEach [] X.env)).all (fun x => x.1.isSome)
      && decide ((e :: es).length + ([] : List Keyword).length + (if ([] : List Keyword).isEmpty then 0 else 1) < 30)) = true := by rfl)
    (hline : (apos.endLine == cpos.line) = true := by rfl) (hs : starEach (e :: es) X.env = (false, eval e X.env) :: starEach es X.env := by rfl) (hplain : (backTo cpos (starEach es X.env)).any (·.1) = false := by rfl) :
    PE X (.Call (.Attribute o name apos) (e :: es) [] cpos) (tBMT r to t) := by
  refine ⟨fun pins s σ H Q I h => ?_⟩
  refine wpAny_Call_method_late hbase hfew hline rfl (thn (ho.run pins s σ H _ I h) fun v s1 ⟨x, H1, I1, r1, ⟨p, xs, ex, ob, eo, oc, od⟩, q1⟩ => ?_)
  subst ex
  obtain rfl : v = Value.ref p := r1
  obtain ⟨hob, _⟩ := I1.hok p _ eo
  refine ⟨"tuple", id, PySem.F.plainAttrs_tuple, slot, hty, ⟨ob, hob, oc⟩, fun a e => ?_, ?_⟩
  · cases e
    exact ⟨ob, hob, od⟩
  have hA := ha.run cpos pins s1 σ H1 _ I1 q1
  rw [hs] at hA ⊢
  refine Calls.callWith_builtin (by show (false || (backTo cpos (starEach es X.env)).any (·.1)) = false; rw [hplain] <;> rfl) (Calls.evalArgs_plain ?_)
  exact thn hA fun us s2 ⟨vs, H2, I2, r2, q2⟩ => hm pins s2 σ H2 (.ref p) vs (.ref p) us Q I2 rfl r2 q2
def rIndexTI (K : PySem.W.Frag) : V → List V → Hp → VK → Prop := fun x xs H Q => ∃ (p : Addr) (ys : List Int) (z : Int) (j : Nat), x = .ref p ∧ xs = [.int z] ∧ SqT K H p (ys.map V.int) ∧ ys[j]? = some z ∧ (∀ m, m < j → ys[m]? ≠ some z) ∧ Q (.int (j : Nat)) H
theorem flat_ints (ys : List Int) : (ys.map V.int).all flatV = true := by
  rw [List.all_map]
  exact List.all_eq_true.mpr fun _ _ => rfl
theorem mt_indexTI : MtR X "tuple.index" (rIndexTI X.K) := by
  intro pins s σ H x xs v us Q I rx rs h
  obtain ⟨p, ys, z, j, rfl, rfl, hq, hy, hno, q⟩ := h
  cases rx
  obtain ⟨u, rfl, t, rfl⟩ := vals1 rs
  obtain ⟨its, r, pl, hz⟩ := I.tuple hq
  obtain ⟨⟨cls, dd, dt, sl⟩, ho, hc, n, hd⟩ := pl
  simp only at hc hd
  subst hc
  subst hd
  have hl : its.toArray.size = ys.length := by rw [List.size_toArray, ← r.length, List.length_map]
  have hj : j < its.toArray.size := by rw [hl]; exact (List.getElem?_eq_some_iff.mp hy).1
  have at' : ∀ (m : Nat) (hm : m < its.toArray.size), ∃ y t', ys[m]? = some y ∧ its.toArray[m] = Value.int y t' := fun m hm => by
    have hm' : m < ys.length := by rw [← hl]; exact hm
    obtain ⟨w, hw, t', hw'⟩ := r.get (i := m) (x := .int ys[m]) (by simp [hm'])
    refine ⟨ys[m], t', List.getElem?_eq_getElem hm', ?_⟩
    have e := (List.getElem?_eq_some_iff.mp hw).2
    rw [← hw', ← e]
    simp
  refine call_meets PySem.F.slot_tuple_index ⟨_, ho, rfl⟩ PySem.F.entry_tuple_index (PySem.F.args_tuple_index_2 _ _) (TI.tuple_indexAt p its.toArray n dd sl (.int z t) (eqU (.int z)) j hj ?_ ?_)
    ⟨ho, fun w hw => mem_eqAt (x := .int z) ⟨t, rfl⟩ rfl r (flat_ints ys) w (by simpa using hw), ⟨.int (j : Nat), H, I.tok _, ⟨_, rfl⟩, q⟩⟩
  · obtain ⟨y, t', h1, h2⟩ := at' j hj
    rw [hy] at h1
    cases h1
    rw [h2]
    show (z == z) = true
    exact beq_self_eq_true z
  · intro m hm hmj
    obtain ⟨y, t', h1, h2⟩ := at' m hm
    rw [h2]
    show (y == z) = false
    refine beq_eq_false_iff_ne.mpr fun e => ?_
    subst e
    exact hno m hmj h1
theorem g_bmT {σ : L2.St} {H : Hp} {Q : VK} (q : to σ H fun x H1 => (∃ p xs, x = .ref p ∧ TupK H1 p xs) ∧ t σ H1 fun ys H2 => r x ys H2 Q) : tBMT r to t σ H Q := q
end
end G48
namespace G48
open PySem PySem.Spec PyProof.Rows L2 Evl
/-! ### comprehensions -/
def kLcE (D : Addr) (N : Hp → Prop) : VK := fun y H4 => ∃ acc, H4 D = some (.lst acc) ∧ acc.length < sizeLine ∧ N (upd H4 D (.lst (acc ++ [y])))
def kLcT (te : TE) (σ2 : L2.St) (D : Addr) (N : Hp → Prop) (b : Bool) (H3 : Hp) : Prop := if b = true then te σ2 H3 (kLcE D N) else N H3
def kLcG (tt : TT) (te : TE) (vs : List Nat) (σ : L2.St) (D : Addr) (N : Hp → Prop) (σ2 : L2.St) (H2 : Hp) : Prop := wipe σ2 vs = wipe σ vs ∧ tt σ2 H2 (kLcT te σ2 D N)
/-! within a comprehension the part of the heap is named -/
section
variable {X : Cx} {e : Expr} {ta : TE} {f : Str} {pos : Pos} {es : List Expr} {k n : Nat} {t : TGs}
theorem ix_tupK (K : PySem.W.Frag) (h : X.K = K := by rfl) : IxR X (rIxT K) := by subst h; exact ix_tup
theorem ix_listK (K : PySem.W.Frag) (h : X.K = K := by rfl) : IxR X (rIxL K) := by subst h; exact ix_list
theorem c_lenK (K : PySem.W.Frag) (h : X.K = K := by rfl) : CallR X (.builtin "len") (rLen K) := by subst h; exact c_len
theorem pe_fldK (K : PySem.W.Frag) (he : PE X e ta) (hb : attributeBase e f X.env (eval e X.env) = eval e X.env) (h : X.K = K := by rfl) : PE X (.Attribute e f pos) (tFld K ta f) := by subst h; exact pe_fld he hb
theorem pg_tupK (K : PySem.W.Frag) (hc : X.calm = true) (h : PGs X es t)
    (hn : (assignEach es X.env).length = n := by rfl) (hst : (assignEach es X.env).findIdx? (·.1) = none := by rfl) (hK : X.K = K := by rfl) : PG X (.Tuple es k pos) (gTup K n t) := by subst hK; exact pg_tup hc h hn hst
end
section
variable {K : PySem.W.Frag} {σ σ2 : L2.St} {H : Hp} {D : Addr} {N : Hp → Prop} {acc : List V} {y : V} {te : TE} {tt : TT} {vs : List Nat} {b : Bool} {Q : VK} {g : TG} {tr : TA} {tl : TE} {a : Addr} {xs : List V}
theorem g_kLcE (h : H D = some (.lst acc)) (z : acc.length < sizeLine) (q : ∀ H', Exb D H H' → H' D = some (.lst (acc ++ [y])) → N H') : kLcE D N y H := ⟨acc, h, z, q _ Exb.upd upd_same⟩
theorem g_kLcTT (q : te σ2 H (kLcE D N)) : kLcT te σ2 D N true H := q
theorem g_kLcTF (q : N H) : kLcT te σ2 D N false H := q
theorem g_kLcT (h1 : b = true → te σ2 H (kLcE D N)) (h2 : b = false → N H) : kLcT te σ2 D N b H := by
  cases b with
  | true => exact h1 rfl
  | false => exact h2 rfl
theorem y_kLcT (hc : b = true) (q : te σ2 H (kLcE D N)) : kLcT te σ2 D N b H := by rw [hc]; exact q
theorem n_kLcT (hc : b = false) (q : N H) : kLcT te σ2 D N b H := by rw [hc]; exact q
theorem g_kLcG (h : wipe σ2 vs = wipe σ vs) (q : tt σ2 H (kLcT te σ2 D N)) : kLcG tt te vs σ D N σ2 H := ⟨h, q⟩
theorem g_yes {QB : Bool → Hp → Prop} (q : QB true H) : tYes σ H QB := q
/-- over range(n) -/
def kLcR1 (g : TG) (tt : TT) (te : TE) (vs : List Nat) (σ : L2.St) (Q : VK) (ws : List V) (H1 : Hp) : Prop := tLc (iRng1 (fun _ H Q => Q ws H)) g tt te vs σ H1 Q
theorem g_lcR1 (q : tr σ H (kLcR1 g tt te vs σ Q)) : tLc (iRng1 tr) g tt te vs σ H Q := q
theorem g_kLcR1 {n : Int} (hn : 0 ≤ n ∧ n < 2 ^ 62) (Pv : Addr → Nat → Hp → Prop) (h0 : ∀ D H1, H D = none → Ex H H1 → H1 D = some (.lst []) → Pv D 0 H1)
    (hs : ∀ D (i : Nat) H2, H D = none → (i : Int) < n → Pv D i H2 → g (.int (i : Int)) (wipe σ vs) H2 (kLcG tt te vs σ D (Pv D (i + 1))))
    (hd : ∀ D H2, H D = none → Pv D n.toNat H2 → Q (.ref D) H2) : kLcR1 g tt te vs σ Q [.int n] H :=
  ⟨n, rfl, by omega, by omega, fun D hD => lc_range (lo := 0) (n := n.toNat) (Pv D) (h0 D _ hD (Ex.new hD) upd_same) (fun i H2 hi p => by
    have e0 : (0 : Int) + (i : Int) = (i : Int) := Int.zero_add _
    rw [e0]
    exact hs D i H2 hD (by omega) p) (fun H2 p => hd D H2 hD p)⟩
/-- over range(a, b) -/
def kLcR2 (g : TG) (tt : TT) (te : TE) (vs : List Nat) (σ : L2.St) (Q : VK) (ws : List V) (H1 : Hp) : Prop := tLc (iRng2 (fun _ H Q => Q ws H)) g tt te vs σ H1 Q
theorem g_lcR2 (q : tr σ H (kLcR2 g tt te vs σ Q)) : tLc (iRng2 tr) g tt te vs σ H Q := q
theorem g_kLcR2 {lo n : Int} (hn : -(2 ^ 62) ≤ lo ∧ lo < 2 ^ 62 ∧ -(2 ^ 62) ≤ n ∧ n < 2 ^ 62) (Pv : Addr → Nat → Hp → Prop) (h0 : ∀ D H1, H D = none → Ex H H1 → H1 D = some (.lst []) → Pv D 0 H1)
    (hs : ∀ D (i : Nat) H2, H D = none → lo + (i : Int) < n → Pv D i H2 → g (.int (lo + (i : Int))) (wipe σ vs) H2 (kLcG tt te vs σ D (Pv D (i + 1))))
    (hd : ∀ D H2, H D = none → Pv D (n - lo).toNat H2 → Q (.ref D) H2) : kLcR2 g tt te vs σ Q [.int lo, .int n] H :=
  ⟨lo, n, rfl, hn, fun D hD => lc_range (lo := lo) (n := (n - lo).toNat) (Pv D) (h0 D _ hD (Ex.new hD) upd_same) (fun i H2 hi p => hs D i H2 hD (by omega) p) (fun H2 p => hd D H2 hD p)⟩
/-- over a list -/
def kLcL (K : PySem.W.Frag) (g : TG) (tt : TT) (te : TE) (vs : List Nat) (σ : L2.St) (Q : VK) : VK := fun x H1 => tLc (iList K (tC x)) g tt te vs σ H1 Q
theorem g_lcL (q : tl σ H (kLcL K g tt te vs σ Q)) : tLc (iList K tl) g tt te vs σ H Q := q
theorem g_kLcL (h : SqL K H a xs) (Pv : Addr → Nat → Hp → Prop) (h0 : ∀ D H1, H D = none → Ex H H1 → H1 D = some (.lst []) → Pv D 0 H1) (hl : ∀ D i H2, H D = none → i ≤ xs.length → Pv D i H2 → SqL K H2 a xs)
    (hs : ∀ D (i : Nat) x H2, H D = none → xs[i]? = some x → Pv D i H2 → g x (wipe σ vs) H2 (kLcG tt te vs σ D (Pv D (i + 1))))
    (hd : ∀ D H2, H D = none → Pv D xs.length H2 → Q (.ref D) H2) : kLcL K g tt te vs σ Q (.ref a) H :=
  ⟨a, rfl, ⟨xs, h⟩, fun D hD => lc_list (xs := xs) (Pv D) (h0 D _ hD (Ex.new hD) upd_same) (fun i H2 hi p => hl D i H2 hD hi p) (fun i x H2 hi p => hs D i x H2 hD hi p) (fun H2 p => hd D H2 hD p)⟩
/-- over a tuple -/
def kLcU (K : PySem.W.Frag) (g : TG) (tt : TT) (te : TE) (vs : List Nat) (σ : L2.St) (Q : VK) : VK := fun x H1 => tLc (iTup K (tC x)) g tt te vs σ H1 Q
theorem g_lcU (q : tl σ H (kLcU K g tt te vs σ Q)) : tLc (iTup K tl) g tt te vs σ H Q := q
theorem g_kLcU (h : SqT K H a xs) (Pv : Addr → Nat → Hp → Prop) (h0 : ∀ D H1, H D = none → Ex H H1 → H1 D = some (.lst []) → Pv D 0 H1) (hl : ∀ D i H2, H D = none → i ≤ xs.length → Pv D i H2 → SqT K H2 a xs)
    (hs : ∀ D (i : Nat) x H2, H D = none → xs[i]? = some x → Pv D i H2 → g x (wipe σ vs) H2 (kLcG tt te vs σ D (Pv D (i + 1))))
    (hd : ∀ D H2, H D = none → Pv D xs.length H2 → Q (.ref D) H2) : kLcU K g tt te vs σ Q (.ref a) H :=
  ⟨a, rfl, ⟨xs, h⟩, fun D hD => lc_tup (xs := xs) (Pv D) (h0 D _ hD (Ex.new hD) upd_same) (fun i H2 hi p => hl D i H2 hD hi p) (fun i x H2 hi p => hs D i x H2 hD hi p) (fun H2 p => hd D H2 hD p)⟩
/-- over enumerate(tuple) -/
def kLcN (K : PySem.W.Frag) (g : TG) (tt : TT) (te : TE) (vs : List Nat) (σ : L2.St) (Q : VK) (ws : List V) (H1 : Hp) : Prop := tLc (iEnumT K (fun _ H Q => Q ws H)) g tt te vs σ H1 Q
theorem g_lcN (q : tr σ H (kLcN K g tt te vs σ Q)) : tLc (iEnumT K tr) g tt te vs σ H Q := q
theorem g_kLcN (h : SqT K H a xs) (Pv : Addr → Nat → Hp → Prop) (h0 : ∀ D H1, H D = none → Ex H H1 → H1 D = some (.lst []) → Pv D 0 H1) (hl : ∀ D i H2, H D = none → i ≤ xs.length → Pv D i H2 → SqT K H2 a xs)
    (hs : ∀ D (i : Nat) x H2 T H3, H D = none → xs[i]? = some x → Pv D i H2 → Ex H2 H3 → H2 T = none → H3 T = some (.tup [.int (i : Int), x]) → g (.ref T) (wipe σ vs) H3 (kLcG tt te vs σ D (Pv D (i + 1))))
    (hd : ∀ D H2, H D = none → Pv D xs.length H2 → Q (.ref D) H2) : kLcN K g tt te vs σ Q [.ref a] H :=
  ⟨a, xs, rfl, h, fun D hD => lc_it walk_enumT (Pv D) (h0 D _ hD (Ex.new hD) upd_same) (fun i H2 hi p => hl D i H2 hD hi p) (fun i x H2 H3 hi p y => by
    obtain ⟨T, u, v, rfl, hT, rfl, e1, e2⟩ := y
    cases e1
    exact hs D i v H2 T _ hD e2 p (Ex.new hT) hT upd_same) (fun H2 p => hd D H2 hD p)⟩
end
end G48
namespace G48
open PySem PySem.Spec PyProof.Rows L2 Evl
/-! ### x in a tuple of data -/
def rInU (K : PySem.W.Frag) : R2 := fun x y H Q => ∃ d ds, Dp K H x d ∧ Dp K H y (.tuple ds) ∧ SeqAt.shaped d = true ∧ SeqAt.shaped (.tuple ds) = true ∧ Q (.bl (ds.any fun z => PyData.eqv z d)) H
def rNotInU (K : PySem.W.Frag) : R2 := fun x y H Q => ∃ d ds, Dp K H x d ∧ Dp K H y (.tuple ds) ∧ SeqAt.shaped d = true ∧ SeqAt.shaped (.tuple ds) = true ∧ Q (.bl (!ds.any fun z => PyData.eqv z d)) H
section
variable {X : Cx}
theorem op_inU {k : Nat} (hr : Room k X.A) : OpR X (compareOp .In) (rInU X.K) := by
  intro pins s σ H x y v u Q I rx ry h
  obtain ⟨d, ds, hd, he, sd, se, q⟩ := h
  obtain ⟨as, r1⟩ := Dp.reads I d x v hd rx
  obtain ⟨bs, r2⟩ := Dp.reads I (.tuple ds) y u he ry
  exact SeqAt.in_tuple_reads r2 r1 (SeqAt.canLay_of_shaped se) (SeqAt.canLay_of_shaped sd) (room_in_shaped sd (by have := hr.un; omega)) ⟨.bl _, H, I, rfl, q⟩
theorem op_notInU {k : Nat} (hr : Room k X.A) : OpR X (compareOp .NotIn) (rNotInU X.K) := by
  intro pins s σ H x y v u Q I rx ry h
  obtain ⟨d, ds, hd, he, sd, se, q⟩ := h
  obtain ⟨as, r1⟩ := Dp.reads I d x v hd rx
  obtain ⟨bs, r2⟩ := Dp.reads I (.tuple ds) y u he ry
  exact SeqAt.notIn_tuple_reads r2 r1 (SeqAt.canLay_of_shaped se) (SeqAt.canLay_of_shaped sd) (room_in_shaped sd (by have := hr.un; omega)) ⟨.bl _, H, I, rfl, q⟩
end
/-! ### pairs of ints -/
def pairD (p : Int × Int) : PyData := .tuple [.int p.1, .int p.2]
theorem pairD_eqv (p q : Int × Int) : PyData.eqv (pairD p) (pairD q) = decide (p = q) := by
  rw [Bool.eq_iff_iff]
  obtain ⟨a, b⟩ := p
  obtain ⟨c, d⟩ := q
  simp [pairD, PyData.eqv, PyData.eqvAll]
theorem pairD_inj {p q : Int × Int} (h : pairD p = pairD q) : p = q := by
  obtain ⟨a, b⟩ := p
  obtain ⟨c, d⟩ := q
  unfold pairD at h
  simp at h
  rw [h.1, h.2]
theorem pairD_lay (p : Int × Int) : (pairD p).canLay0 = true := by simp [pairD, PyData.canLay0, PyData.canLayAll0]
theorem pairD_depth (p : Int × Int) : (pairD p).depth = 1 := by simp [pairD, PyData.depth, PyData.depthAll]
theorem pairsD_lay : ∀ ps : List (Int × Int), PyData.canLayAll0 (ps.map pairD) = true
  | [] => by simp [PyData.canLayAll0]
  | z :: zs => by simp [PyData.canLayAll0, pairD_lay z, pairsD_lay zs]
theorem pairsD_depth : ∀ ps : List (Int × Int), PyData.depthAll (ps.map pairD) ≤ 1
  | [] => by simp [PyData.depthAll]
  | z :: zs => by
    have h1 := pairsD_depth zs
    have h2 := pairD_depth z
    simp only [List.map_cons, PyData.depthAll]
    omega
theorem pairD_sh (p : Int × Int) : SeqAt.shaped (pairD p) = true := by
  have h := pairD_depth p
  show ((pairD p).canLay0 && decide ((pairD p).depth ≤ 64)) = true
  rw [Bool.and_eq_true]
  exact ⟨pairD_lay p, decide_eq_true (by omega)⟩
theorem pairsT_sh (ps : List (Int × Int)) : SeqAt.shaped (.tuple (ps.map pairD)) = true := by
  have h1 := pairsD_depth ps
  have h2 : PyData.depth (.tuple (ps.map pairD)) ≤ 64 := by
    simp only [PyData.depth]
    omega
  show (PyData.canLay0 (.tuple (ps.map pairD)) && decide (PyData.depth (.tuple (ps.map pairD)) ≤ 64)) = true
  rw [Bool.and_eq_true]
  exact ⟨by simp only [PyData.canLay0]; exact pairsD_lay ps, decide_eq_true h2⟩
theorem pairsL_sh (ps : List (Int × Int)) : SeqAt.shaped (.list (ps.map pairD)) = true := by
  have h1 := pairsD_depth ps
  have h2 : PyData.depth (.list (ps.map pairD)) ≤ 64 := by
    simp only [PyData.depth]
    omega
  show (PyData.canLay0 (.list (ps.map pairD)) && decide (PyData.depth (.list (ps.map pairD)) ≤ 64)) = true
  rw [Bool.and_eq_true]
  exact ⟨by simp only [PyData.canLay0]; exact pairsD_lay ps, decide_eq_true h2⟩
theorem non_sh : SeqAt.shaped .none = true := by
  show (PyData.canLay0 .none && decide (PyData.depth .none ≤ 64)) = true
  rw [Bool.and_eq_true]
  exact ⟨by simp [PyData.canLay0], decide_eq_true (by simp [PyData.depth])⟩
def pairV (K : PySem.W.Frag) (H : Hp) (x : V) (p : Int × Int) : Prop := ∃ a, x = .ref a ∧ SqT K H a [.int p.1, .int p.2]
theorem pairV.dp {K : PySem.W.Frag} {H : Hp} {x : V} {p : Int × Int} (h : pairV K H x p) : Dp K H x (pairD p) := by
  obtain ⟨a, rfl, h⟩ := h
  exact .tup h (.cons (.int _) (.cons (.int _) .nil))
def pairsV (K : PySem.W.Frag) (H : Hp) : List V → List (Int × Int) → Prop
  | [], [] => True
  | x :: xs, p :: ps => pairV K H x p ∧ pairsV K H xs ps
  | _, _ => False
theorem pairsV.dp {K : PySem.W.Frag} {H : Hp} : ∀ {xs : List V} {ps : List (Int × Int)}, pairsV K H xs ps → DpAll K H xs (ps.map pairD)
  | [], [], _ => .nil
  | _ :: _, _ :: _, h => .cons h.1.dp (pairsV.dp h.2)
  | [], _ :: _, h => h.elim
  | _ :: _, [], h => h.elim
theorem pairsV.len {K : PySem.W.Frag} {H : Hp} : ∀ {xs : List V} {ps : List (Int × Int)}, pairsV K H xs ps → xs.length = ps.length
  | [], [], _ => rfl
  | _ :: xs, _ :: ps, h => by rw [List.length_cons, List.length_cons, pairsV.len h.2]
  | [], _ :: _, h => h.elim
  | _ :: _, [], h => h.elim
theorem pairV.imp {K : PySem.W.Frag} {H H' : Hp} {x : V} {p : Int × Int} (e : ∀ a xs, SqT K H a xs → SqT K H' a xs) (h : pairV K H x p) : pairV K H' x p := let ⟨a, ex, h⟩ := h; ⟨a, ex, e _ _ h⟩
theorem pairsV.imp {K : PySem.W.Frag} {H H' : Hp} (e : ∀ a xs, SqT K H a xs → SqT K H' a xs) : ∀ {xs : List V} {ps : List (Int × Int)}, pairsV K H xs ps → pairsV K H' xs ps
  | [], [], _ => trivial
  | _ :: _, _ :: _, h => ⟨h.1.imp e, pairsV.imp e h.2⟩
  | [], _ :: _, h => h.elim
  | _ :: _, [], h => h.elim
theorem pairsV.ex {K : PySem.W.Frag} {H H' : Hp} {xs : List V} {ps : List (Int × Int)} (e : Ex H H') (h : pairsV K H xs ps) : pairsV K H' xs ps := h.imp fun _ _ => ex_t e
theorem pairsV.exb {K : PySem.W.Frag} {H H' : Hp} {l : Addr} {ys xs : List V} {ps : List (Int × Int)} (e : Exb l H H') (hl : H l = some (.lst ys)) (h : pairsV K H xs ps) : pairsV K H' xs ps := h.imp fun _ _ => exb_t e hl
theorem pairsV.app {K : PySem.W.Frag} {H : Hp} : ∀ {xs : List V} {ps : List (Int × Int)} {ys : List V} {qs : List (Int × Int)}, pairsV K H xs ps → pairsV K H ys qs → pairsV K H (xs ++ ys) (ps ++ qs)
  | [], [], _, _, _, k => k
  | _ :: _, _ :: _, _, _, h, k => ⟨h.1, pairsV.app h.2 k⟩
  | [], _ :: _, _, _, h, _ => h.elim
  | _ :: _, [], _, _, h, _ => h.elim
theorem pairsV.one {K : PySem.W.Frag} {H : Hp} {x : V} {p : Int × Int} (h : pairV K H x p) : pairsV K H [x] [p] := ⟨h, trivial⟩
theorem pairsV.at {K : PySem.W.Frag} {H : Hp} : ∀ {xs : List V} {ps : List (Int × Int)} {i : Nat} {p : Int × Int}, pairsV K H xs ps → ps[i]? = some p → ∃ x, xs[i]? = some x ∧ pairV K H x p
  | [], [], i, p, _, e => by simp at e
  | x :: xs, q :: ps, 0, p, h, e => ⟨x, rfl, by
    have e' : q = p := by simpa using e
    rw [← e']
    exact h.1⟩
  | x :: xs, q :: ps, i + 1, p, h, e => by
    obtain ⟨y, hy, k⟩ := pairsV.at (i := i) h.2 (by simpa using e)
    exact ⟨y, by simpa using hy, k⟩
  | [], _ :: _, _, _, h, _ => h.elim
  | _ :: _, [], _, _, h, _ => h.elim
theorem pairsV.rev {K : PySem.W.Frag} {H : Hp} : ∀ {xs : List V} {ps : List (Int × Int)}, pairsV K H xs ps → pairsV K H xs.reverse ps.reverse
  | [], [], _ => trivial
  | x :: xs, p :: ps, h => by
    rw [List.reverse_cons, List.reverse_cons]
    exact pairsV.app (pairsV.rev h.2) (pairsV.one h.1)
  | [], _ :: _, h => h.elim
  | _ :: _, [], h => h.elim
theorem pairsV.at' {K : PySem.W.Frag} {H : Hp} : ∀ {xs : List V} {ps : List (Int × Int)} {i : Nat} {x : V}, pairsV K H xs ps → xs[i]? = some x → ∃ p, ps[i]? = some p ∧ pairV K H x p
  | [], [], i, x, _, e => by simp at e
  | x :: xs, q :: ps, 0, y, h, e => ⟨q, rfl, by
    have e' : x = y := by simpa using e
    rw [← e']
    exact h.1⟩
  | x :: xs, q :: ps, i + 1, y, h, e => by
    obtain ⟨p, hp, k⟩ := pairsV.at' (i := i) h.2 (by simpa using e)
    exact ⟨p, by simpa using hp, k⟩
  | [], _ :: _, _, _, h, _ => h.elim
  | _ :: _, [], _, _, h, _ => h.elim
theorem pairsV.drop {K : PySem.W.Frag} {H : Hp} : ∀ {xs : List V} {ps : List (Int × Int)} (n : Nat), pairsV K H xs ps → pairsV K H (xs.drop n) (ps.drop n)
  | _, _, 0, h => h
  | [], [], _ + 1, _ => trivial
  | _ :: _, _ :: _, n + 1, h => pairsV.drop n h.2
  | [], _ :: _, _ + 1, h => h.elim
  | _ :: _, [], _ + 1, h => h.elim
section
variable {K : PySem.W.Frag} {H : Hp} {Q : VK} {x y : V} {p q : Int × Int} {a b : Addr} {xs ys : List V} {ps qs : List (Int × Int)}
theorem g_eqP2 (h1 : pairV K H x p) (h2 : pairV K H y q) (k : Q (.bl (decide (p = q))) H) : rEqD K x y H Q := g_eqD h1.dp h2.dp (pairD_sh _) (pairD_sh _) (by rw [pairD_eqv]; exact k)
theorem g_neP2 (h1 : pairV K H x p) (h2 : pairV K H y q) (k : Q (.bl (!decide (p = q))) H) : rNeD K x y H Q := g_neD h1.dp h2.dp (pairD_sh _) (pairD_sh _) (by rw [pairD_eqv]; exact k)
theorem pairs_any (ps : List (Int × Int)) (p : Int × Int) : ((ps.map pairD).any fun z => PyData.eqv z (pairD p)) = decide (p ∈ ps) := by
  rw [Bool.eq_iff_iff]
  simp [pairD_eqv]
theorem g_inU (h1 : pairV K H x p) (h2 : SqT K H b ys) (h3 : pairsV K H ys qs) (k : Q (.bl (decide (p ∈ qs))) H) : rInU K x (.ref b) H Q := ⟨_, _, h1.dp, .tup h2 h3.dp, pairD_sh _, pairsT_sh _, by rw [pairs_any]; exact k⟩
theorem g_notInU (h1 : pairV K H x p) (h2 : SqT K H b ys) (h3 : pairsV K H ys qs) (k : Q (.bl (!decide (p ∈ qs))) H) : rNotInU K x (.ref b) H Q := ⟨_, _, h1.dp, .tup h2 h3.dp, pairD_sh _, pairsT_sh _, by rw [pairs_any]; exact k⟩
end
/-! ### the least of a list of pairs -/
def leP (p q : Int × Int) : Prop := p.1 < q.1 ∨ (p.1 = q.1 ∧ p.2 ≤ q.2)
theorem ltP (p q : Int × Int) : PySem.W.DatumOrd.lt p q = true → leP p q := by
  intro h
  have h' : (if p.1 = q.1 then decide (p.2 < q.2) else decide (p.1 < q.1)) = true := h
  unfold leP
  split at h'
  · have := of_decide_eq_true h'
    omega
  · have := of_decide_eq_true h'
    omega
theorem nltP (p q : Int × Int) : ¬ PySem.W.DatumOrd.lt p q = true → leP q p := by
  intro h
  have h' : ¬ (if p.1 = q.1 then decide (p.2 < q.2) else decide (p.1 < q.1)) = true := h
  unfold leP
  split at h'
  · have k : ¬ (p.2 < q.2) := fun z => h' (decide_eq_true z)
    omega
  · have k : ¬ (p.1 < q.1) := fun z => h' (decide_eq_true z)
    omega
theorem leP.trans {p q r : Int × Int} (h : leP p q) (k : leP q r) : leP p r := by
  unfold leP at *
  omega
theorem leP.refl (p : Int × Int) : leP p p := .inr ⟨rfl, Int.le_refl _⟩
theorem minOf_leP : ∀ (xs : List (Int × Int)) (x : Int × Int), leP (PySem.W.minOf x xs) x ∧ ∀ q ∈ xs, leP (PySem.W.minOf x xs) q
  | [], x => ⟨.refl x, fun q h => by cases h⟩
  | y :: r, x => by
    have e : PySem.W.minOf x (y :: r) = PySem.W.minOf (if PySem.W.DatumOrd.lt y x = true then y else x) r := rfl
    rw [e]
    by_cases h : PySem.W.DatumOrd.lt y x = true
    · rw [if_pos h]
      obtain ⟨h1, h2⟩ := minOf_leP r y
      refine ⟨h1.trans (ltP _ _ h), fun q hq => ?_⟩
      rcases List.mem_cons.mp hq with rfl | hq
      · exact h1
      · exact h2 q hq
    · rw [if_neg h]
      obtain ⟨h1, h2⟩ := minOf_leP r x
      refine ⟨h1, fun q hq => ?_⟩
      rcases List.mem_cons.mp hq with rfl | hq
      · exact h1.trans (nltP _ _ h)
      · exact h2 q hq
def rMinP (K : PySem.W.Frag) : List V → Hp → VK → Prop := fun xs H Q => ∃ (a : Addr) (vs : List V) (ps : List (Int × Int)), xs = [.ref a] ∧ SqL K H a vs ∧ pairsV K H vs ps ∧ ps ≠ [] ∧ ∀ x p, pairV K H x p → p ∈ ps → (∀ q ∈ ps, leP p q) → Q x H
theorem cr_minP {X : Cx} {k : Nat} (hc : X.calm = true) (hr : Room k X.A) : CallR X (.builtin "min") (rMinP X.K) := by
  intro pins s σ H vs us Q I r h
  obtain ⟨a, xs, ps, rfl, hs, hp, hne, q⟩ := h
  obtain ⟨its, rv, hl, _⟩ := I.list hs
  rw [Vals.ref1 r]
  obtain ⟨as, hr'⟩ := Dp.readsAll I _ _ its hp.dp rv
  cases ps with
  | nil => exact absurd rfl hne
  | cons x ps =>
    have HA : PySem.W.HoldAll s.heap its.toArray.toList (x :: ps) := ⟨as, show ReadsAll s.heap its ((x :: ps).map pairD) as from hr'⟩
    refine PySem.W.min_list_datum (I.ok.hd hc) hl.isList HA (by show X.A.units + 1 + 1 < cLine; have := hr.un; omega) fun i v h' tk hi hv hk => ?_
    obtain ⟨p, hpi, hh⟩ := PySem.W.HoldAll.at HA (i := i) (by simpa using hi)
    have e : p = PySem.W.minOf x ps := by
      obtain ⟨bs, r1⟩ := PySem.W.Holds.keeps hk hh
      obtain ⟨cs, r2⟩ := hv
      exact pairD_inj (SeqAt.Reads.unique (pairD p) _ _ _ _ (pairD_lay p) r1 r2)
    obtain ⟨z, hz, pz⟩ := hp.at hpi
    obtain ⟨u, hu', ru⟩ := rv.get hz
    have : u = v := by
      have h1 : its[i]? = some v := by simpa using hi
      rw [hu'] at h1
      exact Option.some.inj h1
    subst this
    obtain ⟨m1, m2⟩ := minOf_leP ps x
    refine ⟨z, H, I.kept hk, ru, q z p pz (List.mem_of_getElem? hpi) fun y hy => ?_⟩
    rw [e]
    rcases List.mem_cons.mp hy with rfl | hy
    · exact m1
    · exact m2 y hy
/-! ### == by an own def -/
def rEqO (C : Addr) (sp : Sp) (E : XK) : R2 := fun x y H Q => ∃ a b, x = .ref a ∧ y = .ref b ∧ (∃ dx fs, H a = some (.ins C dx fs)) ∧ (∃ dx fs, H b = some (.ins C dx fs)) ∧ sp [.ref a, .ref b] H (fun v H2 => ∃ c, v = .bl c ∧ Q v H2) E
theorem op_eqMf {X : Cx} {k j : Nat} {ps : List Str} {sp : Sp} {E : XK} {C : Addr} (D : Mf X.prog X.w X.K X.mg X.base C k "__eq__" ps sp) (hr : Room j X.A) (hx : Passes (L2.CX X.prog X.w) X E := by exact passL) (hk : k ≤ j := by decide) : OpR X (compareOp .Eq) (rEqO C sp E) := by
  intro pins s σ H x y v u Q I rx ry h
  obtain ⟨a, b, rfl, rfl, ⟨dx, fs, ha⟩, ⟨dy, gs, hb'⟩, q⟩ := h
  obtain rfl : v = Value.ref a := rx
  obtain rfl : u = Value.ref b := ry
  obtain ⟨f, fd, hm, hb, F⟩ := D.ex
  obtain ⟨mA, J, _⟩ := ins_get I.hok ha
  obtain ⟨mB, J', _⟩ := ins_get I.hok hb'
  obtain ⟨od, J, _⟩ := J.look
  obtain ⟨od', J', _⟩ := J'.look
  obtain ⟨m, hF⟩ := I.fr
  show wpAny (model X.prog X.w) X.A (richCompare .Eq (.ref a) (.ref b)) (EP X pins σ Q) X.xe s
  refine PySem.W.cmp_K (op := .Eq) (tb := .ref C) hr.units0 hF I.ok.mod.kin J J'.type (by simp [PySem.W.notFirst]) hm.at_ hm.fn ?_
  refine thn (run_fn F (hr.mono hk) hb .nil hx I (us := [.ref a, .ref b]) (vs := [.ref a, .ref b]) (.cons rfl (.cons rfl .nil)) q) fun v s1 hv => ?_
  obtain ⟨z, H1, I1, rz, c, ez, q1⟩ := hv
  subst ez
  cases rz
  exact ⟨.bl c, H1, I1, rfl, q1⟩
section
variable {C a b : Addr} {sp : Sp} {E : XK} {H : Hp} {Q : VK}
def kBl (Q : VK) : VK := fun v H2 => ∃ c, v = .bl c ∧ Q v H2
theorem g_kBl {c : Bool} (q : Q (.bl c) H) : kBl Q (.bl c) H := ⟨c, rfl, q⟩
theorem g_eqO {dx dy : Addr} {fs gs : List (Str × V)} (h1 : H a = some (.ins C dx fs)) (h2 : H b = some (.ins C dy gs)) (q : sp [.ref a, .ref b] H (kBl Q) E) : rEqO C sp E (.ref a) (.ref b) H Q := ⟨a, b, rfl, rfl, ⟨dx, fs, h1⟩, ⟨dy, gs, h2⟩, q⟩
end
/-! ### match v: case [x, y] if test: .. case _: .. -/
def sM2 (K : PySem.W.Frag) (te : TE) (i j : Nat) (tt : TT) (t1 t2 : TS) : TS := fun D σ H => te σ H fun x H1 => ∃ a v w, x = .ref a ∧ SqT K H1 a [v, w] ∧ tt ((σ.set i (some v)).set j (some w)) H1 (kIfS t1 t2 D ((σ.set i (some v)).set j (some w)))
theorem unpack2 {prog : Program} {w : World} {A : Around} {E : Value → Shared → Prop} {s : Shared} {a : Addr} {u1 u2 : Value} {Q : List Value → Shared → Prop} (hh : A.handled = none) (ht : IsTup s.heap a [u1, u2].toArray)
    (h : ∀ h', Heap.ExtBut s.heap.objs.size s.heap h' → Q [u1, u2] { s with heap := h' }) : wpAny (model prog w) A (unpackItems (.ref a) 2 none) Q E s := unpackItems_tuple (items := [u1, u2].toArray) hh ht h
theorem ps_match2 {X : Cx} {i j : Nat} {x1 x2 : Str} {e g : Expr} {b1 b2 : List Stmt} {te : TE} {tt : TT} {t1 t2 : TS} {p1 p2 p3 p4 pos : Pos} (hc : X.calm = true) (hN : X.N.Nodup) (hi : X.N[i]? = some x1) (hj : X.N[j]? = some x2) (hx : Loc X.env.scope x1) (hy : Loc X.env.scope x2)
    (he : PE X e te) (hg : PT X g tt) (h1 : PSs X b1 t1) (h2 : PSs X b2 t2) (hf1 : X.fn x1 = true ∨ X.env.scope.names.lookup x1 = some .local := by first | exact .inl rfl | exact .inr rfl) (hf2 : X.fn x2 = true ∨ X.env.scope.names.lookup x2 = some .local := by first | exact .inl rfl | exact .inr rfl) :
    PS X (.Match e [⟨.MatchSequence [.MatchAs none (some x1) p1, .MatchAs none (some x2) p2] p3, some g, b1⟩, ⟨.MatchAs none none p4, none, b2⟩] pos) (sM2 X.K te i j tt t1 t2) := by
  refine ⟨fun pins s σ H D I h => ?_⟩
  refine wpAny_Match (thn (he.run pins s σ H _ I h) fun u s1 ⟨x, H1, I1, r1, a, v, w, ex, hq, q⟩ => ?_)
  subst ex
  cases r1
  obtain ⟨its, rv, ht, hz⟩ := I1.tuple hq
  cases rv with
  | cons rv1 rr =>
  cases rr with
  | cons rv2 rn =>
  cases rn
  refine wpAny_matchCases_cons (matchSeq_tuple_hit (show s1.heap.IsTuple a _ from ht) (by simp) rfl ?_)
  refine unpack2 (I1.ok.hd hc) (a := a) (s := { s1 with toks := s1.toks + 1 + 1 }) ht fun h' hx' => ?_
  have I2 : Inv X pins σ H1 { s1 with heap := h', toks := s1.toks + 1 + 1 } := I1.kept (t' := s1.toks + 1 + 1) fun b o e => hx' b o (Nat.ne_of_lt (Heap.lt_size e)) e
  refine wpAny_matchEach_cons (wpAny_matchPattern_Capture (wpAny_matchEach_cons (wpAny_matchPattern_Capture (wpAny_matchEach_nil ?_))))
  refine wpAny_assignInOrder_more (wpAny_bindName (store_ok I2 hN hi hx rv1 (fun s3 I3 => ?_) hf1))
  refine wpAny_assignInOrder_more (wpAny_bindName (store_ok I3 hN hj hy rv2 (fun s4 I4 => ?_) hf2))
  refine wpAny_assignInOrder_none ?_
  refine thn (hg.run pins s4 _ H1 _ I4 q) fun c s5 ⟨H5, I5, q5⟩ => ?_
  cases c with
  | true => exact h1.run pins s5 _ H5 D I5 q5
  | false =>
    refine wpAny_matchCases_cons (wpAny_matchPattern_Capture (wpAny_assignInOrder_none ?_))
    exact h2.run pins s5 _ H5 D I5 q5
theorem g_m2 {K : PySem.W.Frag} {te : TE} {i j : Nat} {tt : TT} {t1 t2 : TS} {D : Ends} {σ : L2.St} {H : Hp} (q : te σ H fun x H1 => ∃ a v w, x = .ref a ∧ SqT K H1 a [v, w] ∧ tt ((σ.set i (some v)).set j (some w)) H1 (kIfS t1 t2 D ((σ.set i (some v)).set j (some w)))) : sM2 K te i j tt t1 t2 D σ H := q
theorem dec_in {i : Int} : decide (V.int i = V.non) = false := decide_eq_false fun z => by cases z
theorem dec_rn {a : Addr} : decide (V.ref a = V.non) = false := decide_eq_false fun z => by cases z
theorem dec_nn : decide (V.non = V.non) = true := decide_eq_true rfl
theorem ltLine {n : Nat} (h : n < 16000000) : n < sizeLine := Nat.lt_of_lt_of_le h (by rw [sizeLine_eq]; decide)
theorem leLine {n : Nat} (h : n ≤ 16000000) : n ≤ sizeLine := Nat.le_trans h (by rw [sizeLine_eq]; decide)
theorem pi_listK {X : Cx} {tg l : Expr} {tl : TE} (K : PySem.W.Frag) (hl : PE X l tl) (h : X.K = K := by rfl) : PI X tg l (iList K tl) := by subst h; exact pi_list hl
theorem u1 {k : Nat} {A : Around} (hr : Room k A) : A.units + 1 < cLine := by have := hr.un; omega
/-! ### sum of a tuple -/
def rSumT (K : PySem.W.Frag) : List V → Hp → VK → Prop := fun vs H Q => ∃ (a : Addr) (ns : List Int), vs = [V.ref a] ∧ SqT K H a (ns.map V.int) ∧ Q (.int ns.sum) H
theorem cr_sumT {X : Cx} (hc : X.calm = true) : CallR X (.builtin "sum") (rSumT X.K) := by
  intro pins s σ H vs us Q I r h
  obtain ⟨a, ns, rfl, hs, q⟩ := h
  obtain ⟨its, rv, hl, _⟩ := I.tuple hs
  rw [Vals.ref1 r]
  obtain ⟨xs, e⟩ := rv.ints.allInts.items
  have hn : numsOf (intItems xs).toList = ns := by rw [← e]; exact rv.ints.numsOf
  rw [nums_intItems] at hn
  have hl : s.heap.IsTuple a its.toArray := hl
  rw [e] at hl
  refine PySem.W.ktm_sumG (I.ok.hd hc) hl fun h' tk t' hk => ?_
  rw [preSum_eq, List.take_of_length_le (by simp), hn]
  exact ⟨.int _, H, I.kept hk, ⟨_, rfl⟩, q⟩
theorem g_sumT {K : PySem.W.Frag} {H : Hp} {Q : VK} {a : Addr} {ns : List Int} (h : SqT K H a (ns.map V.int)) (q : Q (.int ns.sum) H) : rSumT K [.ref a] H Q := ⟨a, ns, rfl, h, q⟩
/-! ### isinstance of an own class -/
structure IsiC (K : PySem.W.Frag) (C : Addr) : Prop where
  ha : PySem.W.findIn K (.ref C) "__class__" = some (some (.builtin "object.__class__"))
  hn : PySem.W.specialIn K (.builtin "object.__class__") "__get__" = some (some (.builtin "getset_descriptor.__get__"))
  htk : PySem.W.takesIn K (.builtin "object.__class__") = some true
  hm : PySem.W.mroIn K C (.type "object") = some true
def isiB (K : PySem.W.Frag) (C : Addr) : Bool := decide (PySem.W.findIn K (.ref C) "__class__" = some (some (.builtin "object.__class__"))) && (decide (PySem.W.specialIn K (.builtin "object.__class__") "__get__" = some (some (.builtin "getset_descriptor.__get__"))) &&
  (decide (PySem.W.takesIn K (.builtin "object.__class__") = some true) && decide (PySem.W.mroIn K C (.type "object") = some true)))
theorem isi_ok {K : PySem.W.Frag} {C : Addr} (h : isiB K C = true) : IsiC K C := by
  obtain ⟨h1, h⟩ := He.ba h
  obtain ⟨h2, h⟩ := He.ba h
  obtain ⟨h3, h4⟩ := He.ba h
  exact ⟨of_decide_eq_true h1, of_decide_eq_true h2, of_decide_eq_true h3, of_decide_eq_true h4⟩
theorem g_isiO {K : PySem.W.Frag} {C : Addr} {H : Hp} {Q : VK} {a dx : Addr} {fs : List (Str × V)} (cl : Cls K C) (S : IsiC K C) (h : H a = some (.ins C dx fs)) (q : Q (.bl true) H) : rIsi K [.ref a, .ref C] H Q :=
  g_isi (.own C) (.base (.ins h cl S.ha S.hn S.htk S.hm)) (by unfold PySem.W.kitOne; rw [if_pos (beq_self_eq_true _)]) q
theorem pcls {X : Cx} {x : Str} {C : Addr} {pos : Pos} (h : X.mg x = some (.ref C)) (hg : Gl X x := by rfl) (hd : (x == ("__debug__" : Str)) = false := by decide) : PE X (.Name x pos) (tC (.ref C)) := pe_glob hg h rfl hd
end G48
namespace G48
open PySem PySem.Spec PyProof.Rows L2 Evl
open LamX (CodeO Tabs TabS ExtN TabB inv_table)
/-! ### a lambda as an object that is told -/
/-- the function object of a lambda: its text, its cells, its default, its code object -/
def LamO (f : Addr) (q : Str) (params : Arguments) (body : Expr) (scope : Scope) (cl : List (Str × Addr)) (dV : Value) (c' : Addr) : HO :=
  .ext fun h => ∃ doc pm ctv : Value, h.get? f = some (PySem.W.kdv_obj "<lambda>" q params (.expr body) scope cl dV doc pm c' ctv)
/-- the default: none at all, or one int -/
def DvAt (H : Hp) (ds : List Int) (dV : Value) : Prop := (ds = [] ∧ dV = .none) ∨ ∃ d t, ds = [d] ∧ dV = .ref t ∧ H t = some (.tup [.int d])
def LamAt (H : Hp) (f : Addr) (q : Str) (params : Arguments) (body : Expr) (scope : Scope) (ds : List Int) (cl : List (Str × Addr)) : Prop :=
  ∃ dV c', H f = some (LamO f q params body scope cl dV c') ∧ H c' = some (CodeO c' q) ∧ DvAt H ds dV
theorem lamO_ne {f : Addr} {q : Str} {params : Arguments} {body : Expr} {scope : Scope} {cl : List (Str × Addr)} {dV : Value} {c' : Addr} (ps : Array Value) : LamO f q params body scope cl dV c' ≠ .tbl ps := fun z => by
  unfold LamO at z
  cases z
theorem LamAt.imp {H H' : Hp} {f : Addr} {q : Str} {params : Arguments} {body : Expr} {scope : Scope} {ds : List Int} {cl : List (Str × Addr)} (e : ∀ a o, H a = some o → (∀ ps, o ≠ .tbl ps) → (∀ xs, o ≠ .lst xs) → H' a = some o) (h : LamAt H f q params body scope ds cl) : LamAt H' f q params body scope ds cl := by
  obtain ⟨dV, c', h1, h2, h3⟩ := h
  refine ⟨dV, c', e _ _ h1 lamO_ne (fun _ z => by unfold LamO at z; cases z), e _ _ h2 LamX.codeO_ne (fun _ z => by unfold CodeO at z; cases z), ?_⟩
  rcases h3 with h3 | ⟨d, t, e1, e2, e3⟩
  · exact .inl h3
  · exact .inr ⟨d, t, e1, e2, e _ _ e3 (fun _ z => by cases z) (fun _ z => by cases z)⟩
theorem LamAt.ex {H H' : Hp} {f : Addr} {q : Str} {params : Arguments} {body : Expr} {scope : Scope} {ds : List Int} {cl : List (Str × Addr)} (e : Ex H H') (h : LamAt H f q params body scope ds cl) : LamAt H' f q params body scope ds cl := h.imp fun a o z _ _ => e a o z
theorem LamAt.exn {H H' : Hp} {f : Addr} {q : Str} {params : Arguments} {body : Expr} {scope : Scope} {ds : List Int} {cl : List (Str × Addr)} (e : ExtN H H') (h : LamAt H f q params body scope ds cl) : LamAt H' f q params body scope ds cl := h.imp fun a o z n _ => e a o z n
theorem LamAt.exb {H H' : Hp} {f l : Addr} {q : Str} {params : Arguments} {body : Expr} {scope : Scope} {ds : List Int} {cl : List (Str × Addr)} {ys : List V} (e : Exb l H H') (hl : H l = some (.lst ys)) (h : LamAt H f q params body scope ds cl) : LamAt H' f q params body scope ds cl :=
  h.imp fun a o z _ n => e a o (fun x => by rw [x, hl] at z; exact n ys (Option.some.inj z).symm) z
theorem ExtN.ofEx {H H' : Hp} (e : Ex H H') : ExtN H H' := fun b o h _ => e b o h
/-! ### making one -/
section
variable {X : Cx} {pins : List (Addr × Obj)} {σ : L2.St} {H : Hp} {s : Shared}
/-- the maker's tail, the default dV at hand -/
theorem lam_tail {T : List (Addr × Str)} {c P : Addr} {params : Arguments} {body : Expr} {scope : Scope} {pos : Pos} {dV : Value} {ds : List Int} {Q : Value → Shared → Prop} {E : Value → Shared → Prop} (I : Inv X pins σ H s) (TB : TabB X.base X.mg c P) (hcode : X.env.code = .ref c)
    (hm : (P, X.env.qual ++ "<lambda>") ∈ T) (hu : ∀ p ∈ T, p.1 = P → p.2 = X.env.qual ++ "<lambda>") (hT : Tabs T H) (hfree : ∀ y ∈ scope.names, y.2 = .free → ∃ c, X.env.cells.lookup y.1 = some c) (hd : DvAt H ds dV)
    (h : ∀ (f : Addr) (H1 : Hp) (s' : Shared), Inv X pins σ H1 s' → ExtN H H1 → Tabs T H1 → H f = none → LamAt H1 f (X.env.qual ++ "<lambda>") params body scope ds (cloFrom X.env.cells scope.names []) → Q (.ref f) s') :
    wpAny (model X.prog X.w) X.A (makeTail "<lambda>" (X.env.qual ++ "<lambda>") params (.expr body) scope X.env dV .none none pos pos.line) Q E s := by
  obtain ⟨ps, hP, ht, ha⟩ := hT _ hm
  have bP := TB.bm.keeps I.bk
  have hP' : s.heap.get? P = some { cls := .none, data := .fields ps } := I.hok P _ hP
  have lay : ∀ {H1 : Hp} {h1 : Heap} {c' : Addr} {doc pm ctv : Value} {tk : Nat}, Inv X pins σ H1 { s with heap := h1, toks := tk } → ExtN H H1 → Tabs T H1 → s.heap.objs.size ≤ h1.objs.size → H1 c' = some (CodeO c' (X.env.qual ++ "<lambda>")) →
      Q (.ref h1.objs.size) { s with heap := h1.push (PySem.W.kdv_obj "<lambda>" (X.env.qual ++ "<lambda>") params (.expr body) scope (cloFrom X.env.cells scope.names []) dV doc pm c' ctv), toks := tk } := fun {H1 h1 c' doc pm ctv tk} I1 e1 T1 hsz hc => by
    have nf : H1 h1.objs.size = none := I1.hok.fresh (Nat.le_refl _)
    have I2 := I1.laid (a := h1.objs.size) (o := LamO h1.objs.size (X.env.qual ++ "<lambda>") params body scope (cloFrom X.env.cells scope.names []) dV c') (t' := tk)
      (h' := h1.push (PySem.W.kdv_obj "<lambda>" (X.env.qual ++ "<lambda>") params (.expr body) scope (cloFrom X.env.cells scope.names []) dV doc pm c' ctv)) (fun b o e => Heap.get?_push_of_some _ e) (Nat.le_refl _)
      ⟨⟨doc, pm, ctv, Heap.get?_push_size _ rfl⟩, ⟨_, Heap.get?_push_size _ rfl⟩, fun _ _ ⟨d, p, c, z⟩ st => ⟨d, p, c, st _ z⟩⟩
    have e2 : Ex H1 (upd H1 h1.objs.size (LamO h1.objs.size (X.env.qual ++ "<lambda>") params body scope (cloFrom X.env.cells scope.names []) dV c')) := Ex.new nf
    refine h _ _ _ I2 (e1.trans (ExtN.ofEx e2)) (T1.ext e2) (I.hok.fresh hsz) ⟨dV, c', upd_same, e2 _ _ hc, ?_⟩
    rcases hd with hd | ⟨d, t, a1, a2, a3⟩
    · exact .inl hd
    · exact .inr ⟨d, t, a1, a2, e2 _ _ (e1 _ _ a3 fun _ z => by cases z)⟩
  cases hc : codeAmong pos ps.toList with
  | none =>
    refine PySem.W.kdv_makeTail (mg := X.mg) (c := c) (P := P) (ps := ps) (closure_ok hfree) I.ok.glob (I.mod.glob.keeps I.bk) hcode (TB.code.keeps I.bk) hP' ht hc TB.gP bP fun c' ctv doc h' tk hx hge hlt hrec htb => ?_
    obtain ⟨c2, oc, vs, t, e2, hoc, hd2, hv⟩ := hrec
    cases e2
    have nC : H c' = none := I.hok.fresh hge
    have I1 := inv_table (t' := tk) (more := #[rawInt pos.line, rawInt pos.col, .ref c']) (h' := h') (q := X.env.qual ++ "<lambda>") I hP (fun b o hb e => hx b o hb e) htb hge ⟨oc, vs, t, hoc, hd2, hv⟩
    have hE : ExtN H (upd (upd H P (.tbl (ps ++ #[rawInt pos.line, rawInt pos.col, .ref c']))) c' (CodeO c' (X.env.qual ++ "<lambda>"))) := fun b o e n => by
      have n1 : b ≠ c' := ne_of_none e nC
      have n2 : b ≠ P := fun z => by
        rw [z, hP] at e
        exact n ps (Option.some.inj e).symm
      rw [upd_ne n1, upd_ne n2]
      exact e
    have eL : (ps ++ #[rawInt pos.line, rawInt pos.col, .ref c']).toList = ps.toList ++ [rawInt pos.line, rawInt pos.col, .ref c'] := by simp
    refine lay I1 hE (fun p hp => ?_) (Nat.le_trans hge (Nat.le_of_lt hlt)) upd_same
    by_cases hb : p.1 = P
    · rw [hu p hp hb, hb]
      refine ⟨_, (upd_ne (ne_of_none hP nC)).trans upd_same, by rw [eL]; exact PySem.TriplesOk_snoc _ _ _ _ ht, fun p' cv hcv => ?_⟩
      rw [eL] at hcv
      rcases LamX.among_app _ ht hcv with z | z
      · obtain ⟨c0, y1, y2⟩ := ha p' cv z
        exact ⟨c0, y1, hE _ _ y2 LamX.codeO_ne⟩
      · exact ⟨c', z, upd_same⟩
    · obtain ⟨ps', a1, a2, a3⟩ := hT p hp
      refine ⟨ps', (upd_ne (ne_of_none a1 nC)).trans ((upd_ne hb).trans a1), a2, fun p' cv hcv => ?_⟩
      obtain ⟨c0, y1, y2⟩ := a3 p' cv hcv
      exact ⟨c0, y1, hE _ _ y2 LamX.codeO_ne⟩
  | some cv =>
    obtain ⟨c', e, hco⟩ := ha pos cv hc
    subst e
    refine PySem.W.kdv_makeTailHit (mg := X.mg) (c := c) (P := P) (ps := ps) (closure_ok hfree) I.ok.glob (I.mod.glob.keeps I.bk) hcode (TB.code.keeps I.bk) hP' ht hc bP fun ctv doc h' tk hx hsz => ?_
    have I1 : Inv X pins σ H { s with heap := h', toks := tk } := I.kept hx
    exact lay I1 (ExtN.refl H) hT hsz hco
/-- what a lambda of the def leaves: a new function object, its code object, perhaps a longer table -/
def tLamE (T : List (Addr × Str)) (q : Str) (params : Arguments) (body : Expr) (scope : Scope) (ds : List Int) (cl : List (Str × Addr)) : TE := fun _ H Q =>
  Tabs T H ∧ ∀ f H1, H f = none → ExtN H H1 → Tabs T H1 → LamAt H1 f q params body scope ds cl → Q (.ref f) H1
end
section
variable {X : Cx}
theorem pe_lam0 {T : List (Addr × Str)} {c P : Addr} {params : Arguments} {body : Expr} {scope : Scope} {pos : Pos} (TB : TabB X.base X.mg c P) (hcode : X.env.code = .ref c) (hm : (P, X.env.qual ++ "<lambda>") ∈ T) (hu : ∀ p ∈ T, p.1 = P → p.2 = X.env.qual ++ "<lambda>")
    (hf : ∀ y ∈ scope.names, y.2 = .free → X.env.scope.names.lookup y.1 = some .cell ∨ X.env.scope.names.lookup y.1 = some .free) (hd : defaultsOf params X.env = ([], []) := by rfl) :
    PE X (.Lambda params body scope pos) (tLamE T (X.env.qual ++ "<lambda>") params body scope [] (cloFrom X.env.cells scope.names [])) := by
  refine ⟨fun pins s σ H Q I h => ?_⟩
  obtain ⟨hT, h⟩ := h
  refine PySem.W.kla_eval hd ?_
  rw [makeFunction_eq]
  simp only [List.zip_nil_right, List.filterMap_nil, List.isEmpty_nil, if_true, pure_bind]
  exact lam_tail I TB hcode hm hu hT (fun y hy e => by
    rcases hf y hy e with k | k
    · exact I.ok.has _ (.inl k)
    · exact I.ok.has _ (.inr k)) (.inl ⟨rfl, rfl⟩) fun f H1 s' I1 e1 T1 n1 l1 => ⟨.ref f, H1, I1, rfl, h f H1 n1 e1 T1 l1⟩
theorem pe_lam1 {T : List (Addr × Str)} {c P : Addr} {params : Arguments} {body : Expr} {scope : Scope} {pos dp : Pos} {d : Int} {dk : Nat} (TB : TabB X.base X.mg c P) (hcode : X.env.code = .ref c) (hm : (P, X.env.qual ++ "<lambda>") ∈ T) (hu : ∀ p ∈ T, p.1 = P → p.2 = X.env.qual ++ "<lambda>")
    (hf : ∀ y ∈ scope.names, y.2 = .free → X.env.scope.names.lookup y.1 = some .cell ∨ X.env.scope.names.lookup y.1 = some .free) (hd : params.defaults = [.Constant (.int d) dk dp] := by rfl) (hk : params.kw_defaults = [] := by rfl) :
    PE X (.Lambda params body scope pos) (tLamE T (X.env.qual ++ "<lambda>") params body scope [d] (cloFrom X.env.cells scope.names [])) := by
  refine ⟨fun pins s σ H Q I h => ?_⟩
  obtain ⟨hT, h⟩ := h
  refine PySem.W.kdv_lam (by rw [hd]; rfl) hk ?_
  rw [hd]
  refine PySem.W.kdv_all1 (thn ((pe_int (X := X)).run pins s σ H (fun v H1 => v = .int d ∧ H1 = H) I ⟨rfl, rfl⟩) fun u s1 ⟨v, H1, I1, r1, q1⟩ => PySem.W.kdv_all0 ?_)
  obtain ⟨rfl, rfl⟩ := q1
  rw [makeFunction_eq]
  simp only [List.zip_nil_right, List.filterMap_nil, List.isEmpty_nil, if_true, pure_bind, List.isEmpty_cons, Bool.false_eq_true, if_false]
  refine wpAny_bind (wpAny_newTextTuple ?_)
  have np : H1 s1.heap.objs.size = none := I1.hok.fresh (Nat.le_refl _)
  have I2 := I1.laid (a := s1.heap.objs.size) (o := .tup [.int d]) (t' := s1.toks) (h' := s1.heap.push { cls := .type "tuple", data := .seq [u].toArray }) (fun b o e => Heap.get?_push_of_some _ e) (Nat.le_refl _)
    ⟨sz1000 (show 1 ≤ 1000 by decide), [u], .cons r1 .nil, IsTup.new _ _⟩
  have e2 : Ex H1 (upd H1 s1.heap.objs.size (.tup [.int d])) := Ex.new np
  exact lam_tail I2 TB hcode hm hu (hT.ext e2) (fun y hy e => by
    rcases hf y hy e with k | k
    · exact I.ok.has _ (.inl k)
    · exact I.ok.has _ (.inr k)) (.inr ⟨d, _, rfl, rfl, upd_same⟩) fun f H2 s' I3 e3 T3 n3 l3 => ⟨.ref f, H2, I3, rfl, h f H2 (by
      cases z : H1 f with
      | none => rfl
      | some o => rw [e2 _ _ z] at n3; cases n3) ((ExtN.ofEx e2).trans e3) T3 l3⟩
end
/-! ### the cells of the maker -/
structure CellsOk (h : Heap) (H : Hp) (N : List Str) (σ : L2.St) (cells : List (Str × Addr)) (sc : Scope) : Prop where
  inj : ∀ y z c, cells.lookup y = some c → cells.lookup z = some c → y = z
  has : ∀ y, sc.names.lookup y = some .cell ∨ sc.names.lookup y = some .free → ∃ c, cells.lookup y = some c
  cell : ∀ y c, cells.lookup y = some c → (∃ v, h.IsCell c v) ∧ H c = none
  val : ∀ (i : Nat) y v, N[i]? = some y → σ[i]? = some (some v) → (sc.names.lookup y = some .cell ∨ sc.names.lookup y = some .free) → ∃ c u, cells.lookup y = some c ∧ RelV v u ∧ h.IsCell c (some u)
section
variable {X : Cx} {pins : List (Addr × Obj)} {σ : L2.St} {H H' : Hp} {s : Shared} {h h' : Heap} {N : List Str} {cells : List (Str × Addr)} {sc : Scope}
theorem CellsOk.of (I : Inv X pins σ H s) : CellsOk s.heap H X.N σ X.env.cells X.env.scope where
  inj := I.ok.inj
  has := I.ok.has
  cell := fun y c e => ⟨I.cell y c e, I.freeC y c e⟩
  val := fun i y v e1 e2 e3 => by
    obtain ⟨m, _, hl⟩ := I.loc
    obtain ⟨u, r, q⟩ := hl i y v e1 e2 (.inr e3)
    rcases q with ⟨k, _⟩ | ⟨_, c, e, z⟩
    · have k : X.env.scope.names.lookup y = some .local := k
      rcases e3 with k' | k' <;> rw [k] at k' <;> cases k'
    · exact ⟨c, u, e, r, z⟩
theorem CellsOk.un {fs ex : List Addr} (C : CellsOk h H N σ cells sc) (U : Un fs ex H H' h h') (hx : ∀ y c, cells.lookup y = some c → c ∉ ex) : CellsOk h' H' N σ cells sc := by
  have key : ∀ {c : Addr} {v : Option Value}, H c = none → c ∉ ex → h.IsCell c v → h'.IsCell c v := fun {c v} n nx ⟨o, ho, hd⟩ => by
    obtain ⟨sl, q⟩ := U.any ho n nx
    exact ⟨_, q, hd⟩
  refine ⟨C.inj, C.has, fun y c e => ?_, fun i y v e1 e2 e3 => ?_⟩
  · obtain ⟨⟨v, z⟩, n⟩ := C.cell y c e
    refine ⟨⟨v, key n (hx y c e) z⟩, ?_⟩
    obtain ⟨o, ho, _⟩ := id z
    exact U.free c o ho n (hx y c e)
  · obtain ⟨c, u, e, r, z⟩ := C.val i y v e1 e2 e3
    exact ⟨c, u, e, r, key (C.cell y c e).2 (hx y c e) z⟩
end
/-! ### calling one -/
/-- a lambda's names: captured ones, globals, a parameter that the maker's names do not hold -/
structure LamS (N : List Str) (sc scope : Scope) (ps : List Str) : Prop where
  kind : scope.kind = .function
  co : scope.isCoroutine = false
  gen : scope.isGenerator = false
  noc : ∀ y ∈ scope.names, y.2 ≠ .cell
  own : ∀ y ∈ scope.names, y.2 = .local → y.1 ∉ N
  par : ∀ y ∈ ps, scope.names.lookup y = some .local
  free : ∀ y ∈ scope.names, y.2 = .free → sc.names.lookup y.1 = some .cell ∨ sc.names.lookup y.1 = some .free
def lamSB (N : List Str) (sc scope : Scope) (ps : List Str) : Bool :=
  decide (scope.kind = .function) && !scope.isCoroutine && !scope.isGenerator && (scope.names.all fun y => !decide (y.2 = .cell) && (!decide (y.2 = .local) || !N.contains y.1) && (!decide (y.2 = .free) || decide (sc.names.lookup y.1 = some .cell) || decide (sc.names.lookup y.1 = some .free))) && ps.all fun y => decide (scope.names.lookup y = some .local)
theorem lamS_of {N : List Str} {sc scope : Scope} {ps : List Str} (h : lamSB N sc scope ps = true) : LamS N sc scope ps := by
  unfold lamSB at h
  simp only [Bool.and_eq_true, Bool.or_eq_true, Bool.not_eq_true', decide_eq_true_eq, decide_eq_false_iff_not, List.all_eq_true] at h
  obtain ⟨⟨⟨⟨k1, k2⟩, k3⟩, k4⟩, k5⟩ := h
  refine ⟨k1, k2, k3, fun y hy => (k4 y hy).1.1, fun y hy e => ?_, k5, fun y hy e => ?_⟩
  · rcases (k4 y hy).1.2 with z | z
    · exact absurd e z
    · intro m
      rw [List.contains_iff_mem.mpr m] at z
      cases z
  · rcases (k4 y hy).2 with (z | z) | z
    · exact absurd e z
    · exact .inl z
    · exact .inr z
/-- the frame of a lambda's call -/
abbrev lamE (qual : Str) (scope : Scope) (cells : List (Str × Addr)) (L f c' : Addr) : Env := PySem.W.envX qual scope L f (.ref c') (cloFrom cells scope.names [])
/-- the context of a lambda's body: N, the maker's names; cells, the maker's cells; entered at s -/
def lamX (P : Program) (w : World) (K : PySem.W.Frag) (mg : Str → Option Value) (base : Heap) (N : List Str) (qual : Str) (scope : Scope) (cells : List (Str × Addr)) (A : Around) (outer : List Env) (s : Shared) (H : Hp) (E : XK) (f c' : Addr) : Cx where
  prog := P
  w := w
  K := K
  mg := mg
  base := base
  A := A.deeper (lamE qual scope cells s.heap.objs.size f c')
  N := N
  s_0 := s
  H_0 := H
  env := lamE qual scope cells s.heap.objs.size f c'
  outer := outer
  stack := lamE qual scope cells s.heap.objs.size f c' :: outer
  ex := []
  fn := fun _ => false
  calm := true
  pn := []
  xe := fun e s' => wpAny (model P w) (A.deeper (lamE qual scope cells s.heap.objs.size f c')) (leaving (lamE qual scope cells s.heap.objs.size f c') e) (fun _ s'' => L2.CX P w outer H s E e s'') (fun e' s'' => L2.CX P w outer H s E e' s'') s'
section
variable {P : Program} {w : World} {K : PySem.W.Frag} {mg : Str → Option Value} {base : Heap} {N : List Str} {σ : L2.St} {cells : List (Str × Addr)} {sc scope : Scope} {H : Hp} {s : Shared} {qual : Str} {ps : List Str}
theorem lam_enter {A : Around} {outer : List Env} {E : XK} {f c' : Addr} {h₁ : Heap} {tk : Nat} {m : Str → Option Value} (C : CellsOk s.heap H N σ cells sc) (hl : σ.length = N.length) (L : LamS N sc scope ps) (e0 : Env0 P w K mg base A outer s H) (hd : A.handled = none)
    (hns : h₁.Ns s.heap.objs.size m) (kp : ∀ b o, s.heap.get? b = some o → h₁.get? b = some o) :
    Inv (lamX P w K mg base N qual scope cells A outer s H E f c') [] σ H { s with heap := h₁, toks := tk } := by
  have hfree : ∀ y ∈ scope.names, y.2 = .free → ∃ c, cells.lookup y.1 = some c := fun y hy e => C.has _ (L.free y hy e)
  have cm : ∀ {y c}, (cloFrom cells scope.names []).lookup y = some c → cells.lookup y = some c := fun {y c} e => by
    rcases cloFrom_mem (PySem.mem_of_lookup e) with hm | ⟨h1, h2⟩
    · cases hm
    · obtain ⟨c1, hc⟩ := hfree _ h1 rfl
      have hc : cells.lookup y = some c1 := hc
      rw [hc] at h2
      have e2 : c = c1 := h2
      rw [e2]
      exact hc
  have look : ∀ {y}, scope.names.lookup y = some .free → ∃ c, (cloFrom cells scope.names []).lookup y = some c := fun {y} e => mem_lookup (cloFrom_has (cells := cells) (acc := []) (show (y, NameKind.free) ∈ scope.names from PySem.mem_of_lookup e))
  have ck : ∀ {c : Addr} {v : Option Value}, s.heap.IsCell c v → h₁.IsCell c v := fun {c v} ⟨o, ho, hd⟩ => ⟨_, kp _ _ ho, hd⟩
  have none_in : ∀ b : Addr, b ∉ (lamX P w K mg base N qual scope cells A outer s H E f c').ex := fun b z => absurd (show b ∈ ([] : List Addr) from z) (by simp)
  have okX : (lamX P w K mg base N qual scope cells A outer s H E f c').Ok :=
    ⟨e0.mod, L.kind, rfl, rfl, Nat.le_refl _, fun y z c e1 e2 => C.inj y z c (cm e1) (cm e2), fun y hy => by
      rcases (show scope.names.lookup y = some .cell ∨ scope.names.lookup y = some .free from hy) with k | k
      · exact absurd rfl (L.noc _ (PySem.mem_of_lookup k))
      · exact look k, fun y c z _ => absurd (show false = true from z) Bool.false_ne_true, fun _ => hd, Around.frames_deeper e0.frames, .inr ⟨rfl, rfl⟩, fun b z => absurd z (none_in b), e0.bs, e0.bsz, fun b _ _ => none_in b, fun b z => absurd z (none_in b), e0.funs, e0.frf⟩
  refine ⟨okX, rfl, e0.bare, Un.kept kp, ⟨m, hns, fun i y v e1 e2 e3 => ?_⟩, fun y c e => ?_, e0.hok.fresh (Nat.le_refl _), fun y c e => (C.cell y c (cm e)).2, fun q hq => absurd (show q ∈ ([] : List (Addr × Obj)) ++ [] from hq) (by simp), e0.hok.kept kp, hl⟩
  · rcases (show Vis scope y from e3) with k | k | k
    · exact absurd (List.mem_of_getElem? e1) (L.own _ (PySem.mem_of_lookup k) rfl)
    · exact absurd rfl (L.noc _ (PySem.mem_of_lookup k))
    · obtain ⟨c, u, h1, r, z⟩ := C.val i y v e1 e2 (L.free _ (PySem.mem_of_lookup k) rfl)
      obtain ⟨c2, h2⟩ := look k
      have h3 := cm h2
      rw [h1] at h3
      cases h3
      exact ⟨u, r, .inr ⟨.inr k, c, h2, ck z⟩⟩
  · obtain ⟨⟨v, z⟩, _⟩ := C.cell y c (cm e)
    exact ⟨v, ck z⟩
/-- what the parameters ps are bound to, when nothing is handed over -/
structure LamB (params : Arguments) (ps : List Str) (ds : List Int) : Prop where
  none_ : ds = [] → ps = [] ∧ ∀ (q : Str) (body : FuncBody) (scope : Scope) (cl : List (Str × Addr)) (doc pm cd ct : Value), bindArgs (PySem.W.kdv_fn "<lambda>" q params body scope cl .none doc pm cd ct) ⟨[], []⟩ = pure []
  one : ∀ d, ds = [d] → ∃ a, ps = [a] ∧ ∀ (q : Str) (body : FuncBody) (scope : Scope) (cl : List (Str × Addr)) (dV doc pm cd ct : Value), ∃ k : Option (Array Value) → Sem (List (Str × Value)),
    bindArgs (PySem.W.kdv_fn "<lambda>" q params body scope cl dV doc pm cd ct) ⟨[], []⟩ = seqItems? dV >>= k ∧ ∀ v, k (some #[v]) = pure [(a, v)]
end
section
variable {Z : Cx} {pins : List (Addr × Obj)} {σZ σ : L2.St} {H : Hp} {s : Shared} {N : List Str} {cells : List (Str × Addr)} {sc scope : Scope} {qual : Str} {ps : List Str} {ds : List Int} {params : Arguments} {body : Expr} {f : Addr} {Q : VK} {E : XK} {tb : TE} {k : Nat}
/-- f(), f a lambda that stands -/
theorem lam_run (I : Inv Z pins σZ H s) (C : CellsOk s.heap H N σ cells sc) (hl : σ.length = N.length) (L : LamS N sc scope ps) (B : LamB params ps ds) (hf : LamAt H f qual params body scope ds (cloFrom cells scope.names [])) (hr : Room (k + 1) Z.A)
    (hbody : ∀ (A : Around) (outer : List Env) (s : Shared) (H : Hp) (f c' : Addr), Room k (A.deeper (lamE qual scope cells s.heap.objs.size f c')) → PE (lamX Z.prog Z.w Z.K Z.mg Z.base N qual scope cells A outer s H E f c') body tb)
    (ht : tb σ H Q) (hx : PassesAt (L2.CX Z.prog Z.w) Z σZ E) : wpAny (model Z.prog Z.w) Z.A (call (.ref f) []) (EP Z pins σZ Q) Z.xe s := by
  obtain ⟨dV, c', h1, h2, hD⟩ := hf
  obtain ⟨⟨doc, pm, ctv, of⟩, _, _⟩ := I.hok f _ h1
  obtain ⟨⟨oc, vs, t, hoc, hdc, hvc⟩, _, _⟩ := I.hok c' _ h2
  have hb : ∃ bs : List (Str × Value), (∀ y ∈ bs, scope.names.lookup y.1 = some .local) ∧ BindsTo s (PySem.W.kdv_fn "<lambda>" qual params (.expr body) scope (cloFrom cells scope.names []) dV doc pm (.ref c') ctv) ⟨[], []⟩ bs := by
    rcases hD with ⟨e1, e2⟩ | ⟨d, t, e1, e2, e3⟩
    · subst e1 e2
      obtain ⟨hp, hb⟩ := B.none_ rfl
      exact ⟨[], (fun y hy => absurd hy (by simp)), BindsTo.of_eq (hb _ _ _ _ _ _ _ _)⟩
    · subst e1 e2
      obtain ⟨a, hp, hb⟩ := B.one d rfl
      obtain ⟨kk, hb1, hb2⟩ := hb qual (.expr body) scope (cloFrom cells scope.names []) (.ref t) doc pm (.ref c') ctv
      obtain ⟨_, its, rv, o, ho, hoc, n, hod⟩ := I.hok t _ e3
      obtain ⟨u, hu, _⟩ : ∃ u, its = [u] ∧ RelV (.int d) u := by
        cases rv with
        | cons r rr =>
          cases rr
          exact ⟨_, rfl, r⟩
      subst hu
      refine ⟨[(a, u)], fun y hy => ?_, BindsTo.of_defaults (o := o) rfl ho hod hb1 (hb2 u)⟩
      rw [List.mem_singleton.mp hy]
      exact L.par a (by rw [hp]; exact List.mem_cons_self)
  obtain ⟨bs, hloc, hbind⟩ := hb
  have rc : codeAny (model Z.prog Z.w) Z.A (.call (.ref f) ⟨[], []⟩) (CR (L2.CX Z.prog Z.w) Z.stack Z.prog Z.w H s Q E) s := by
    refine PySem.W.kla_callFunE hr.depth of rfl L.co L.gen rfl ⟨c', oc, vs, t, rfl, hoc, hdc, hvc⟩ (hbind _ _ _ _ ?_)
    refine wpAny_newFunctionEnv L.noc hloc (fun h₁ hns hsb => ⟨I.nolimit.fresh _ hsb, ?_⟩) L.kind
    show codeAny _ _ (.expr body (lamE qual scope cells s.heap.objs.size f c')) _ _
    have kp : ∀ b o, s.heap.get? b = some o → h₁.get? b = some o := fun b o e => hsb.extBut b o (Nat.ne_of_lt (Heap.lt_size e)) (Heap.get?_push_of_some _ e)
    have J := lam_enter (qual := qual) (E := E) (f := f) (c' := c') (tk := s.toks + bs.length) C hl L I.env0 hr.hd hns kp
    refine PySem.W.kla_codeExpr (wpAny_mono ((hbody Z.A Z.stack s H f c' (hr.deeper _)).run [] _ _ H Q J ht) (fun v s' hq => ?_) fun e s' hq => hq)
    obtain ⟨w', H', J', rv, q⟩ := hq
    exact ⟨w', H', J'.os, J'.bare, J'.base, J'.hok, rv, q⟩
  refine wpAny_call (codeAny_mono rc fun r s' hq => ?_)
  cases r with
  | error e => exact hx pins H s e s' I hq
  | ok fl =>
    cases fl with
    | ret u => exact I.after hq
    | next => exact False.elim hq
    | brk => exact False.elim hq
    | cont => exact False.elim hq
end
/-! ### list.count, flat items -/
def rCntF (K : PySem.W.Frag) : V → List V → Hp → VK → Prop := fun x xs H Q => ∃ (p : Addr) (ys : List V) (y : V), x = .ref p ∧ xs = [y] ∧ SqL K H p ys ∧ flatV y = true ∧ ys.all flatV = true ∧ Q (.int (ys.countP fun z => eqV z y : Nat)) H
theorem cnt_vals {x : V} : ∀ {ys : List V} {its : List Value}, Vals ys its → ys.all flatV = true → its.countP (eqU x) = ys.countP fun z => eqV z x
  | [], [], _, _ => rfl
  | y :: ys, v :: its, h, f => by
    cases h with
    | cons r rr =>
      have f' : flatV y = true ∧ ys.all flatV = true := by simpa using f
      rw [List.countP_cons, List.countP_cons, cnt_vals rr f'.2, eqU_of r f'.1]
theorem mt_countF {X : Cx} : MtR X "list.count" (rCntF X.K) := by
  intro pins s σ H x xs v us Q I rx rxs h
  obtain ⟨p, ys, y, rfl, rfl, hs, fy, fys, q⟩ := h
  cases rx
  obtain ⟨u, rfl, ru⟩ := rxs.one
  obtain ⟨its, rv, ⟨⟨cls, dd, data, sl⟩, n, ho, hc, hdn, hd⟩, hlen⟩ := I.list hs
  simp only at hc hd
  subst hc hd
  refine call_meets PySem.F.slot_list_count ⟨_, ho, rfl⟩ PySem.F.entry_list_count (PySem.F.args_list_count_2 _ _)
    (SeqAt.list_countAt p its.toArray n dd sl u (eqU y)) ⟨ho, fun z hz => mem_eqAt ru fy rv fys z (by simpa using hz), ?_⟩
  have e : its.toArray.toList.countP (eqU y) = ys.countP fun z => eqV z y := cnt_vals rv fys
  rw [e]
  exact ⟨.int _, H, I.tok _, ⟨_, rfl⟩, q⟩
/-! ### the lambdas of a def -/
structure LamD where
  params : Arguments
  body : Expr
  scope : Scope
  ps : List Str
  ds : List Int
  t : XK → TE
def LamD.at_ (l : LamD) (H : Hp) (f : Addr) (q : Str) (cells : List (Str × Addr)) : Prop := LamAt H f q l.params l.body l.scope l.ds (cloFrom cells l.scope.names [])
/-- a lambda of the text, its body's reading t -/
structure LamOk (P : Program) (w : World) (K : PySem.W.Frag) (mg : Str → Option Value) (base : Heap) (N : List Str) (sc : Scope) (cells : List (Str × Addr)) (qual : Str) (k : Nat) (l : LamD) : Prop where
  S : LamS N sc l.scope l.ps
  B : LamB l.params l.ps l.ds
  body : ∀ (A : Around) (outer : List Env) (s : Shared) (H : Hp) (E : XK) (f c' : Addr), Room k (A.deeper (lamE qual l.scope cells s.heap.objs.size f c')) → PE (lamX P w K mg base N qual l.scope cells A outer s H E f c') l.body (l.t E)
/-- where the cells of the maker hold σ -/
def Sees (Z : Cx) (N : List Str) (σ : L2.St) (cells : List (Str × Addr)) (sc : Scope) : Prop := ∀ (pins : List (Addr × Obj)) (s : Shared) (σZ : L2.St) (H : Hp), Inv Z pins σZ H s → CellsOk s.heap H N σ cells sc
/-- x(), x a name that holds one of the lambdas -/
def tLamV (i : Nat) (LO : LamD → Prop) (qual : Str) (cells : List (Str × Addr)) (σ : L2.St) (E : L2.St → XK) : TE := fun σZ H Q => ∃ f l, σZ[i]? = some (some (.ref f)) ∧ LO l ∧ l.at_ H f qual cells ∧ l.t (E σZ) σ H Q
theorem pe_lamV {Z : Cx} {N : List Str} {σ : L2.St} {sc : Scope} {cells : List (Str × Addr)} {qual a : Str} {LO : LamD → Prop} {i k : Nat} {E : L2.St → XK} {p1 p2 : Pos} (hC : Sees Z N σ cells sc) (hl : σ.length = N.length) (hL : ∀ l, LO l → LamOk Z.prog Z.w Z.K Z.mg Z.base N sc cells qual k l) (hr : Room (k + 1) Z.A)
    (hx : ∀ σZ, PassesAt (L2.CX Z.prog Z.w) Z σZ (E σZ)) (hN : Z.N[i]? = some a) (hv : Vis Z.env.scope a) (hd : (a == ("__debug__" : Str)) = false := by decide) (hcd : (a == ("__classdict__" : Str)) = false := by decide) : PE Z (.Call (.Name a p1) [] [] p2) (tLamV i LO qual cells σ E) := by
  refine ⟨fun pins s σZ H Q I h => ?_⟩
  obtain ⟨f, l, hi, hm, la, ht⟩ := h
  refine wpAny_Call_Name_kw (thn ((pe_var (pos := p1) (i := i) hN hv hd hcd).run pins s σZ H (fun v H1 => v = .ref f ∧ H1 = H) I ⟨.ref f, hi, rfl, rfl⟩) fun u s1 ⟨v, H1, I1, r1, q1⟩ => ?_)
  obtain ⟨rfl, rfl⟩ := q1
  obtain rfl : u = Value.ref f := r1
  obtain ⟨_, _, h1, _⟩ := id la
  obtain ⟨⟨doc, pm, ctv, of⟩, _, _⟩ := I1.hok f _ h1
  refine PySem.W.callWith_F0 ⟨_, _, _, _, of⟩ ?_
  have O := hL l hm
  exact lam_run I1 (hC pins s1 σZ H1 I1) hl O.S O.B la hr (fun A outer s H f c' hr2 => O.body A outer s H (E σZ) f c' hr2) ht (hx σZ)
/-- a def that calls what it got: a names it; TT: what it makes of the lambda's reading -/
def GivesL (P : Program) (w : World) (K : PySem.W.Frag) (mg : Str → Option Value) (base : Heap) (Ng : List Str) (x : Str) (st : Stmt) (a : Str) (j : Nat) (TT : (XK → Hp → VK → Prop) → Hp → VK → Prop) : Prop :=
  ∀ (g : Addr) (cdg : Value) (A : Around) (outer : List Env) (s : Shared) (H : Hp) (f : Addr) (Q : VK) (LF : Hp → Prop) (tl : XK → Hp → VK → Prop), Room j (A.deeper (envOfC x (defScope st) s.heap.objs.size g cdg)) →
    (∀ (W : WX) (pn : List (Addr × Obj)) (xe : Value → Shared → Prop) (E : L2.St → XK) (p1 p2 : Pos), Takes ((cxOf L2.CX0 P w K mg base Ng x (defScope st) g cdg A outer s H (fun _ _ _ => False)).nox.tr pn xe) W → (∀ σ' cls d H', E σ' cls d H' → W cls d σ' H') →
      PE ((cxOf L2.CX0 P w K mg base Ng x (defScope st) g cdg A outer s H (fun _ _ _ => False)).nox.tr pn xe) (.Call (.Name a p1) [] [] p2) (fun σZ HZ Q => σZ[0]? = some (some (.ref f)) ∧ LF HZ ∧ tl (E σZ) HZ Q)) →
    LF H → TT tl H Q → ∃ t, PSs (cxOf L2.CX0 P w K mg base Ng x (defScope st) g cdg A outer s H (fun _ _ _ => False)).nox (defBody st) t ∧ t { nx := fun _ H' => Q .non H', rt := Q } (L2.start Ng [.ref f]) H
/-- x(e), e one of the lambdas, x the def that calls it -/
def tTold (ta : TA) (LO : LamD → Prop) (qual : Str) (cells : List (Str × Addr)) (sg : L2.St → L2.St) (TT : (XK → Hp → VK → Prop) → Hp → VK → Prop) : TE := fun σ H Q =>
  ta σ H fun vs H1 => ∃ f l, vs = [.ref f] ∧ LO l ∧ l.at_ H1 f qual cells ∧ TT (fun E H' Q' => l.t E (sg σ) H' Q') H1 Q
theorem pe_told {Y : Cx} {N Ng : List Str} {sg : L2.St → L2.St} {sc : Scope} {cells : List (Str × Addr)} {qual x a : Str} {LO : LamD → Prop} {k j : Nat} {TT : (XK → Hp → VK → Prop) → Hp → VK → Prop} {st : Stmt} {ta : TA} {e : Expr} {p pos : Pos}
    (hC : ∀ (pins : List (Addr × Obj)) (s : Shared) (σ : L2.St) (H : Hp), Inv Y pins σ H s → CellsOk s.heap H N (sg σ) cells sc ∧ (sg σ).length = N.length) (hL : ∀ l, LO l → LamOk Y.prog Y.w Y.K Y.mg Y.base N sc cells qual k l) (hr : Room j Y.A)
    (G : GFun Y.K Y.mg x st) (Sg : FnScope Ng [a] (defScope st)) (hb : BindL x x st [a]) (hG : GivesL Y.prog Y.w Y.K Y.mg Y.base Ng x st a (k + 1) TT) (hNg : Ng[0]? = some a) (hva : Vis (defScope st) a) (ha : PA Y [e] ta) (hk : k + 2 ≤ j := by decide) (hg : Gl Y x := by rfl)
    (hdb : (x == ("__debug__" : Str)) = false := by decide) (hd : (a == ("__debug__" : Str)) = false := by decide) (hcd : (a == ("__classdict__" : Str)) = false := by decide)
    (hst : starEach [e] Y.env = (false, eval e Y.env) :: starEach [] Y.env := by rfl) (hpl : (backTo pos (starEach [] Y.env)).any (·.1) = false := by rfl) :
    PE Y (.Call (.Name x p) [e] [] pos) (tTold ta LO qual cells sg TT) := by
  refine ⟨fun pins s σ H Q I h => ?_⟩
  obtain ⟨g, fd, hm, F⟩ := G.ex
  have kp := F.kp
  obtain ⟨oc, od, kV, doc, pm, an, cdv, ct, osl, rfl, lk, hcd2⟩ := F.ex
  refine wpAny_Call_Name_kw (ld_glob I hg hm ?_ hdb)
  refine PySem.W.callWith_K (h₀ := Y.base) I.ok.mod.kin kp (thn (ha.run pos pins s σ H _ I h) fun us s1 hh => ?_) hst hpl
  obtain ⟨vs, H1, I1, r1, f, l, ev, hml, la, ht⟩ := hh
  subst ev
  refine ⟨I1.kIn, ?_⟩
  have hu : us = [.ref f] := by
    cases r1 with
    | cons ru rn =>
      cases rn
      cases ru
      rfl
  subst hu
  have O := hL l hml
  obtain ⟨C1, hl1⟩ := hC pins s1 σ H1 I1
  have r : Room (k + 2) Y.A := hr.mono hk
  have rc : codeAny (model Y.prog Y.w) Y.A (.call (.ref g) ⟨[.ref f], []⟩) (CR L2.CX0 Y.stack Y.prog Y.w H1 s1 Q (fun _ _ _ => False)) s1 := by
    refine LamX.run_ofS (N := Ng) (ps := [a]) (us := [.ref f]) (vs := [.ref f]) lk hcd2 Sg r I1.env0 (BindsTo.of_eq (hb _ _ _ _ _ _ [.ref f] rfl)) (.cons rfl .nil) rfl fun hr' => ?_
    have act : ∀ (W : WX) (pn : List (Addr × Obj)) (xe : Value → Shared → Prop) (E : L2.St → XK) (p1 p2 : Pos), Takes ((cxOf L2.CX0 Y.prog Y.w Y.K Y.mg Y.base Ng x (defScope st) g cdv Y.A Y.stack s1 H1 (fun _ _ _ => False)).nox.tr pn xe) W → (∀ σ' cls d H', E σ' cls d H' → W cls d σ' H') →
        PE ((cxOf L2.CX0 Y.prog Y.w Y.K Y.mg Y.base Ng x (defScope st) g cdv Y.A Y.stack s1 H1 (fun _ _ _ => False)).nox.tr pn xe) (.Call (.Name a p1) [] [] p2) (fun σZ HZ Q => σZ[0]? = some (some (.ref f)) ∧ l.at_ HZ f qual cells ∧ l.t (E σZ) (sg σ) HZ Q) := fun W pn xe E p1 p2 tk hW => by
      have V := pe_lamV (Z := (cxOf L2.CX0 Y.prog Y.w Y.K Y.mg Y.base Ng x (defScope st) g cdv Y.A Y.stack s1 H1 (fun _ _ _ => False)).nox.tr pn xe) (N := N) (σ := sg σ) (sc := sc) (cells := cells) (qual := qual) (a := a) (LO := LO) (i := 0) (k := k) (E := E) (p1 := p1) (p2 := p2)
        (fun pinsZ sZ σZ HZ IZ => C1.un IZ.base fun y c _ z => absurd (show c ∈ ([] : List Addr) from z) (by simp)) hl1 hL hr' (fun σZ pinsZ HZ sZ e s' IZ c => tk e s' (XE.of_call IZ (fun cls d H' h => hW σZ cls d H' h) c)) hNg hva hd hcd
      refine ⟨fun pinsZ sZ σZ HZ Q IZ hh => V.run pinsZ sZ σZ HZ Q IZ ?_⟩
      obtain ⟨a1, a2, a3⟩ := hh
      exact ⟨f, l, a1, hml, a2, a3⟩
    obtain ⟨t', ht', hq'⟩ := hG g cdv Y.A Y.stack s1 H1 f Q (fun H' => l.at_ H' f qual cells) (fun E H' Q' => l.t E (sg σ) H' Q') hr' act la ht
    exact ⟨t', ht'.nox, hq'⟩
  refine wpAny_call (codeAny_mono rc fun r s2 hq => ?_)
  cases r with
  | error e => exact (show False from hq).elim
  | ok fl =>
    cases fl with
    | ret u => exact I1.after hq
    | next => exact False.elim hq
    | brk => exact False.elim hq
    | cont => exact False.elim hq
/-! ### x(lambda: ..) -/
def tToldL (T : List (Addr × Str)) (t : XK → TE) (TT : (XK → Hp → VK → Prop) → Hp → VK → Prop) : TE := fun σ H Q => Tabs T H ∧ ∀ H1, ExtN H H1 → Tabs T H1 → TT (fun E H' Q' => t E σ H' Q') H1 Q
section
variable {X : Cx} {Ng : List Str} {x a : Str} {j : Nat} {TT : (XK → Hp → VK → Prop) → Hp → VK → Prop} {st : Stmt} {T : List (Addr × Str)} {c P : Addr} {params : Arguments} {body : Expr} {scope : Scope} {lpos p pos : Pos} {t : XK → TE} {k : Nat}
theorem pe_toldL0 (TB : TabB X.base X.mg c P) (hcode : X.env.code = .ref c) (hm : (P, X.env.qual ++ "<lambda>") ∈ T) (hu : ∀ p ∈ T, p.1 = P → p.2 = X.env.qual ++ "<lambda>") (hr : Room j X.A)
    (G : GFun X.K X.mg x st) (Sg : FnScope Ng [a] (defScope st)) (hb : BindL x x st [a]) (hG : GivesL X.prog X.w X.K X.mg X.base Ng x st a (k + 1) TT) (hNg : Ng[0]? = some a) (hva : Vis (defScope st) a)
    (S : LamS X.N X.env.scope scope []) (B : LamB params [] [])
    (hbody : ∀ (A : Around) (outer : List Env) (s : Shared) (H : Hp) (E : XK) (f c' : Addr), Room k (A.deeper (lamE (X.env.qual ++ "<lambda>") scope X.env.cells s.heap.objs.size f c')) → PE (lamX X.prog X.w X.K X.mg X.base X.N (X.env.qual ++ "<lambda>") scope X.env.cells A outer s H E f c') body (t E))
    (hk : k + 2 ≤ j := by decide) (hg : Gl X x := by rfl) (hdb : (x == ("__debug__" : Str)) = false := by decide) (hd : (a == ("__debug__" : Str)) = false := by decide) (hcd : (a == ("__classdict__" : Str)) = false := by decide) (hdf : defaultsOf params X.env = ([], []) := by rfl) :
    PE X (.Call (.Name x p) [.Lambda params body scope lpos] [] pos) (tToldL T t TT) := by
  have L := pe_told (Y := X) (N := X.N) (sg := id) (sc := X.env.scope) (cells := X.env.cells) (qual := X.env.qual ++ "<lambda>") (LO := fun l => l = ⟨params, body, scope, [], [], t⟩) (p := p) (pos := pos)
    (fun pins s σ H I => ⟨CellsOk.of I, I.len⟩) (fun l hl => by
      rw [show l = _ from hl]
      exact ⟨S, B, hbody⟩) hr G Sg hb hG hNg hva (pa_cons (pe_lam0 (pos := lpos) (body := body) (T := T) TB hcode hm hu S.free hdf) pa_nil) hk hg hdb hd hcd
  refine ⟨fun pins s σ H Q I h => L.run pins s σ H Q I ?_⟩
  exact ⟨h.1, fun f H1 n1 e1 T1 l1 => ⟨f, _, rfl, rfl, l1, h.2 H1 e1 T1⟩⟩
theorem pe_toldL1 {y : Str} {d : Int} {dk : Nat} {dp : Pos} (TB : TabB X.base X.mg c P) (hcode : X.env.code = .ref c) (hm : (P, X.env.qual ++ "<lambda>") ∈ T) (hu : ∀ p ∈ T, p.1 = P → p.2 = X.env.qual ++ "<lambda>") (hr : Room j X.A)
    (G : GFun X.K X.mg x st) (Sg : FnScope Ng [a] (defScope st)) (hb : BindL x x st [a]) (hG : GivesL X.prog X.w X.K X.mg X.base Ng x st a (k + 1) TT) (hNg : Ng[0]? = some a) (hva : Vis (defScope st) a)
    (S : LamS X.N X.env.scope scope [y]) (B : LamB params [y] [d])
    (hbody : ∀ (A : Around) (outer : List Env) (s : Shared) (H : Hp) (E : XK) (f c' : Addr), Room k (A.deeper (lamE (X.env.qual ++ "<lambda>") scope X.env.cells s.heap.objs.size f c')) → PE (lamX X.prog X.w X.K X.mg X.base X.N (X.env.qual ++ "<lambda>") scope X.env.cells A outer s H E f c') body (t E))
    (hk : k + 2 ≤ j := by decide) (hg : Gl X x := by rfl) (hdb : (x == ("__debug__" : Str)) = false := by decide) (hd : (a == ("__debug__" : Str)) = false := by decide) (hcd : (a == ("__classdict__" : Str)) = false := by decide)
    (hdf : params.defaults = [.Constant (.int d) dk dp] := by rfl) (hkd : params.kw_defaults = [] := by rfl) :
    PE X (.Call (.Name x p) [.Lambda params body scope lpos] [] pos) (tToldL T t TT) := by
  have L := pe_told (Y := X) (N := X.N) (sg := id) (sc := X.env.scope) (cells := X.env.cells) (qual := X.env.qual ++ "<lambda>") (LO := fun l => l = ⟨params, body, scope, [y], [d], t⟩) (p := p) (pos := pos)
    (fun pins s σ H I => ⟨CellsOk.of I, I.len⟩) (fun l hl => by
      rw [show l = _ from hl]
      exact ⟨S, B, hbody⟩) hr G Sg hb hG hNg hva (pa_cons (pe_lam1 (pos := lpos) (body := body) (T := T) TB hcode hm hu S.free hdf hkd) pa_nil) hk hg hdb hd hcd
  refine ⟨fun pins s σ H Q I h => L.run pins s σ H Q I ?_⟩
  exact ⟨h.1, fun f H1 n1 e1 T1 l1 => ⟨f, _, rfl, rfl, l1, h.2 H1 e1 T1⟩⟩
end
theorem lamB0 {params : Arguments} (h : ∀ (q : Str) (body : FuncBody) (scope : Scope) (cl : List (Str × Addr)) (doc pm cd ct : Value), bindArgs (PySem.W.kdv_fn "<lambda>" q params body scope cl .none doc pm cd ct) ⟨[], []⟩ = pure []) : LamB params [] [] := ⟨fun _ => ⟨rfl, h⟩, fun d e => by cases e⟩
/-! ### an own class of errors, what a law's told asks of it -/
def exNames : List Str := ["InvalidRing", "InvalidChain", "UnknownReader", "UnknownBook", "InvalidNumber", "SameBook", "OtherRing"]
def exNm (j : Nat) : Str := exNames.getD j "other"
structure ExcT (K : PySem.W.Frag) (D : Addr) (j : Nat) : Prop where
  ex : PySem.W.excIn K D He.veBase "ValueError.__new__" = true
  kp : PySem.W.keepIn K (.ref D) = true
  sb : PySem.W.subIn K (.ref D) (.type "BaseException") = some true
  ty : PySem.W.typeIn K (.ref D) = some (.type "type")
  c : ExcC K D
  is_ : ∀ i, i < 7 → PySem.W.kitOne K (.ref D) (.ref (He.ga K (exNm i))) = some (decide (i = j))
  ve : PySem.W.kitOne K (.ref D) (.type "ValueError") = some true
  re : PySem.W.exmOne K (.ref D) (.ref (He.ga K "ReadingError")) = some true
def excCB (K : PySem.W.Frag) (D : Addr) : Bool := He.eqO (PySem.W.findIn K (.ref D) "__getattribute__") (some (some (.builtin "BaseException.__getattribute__"))) && (He.eqO (PySem.W.findIn K (.ref D) "__getattr__") (some none) && (decide (PySem.W.subIn K (.ref D) (.type "BaseException") = some true) && (PySem.W.hasDictIn K D &&
  (He.eqO (PySem.W.findIn K (.ref D) "__class__") (some (some (.builtin "object.__class__"))) && (He.eqO (PySem.W.specialIn K (.builtin "object.__class__") "__get__") (some (some (.builtin "getset_descriptor.__get__"))) && (decide (PySem.W.takesIn K (.builtin "object.__class__") = some true) && decide (PySem.W.mroIn K D (.type "object") = some true)))))))
theorem excC_ok {K : PySem.W.Frag} {D : Addr} (h : excCB K D = true) : ExcC K D := by
  obtain ⟨h1, h⟩ := He.ba h
  obtain ⟨h2, h⟩ := He.ba h
  obtain ⟨h3, h⟩ := He.ba h
  obtain ⟨h4, h⟩ := He.ba h
  obtain ⟨h5, h⟩ := He.ba h
  obtain ⟨h6, h⟩ := He.ba h
  obtain ⟨h7, h8⟩ := He.ba h
  exact ⟨He.eqO_ok h1, He.eqO_ok h2, of_decide_eq_true h3, h4, He.eqO_ok h5, He.eqO_ok h6, of_decide_eq_true h7, of_decide_eq_true h8⟩
def excTB (K : PySem.W.Frag) (D : Addr) (j : Nat) : Bool := PySem.W.excIn K D He.veBase "ValueError.__new__" && (PySem.W.keepIn K (.ref D) && (decide (PySem.W.subIn K (.ref D) (.type "BaseException") = some true) && (decide (PySem.W.typeIn K (.ref D) = some (.type "type")) && (excCB K D &&
  ((List.range 7).all (fun i => decide (PySem.W.kitOne K (.ref D) (.ref (He.ga K (exNm i))) = some (decide (i = j)))) && (decide (PySem.W.kitOne K (.ref D) (.type "ValueError") = some true) && decide (PySem.W.exmOne K (.ref D) (.ref (He.ga K "ReadingError")) = some true)))))))
theorem excT_ok {K : PySem.W.Frag} {D : Addr} {j : Nat} (h : excTB K D j = true) : ExcT K D j := by
  obtain ⟨h1, h⟩ := He.ba h
  obtain ⟨h2, h⟩ := He.ba h
  obtain ⟨h3, h⟩ := He.ba h
  obtain ⟨h4, h⟩ := He.ba h
  obtain ⟨h5, h⟩ := He.ba h
  obtain ⟨h6, h⟩ := He.ba h
  obtain ⟨h7, h8⟩ := He.ba h
  exact ⟨h1, h2, of_decide_eq_true h3, of_decide_eq_true h4, excC_ok h5, fun i hi => of_decide_eq_true (List.all_eq_true.mp h6 i (List.mem_range.mpr hi)), of_decide_eq_true h7, of_decide_eq_true h8⟩
/-- raise X('..') -/
theorem psr_own {X : Cx} {C : Addr} {W : WX} {x m : Str} {j n : Nat} {p p2 pos pos' : Pos} (T : ExcT X.K C n) (gC : X.mg x = some (.ref C)) (hc : X.calm = true) (tk : Takes X W) (hg : Gl X x := by rfl) (hdb : (x == ("__debug__" : Str)) = false := by decide) :
    PS X (.Raise (some (.Call (.Name x p) [.Constant (.str m) j p2] [] pos)) none pos') (fun _ σ H => W (.ref C) none σ H) :=
  ps_raise hc tk (pmk_own PySem.F.excBase_ValueError T.ex gC T.kp (raises_own T.sb T.ty) hg hdb)
/-- the suite of an error without a dict: its class is told -/
theorem pss_low {X : Cx} {a : Addr} {oe : Obj} {pn : List (Addr × Obj)} {cls : Value} {d : Option Addr} {body : List Stmt} {t : Addr → TS} (hz : Zc cls d oe) (h : ∀ Dc, Zc (.ref Dc) none oe → ExcC X.K Dc → PSs (X.suite a ((a, oe) :: pn)) body (t Dc)) :
    PSs (X.suite a ((a, oe) :: pn)) body (fun D σ H => ∃ Dc, cls = .ref Dc ∧ d = none ∧ ExcC X.K Dc ∧ t Dc D σ H) := by
  refine ⟨fun pins s σ H D I hh => ?_⟩
  obtain ⟨Dc, e1, e2, hC, q⟩ := hh
  rw [e1, e2] at hz
  exact (h Dc hz hC).run pins s σ H D I q
section
variable {X : Cx}
theorem mt_indexK (K : PySem.W.Frag) (h : X.K = K := by rfl) : MtR X "list.index" (rIndex K) := by subst h; exact mt_index
theorem mt_countFK (K : PySem.W.Frag) (h : X.K = K := by rfl) : MtR X "list.count" (rCntF K) := by subst h; exact mt_countF
theorem pe_bmK (K : PySem.W.Frag) {T : String} {name : Str} {id : String} {r : V → List V → Hp → VK → Prop} {o e : Expr} {es : List Expr} {to : TE} {t : TA} {apos cpos : Pos} (pa : PlainAttrs T) (slot : Slot T name id) (hty : typeOf (.builtin id) = pure (.type "method_descriptor")) (hm : MtR X id r) (ho : PE X o to) (ha : PA X (e :: es) t)
    (hbase : attributeBase o name X.env (eval o X.env) = eval o X.env := by rfl)
    (hfew : ((backTo cpos (starEach (e :: es) X.env)).all (fun x => !x.1) && (backToKw cpos (keywordEach [] X.env)).all (fun x => x.1.isSome) && decide ((e :: es).length + ([] : List Keyword).length + (if ([] : List Keyword).isEmpty then 0 else 1) < 30)) = true := by rfl)
    (hline : (apos.endLine == cpos.line) = true := by rfl) (hs : starEach (e :: es) X.env = (false, eval e X.env) :: starEach es X.env := by rfl) (hplain : (backTo cpos (starEach es X.env)).any (·.1) = false := by rfl) (h : X.K = K := by rfl) :
    PE X (.Call (.Attribute o name apos) (e :: es) [] cpos) (tBM K T r to t) := by
  subst h
  exact pe_bm pa slot hty hm ho ha hbase hfew hline hs hplain
end
end G48
namespace G48
open PySem PySem.Spec PyProof.Rows L2 Evl
open LamX (TabB)
/-! ### the end of a law whose own def makes lambdas: its table is empty at the start, the script is frozen or the module's -/
/-- the script's own form: no plain list -/
def ScrF (K : PySem.W.Frag) (H : Hp) (a : Addr) (xs : List V) : Prop := (∃ o, H a = some (.frz o (.lst xs))) ∨ ∃ (o : Obj) (its : Array Value) (n : Nat), K.lookup a = some o ∧ o.cls = .type "list" ∧ o.dict = none ∧ o.data = .seq its n ∧ its.size ≤ sizeLine ∧ Vals xs its.toList
/-- what is tracked at the start -/
def startH (K : PySem.W.Frag) (P a : Addr) (o : Obj) (xs : List V) : Hp := fun b => if b = P then some (.tbl #[]) else if b = a ∧ (K.lookup a).isNone = true then some (.frz o (.lst xs)) else none
section
variable {P : Program} {w : World} {K : PySem.W.Frag} {mg mb : Str → Option Value} {k : Nat} {fa a c T : Addr} {fd : FuncData} {x : Str} {sp : Sp} {s : Shared} {vs : List Value} {ns : List Int}
theorem law_lam (KX : K.In s.heap) (hG : s.heap.Ns mainGlobals mg) (hB : s.heap.Ns builtinsNs mb) (hbb : ∀ x : Str, x ≠ "__name__" → mb x = bootBuiltins x) (hlim : s.heap.NoLimit) (hg : s.gens = #[])
    (hT : s.heap.get? T = some { cls := .none, data := .fields #[] }) (nT : K.lookup T = none) (C : PySem.W.CodeHd s.heap c T)
    (hbm : ∃ (bm : Addr) (ob : Obj), mg "__builtins__" = some (.ref bm) ∧ bm ≠ builtinsNs ∧ s.heap.get? bm = some ob ∧ ob.cls = .type "module" ∧ ob.dict = some builtinsNs ∧ ob.data = .plain)
    (ha : s.heap.get? a = some { cls := .type "list", data := .seq vs.toArray }) (hi : IntsAre vs ns) (hl : ns.length ≤ sizeLine) (hr : Room k callerA)
    (F : ∀ base : Heap, K.In base → base.Ns mainGlobals mg → TabB base mg c T → FnOk P w K mg base L2.CX0 k fa fd [x] sp) (hbind : ∀ (s : Shared) (u : Value), BindsTo s fd ⟨[u], []⟩ [(x, u)])
    (hsp : ∀ H : Hp, H T = some (.tbl #[]) → ScrF K H a (ns.map V.int) → sp [.ref a] H (fun v _ => v = .bl true) fun _ _ _ => False) :
    codeAny (model P w) callerA (.call (.ref fa) ⟨[.ref a], []⟩) (fun r s' => r = .ok (.ret (.bool true)) ∧ OldK s.heap s'.heap ∧ s'.os = s.os ∧ AllBare s'.gens) s := by
  have rv := vals_ints hi
  have lenV := hi.length
  have hl' : (ns.map V.int).length ≤ sizeLine := by rw [List.length_map]; exact hl
  have neq : a ≠ T := fun z => by
    rw [z, hT] at ha
    cases ha
  have hw : ∃ H0 : Hp, startH K T a { cls := .type "list", data := .seq vs.toArray } (ns.map V.int) = H0 := ⟨_, rfl⟩
  obtain ⟨H0, eH⟩ := hw
  have atT : H0 T = some (.tbl #[]) := by rw [← eH]; exact if_pos rfl
  have atA : K.lookup a = none → H0 a = some (.frz { cls := .type "list", data := .seq vs.toArray } (.lst (ns.map V.int))) := fun z => by
    rw [← eH]
    exact (if_neg neq).trans (if_pos ⟨rfl, by rw [z]; rfl⟩)
  have only : ∀ b u, H0 b = some u → (b = T ∧ u = .tbl #[]) ∨ (b = a ∧ K.lookup a = none ∧ u = .frz { cls := .type "list", data := .seq vs.toArray } (.lst (ns.map V.int))) := fun b u z => by
    rw [← eH] at z
    unfold startH at z
    by_cases h1 : b = T
    · rw [if_pos h1] at z
      exact .inl ⟨h1, (Option.some.inj z).symm⟩
    · rw [if_neg h1] at z
      by_cases h2 : b = a ∧ (K.lookup a).isNone = true
      · rw [if_pos h2] at z
        exact .inr ⟨h2.1, by simpa using h2.2, (Option.some.inj z).symm⟩
      · rw [if_neg h2] at z
        cases z
  have scr : ScrF K H0 a (ns.map V.int) := by
    cases hk : K.lookup a with
    | none => exact .inl ⟨_, atA hk⟩
    | some o =>
      have e := KX a o hk
      rw [ha] at e
      cases e
      exact .inr ⟨_, vs.toArray, _, hk, rfl, rfl, rfl, by rw [List.size_toArray, lenV]; exact hl, by simpa using rv⟩
  have hok : HOk P w H0 s.heap := fun b u z => by
    rcases only b u z with ⟨rfl, rfl⟩ | ⟨rfl, _, rfl⟩
    · exact hT
    · exact ⟨ha, hl', vs, _, rv, ha⟩
  -- an object that is neither a list nor an empty table is not tracked
  have clear : ∀ {b : Addr} {o : Obj}, s.heap.get? b = some o → (∀ us n, o.data ≠ .seq us n) → o.data ≠ .fields #[] → H0 b = none := fun {b o} e d1 d2 => by
    cases z : H0 b with
    | none => rfl
    | some u =>
      rcases only b u z with ⟨rfl, _⟩ | ⟨rfl, _, _⟩
      · rw [hT] at e
        cases e
        exact absurd rfl d2
      · rw [ha] at e
        cases e
        exact absurd rfl (d1 _ _)
  have get : ∀ {b : Addr} {o : Obj}, s.heap.get? b = some o → H0 b = none → (hidT s.heap H0).get? b = some o := fun e n => hidT_get e n
  have nsUp : ∀ {b : Addr} {m : Str → Option Value}, s.heap.Ns b m → (hidT s.heap H0).Ns b m := fun {b m} ⟨o, es, ep, e, d, r⟩ => ⟨o, es, ep, get e (clear e (fun us n z => by rw [d] at z; cases z) fun z => by rw [d] at z; cases z), d, r⟩
  have kIn : K.In (hidT s.heap H0) := fun b o e => get (KX b o e) (by
    cases z : H0 b with
    | none => rfl
    | some u =>
      rcases only b u z with ⟨rfl, _⟩ | ⟨rfl, n, _⟩
      · rw [nT] at e; cases e
      · rw [n] at e; cases e)
  have md : L2.Mod K mg (hidT s.heap H0) := ⟨kIn, nsUp hG, ⟨mb, nsUp hB, hbb⟩, let ⟨mc, h1, h2⟩ := hlim; ⟨mc, nsUp h1, h2⟩⟩
  have tb : TabB (hidT s.heap H0) mg c T := by
    obtain ⟨o, us, file, tf, flags, tg, inF, text, tt, e1, r1, r2, r3, r4, r5, r6, r7, r8, hne⟩ := C
    obtain ⟨bm, ob, b1, b2, b3, b4, b5, b6⟩ := hbm
    obtain ⟨og, es, ep, eg, dg, _⟩ := hG
    have ng : bm ≠ mainGlobals := fun q => by
      rw [q, eg] at b3
      cases b3
      rw [dg] at b6
      cases b6
    have nt : bm ≠ T := fun q => by
      rw [q, hT] at b3
      cases b3
      cases b6
    refine ⟨⟨o, us, file, tf, flags, tg, inF, text, tt, get e1 (clear e1 (fun us n z => ?_) fun z => ?_), r1, r2, r3, r4, r5, r6, r7, r8, hne⟩, ⟨bm, ob, b1, b2, ng, nt, get b3 (clear b3 (fun us n z => ?_) fun z => ?_), b4, b5, b6⟩, fun z => ?_⟩
    · rw [r2] at z
      cases z
    · rw [r2] at z
      cases z
      simp at r3
    · rw [b6] at z
      cases z
    · rw [b6] at z
      cases z
    · rw [z, hT] at eg
      cases eg
      cases dg
  have e0 : Env0 P w K mg (hidT s.heap H0) callerA [] s H0 := ⟨rfl, md, fun b o e => of_hidT e, Nat.le_of_eq (hidT_size _ _), trivial, fun b z => absurd (show b ∈ ([] : List Addr) from z) (by simp), hok, .of_eq hg⟩
  refine codeAny_mono ((F _ kIn (nsUp hG) tb).run callerA [] s H0 ⟨[.ref a], []⟩ [.ref a] [.ref a] _ _ hr e0 (hbind s (.ref a)) (.cons rfl .nil) (hsp H0 atT scr)) fun r s' h => ?_
  cases r with
  | error e => exact False.elim h
  | ok fl =>
    cases fl with
    | next => exact False.elim h
    | brk => exact False.elim h
    | cont => exact False.elim h
    | ret u =>
      obtain ⟨v, H', os, bare, un, hok', r', rfl⟩ := h
      obtain rfl : u = Value.bool true := r'
      have kept : ∀ b o, b ≠ T → s.heap.get? b = some o → s'.heap.get? b = some o := fun b o nb e => by
        cases z : H0 b with
        | none => exact un.keep b o e z (fun z => absurd (show b ∈ ([] : List Addr) from z) (by simp)) (by simp)
        | some u =>
          rcases only b u z with ⟨q, _⟩ | ⟨rfl, n, rfl⟩
          · exact absurd q nb
          · obtain ⟨e2, _⟩ := hok' _ _ (un.frzs _ _ _ z)
            rw [ha] at e
            cases e
            exact e2
      obtain ⟨more, hm⟩ := un.tbls T #[] atT
      have grown : s'.heap.get? T = some { cls := .none, data := .fields (#[] ++ more) } := hok' T _ hm
      refine ⟨rfl, ⟨fun b o e => ?_, fun b o e => ?_⟩, os, bare⟩
      · by_cases hb : b = T
        · subst hb
          rw [hT] at e
          cases e
          exact .inr (.inl ⟨(C.tab hT).isCodeTable, rfl, #[], more, rfl, grown⟩)
        · exact .inl (kept b o hb e)
      · by_cases hb : b = T
        · subst hb
          exact ⟨_, grown⟩
        · exact ⟨o, kept b o hb e⟩
/-- what is known of the law's promise at the head's heap h -/
def LawAtL (l : PySem.W.OpenLaw) (w : World) (K : PySem.W.Frag) (k n : Nat) (x : Str) (mg : Str → Option Value) (fa : Addr) (h : Heap) : Prop :=
  ∃ (fd : FuncData) (c T : Addr) (sp : Sp), h.get? T = some { cls := .none, data := .fields #[] } ∧ K.lookup T = none ∧ PySem.W.CodeHd h c T ∧ (∀ (s : Shared) (u : Value), BindsTo s fd ⟨[u], []⟩ [(x, u)]) ∧
    (∀ (H : Hp) (a : Addr) (ns : List Int), ns.length ≤ n → H T = some (.tbl #[]) → ScrF K H a (ns.map V.int) → sp [.ref a] H (fun v _ => v = .bl true) fun _ _ _ => False) ∧
    ∀ base : Heap, K.In base → base.Ns mainGlobals mg → TabB base mg c T → FnOk l.prog w K mg base L2.CX0 k fa fd [x] sp
theorem walk_lam {l : PySem.W.OpenLaw} {n k : Nat} {q : Program} {loose : List Str} {XP : (Str → Option Value) → Heap → Prop} {YP : World → Heap → Prop} {d : DefRec} {x : Str}
    (hn : l.most = some n) (hn2 : n ≤ sizeLine) (hdf : d.params.defaults = []) (hr : Room k callerA)
    (F : ∀ (w : World) (mg : Str → Option Value) (fa : Addr) (h : Heap), YP w h → h.Ns mainGlobals mg → mg d.name = some (.ref fa) → ∃ K : PySem.W.Frag, K.In h ∧ LawAtL l w K k n x mg fa h) :
    PySem.W.WalkO q loose XP YP l.row.toRowW d [] (fun f vs => PySem.call f vs) := by
  refine Att.attach_callB hn hdf fun w s₀ s₁ mg mb fa o pm cd doc a vs ns G Y ho hd hcd hmg hobj hints hlen hbits hg => ?_
  obtain ⟨K, KX, fd, c, T, sp, hT, nT, C, hb, hsp, hF⟩ := F w mg fa _ Y G.T.g hmg
  exact law_lam KX G.T.g G.T.b G.T.builtins G.T.nolimit hg hT nT C G.T.bmain hobj hints (Nat.le_trans hlen hn2) hr hF hb fun H hH hS => hsp H a ns hlen hH hS
end
/-! ### the Hook: facts of the heap without empty tables, and the law's own table -/
abbrev lawD : He.Defn := ("law", none)
abbrev lamC (K : PySem.W.Frag) : Addr := (He.cT K lawD).1
abbrev lamT (K : PySem.W.Frag) : Addr := (He.cT K lawD).2
abbrev AlL : Type := He.AlD × Bool
def SaysL (fas : List Gp.FB) (fn : List He5.DefA) (h : Heap) (K : PySem.W.Frag) : Prop := Gp.SaysP fas fn K ∧ PySem.W.codeHdIn K (lamC K) (lamT K) = true ∧ K.lookup (lamT K) = none ∧ h.get? (lamT K) = some { cls := .none, data := .fields #[] }
def obsL (n : Nat) (fas : List Gp.FB) (fn : List He5.DefA) (g : Addr → Option Obj) : AlL := (Gp.obsP fas fn (He.frT g (He5.asA g n)), He.tabsB g [lawD] (He.frT g (He5.asA g n)))
theorem saysL_of {n : Nat} {fas : List Gp.FB} {fn : List He5.DefA} {h : Heap} (e : obsL n fas fn h.get? = (He5.valA fn, true)) : SaysL fas fn h (He.frT h.get? (He5.asA h.get? n)) := by
  have e1 : Gp.obsP fas fn (He.frT h.get? (He5.asA h.get? n)) = He5.valA fn := congrArg (fun z : AlL => z.1) e
  have e2 : He.tabsB h.get? [lawD] (He.frT h.get? (He5.asA h.get? n)) = true := congrArg (fun z : AlL => z.2) e
  obtain ⟨h3, h4⟩ := He.ba (List.all_eq_true.mp e2 lawD List.mem_cons_self)
  cases q : h.get? (lamT (He.frT h.get? (He5.asA h.get? n))) with
  | none =>
    rw [show h.get? (He.cT (He.frT h.get? (He5.asA h.get? n)) lawD).2 = none from q] at h4
    cases h4
  | some o =>
    rw [show h.get? (He.cT (He.frT h.get? (He5.asA h.get? n)) lawD).2 = some o from q] at h4
    exact ⟨e1, h3, He.frT_none q h4, by rw [q, He.emptyTab_eq h4]⟩
def hookL (n : Nat) (fas : List Gp.FB) (fn : List He5.DefA) : PySem.W.Hook where
  α := AlL
  obs := fun s => obsL n fas fn s.heap.get?
  val := fun _ => (He5.valA fn, true)
  says := fun _ h => ∃ K : PySem.W.Frag, K.In h ∧ SaysL fas fn h K
  of := fun _ _ e => ⟨_, He.frT_in, saysL_of e⟩
  keeps := fun _ _ _ ⟨K, hK, c1, c2, c3, c4⟩ k => ⟨K, PySem.W.Frag.In.keeps hK k, c1, c2, c3, k _ _ c4⟩
theorem obsL_eq {n : Nat} {fas : List Gp.FB} {fn : List He5.DefA} {g : Addr → Option Obj} {s : Shared} (h : ∀ a, g a = s.heap.get? a) : obsL n fas fn g = (hookL n fas fn).obs s := by
  have e : g = s.heap.get? := funext h
  rw [e] <;> rfl
/-- the body of a law that makes lambdas: its code object and its table are told -/
abbrev BodyT (P : Program) (w : World) (K : PySem.W.Frag) (mg : Str → Option Value) (base : Heap) (N : List Str) (st : Stmt) (k : Nat) (sp : Sp) : Prop :=
  ∀ (f : Addr) (A : Around) (outer : List Env) (s : Shared) (H : Hp) (vs : List V) (Q : VK) (E : XK), TabB base mg (lamC K) (lamT K) → Room k (A.deeper (envOfC "law" (defScope st) s.heap.objs.size f (.ref (lamC K)))) → sp vs H Q E →
      ∃ t, PSs (cxOf L2.CX0 P w K mg base N "law" (defScope st) f (.ref (lamC K)) A outer s H E).nox (defBody st) t ∧ t { nx := fun _ H' => Q .non H', rt := Q } (start N vs) H
theorem fn_lam {P : Program} {w : World} {K : PySem.W.Frag} {mg : Str → Option Value} {base : Heap} {st : Stmt} {fd : FuncData} {N ps : List Str} {k : Nat} {sp : Sp} (F : Fun K "law" "law" st (He.ga K "law") fd) (S : FnScope N ps (defScope st)) (len : ∀ vs H Q E, sp vs H Q E → vs.length = ps.length)
    (body : BodyT P w K mg base N st k sp) (TB : TabB base mg (lamC K) (lamT K)) : FnOk P w K mg base L2.CX0 (k + 1) (He.ga K "law") fd ps sp := by
  obtain ⟨oc, od, kV, doc, pm, an, cdv, ct, osl, rfl, lk, hcd⟩ := F.ex
  obtain ⟨c0, rfl⟩ := He.codeIn_ref hcd
  have e : He.codeOf K lawD = c0 := He.codeOf_eq (p := lawD) lk rfl
  subst e
  refine fn_of lk hcd S len fun A outer s H vs Q E hr hsp => ?_
  obtain ⟨t, ht, q⟩ := body _ A outer s H vs Q E TB hr hsp
  exact ⟨t, ht.nox, q⟩
end G48
namespace G48
open PySem PySem.Spec PyProof.Rows L2 Evl
open LamX (CodeO Tabs TabS ExtN TabB)
/-! ### what stands when a lambda is made -/
section
variable {K : PySem.W.Frag} {H H' : Hp} {a l C dx : Addr} {xs ys : List V} {fs : List (Str × V)}
theorem exn_lst (e : ExtN H H') (h : H a = some (.lst xs)) : H' a = some (.lst xs) := e _ _ h fun _ z => by cases z
theorem exn_ins (e : ExtN H H') (h : H a = some (.ins C dx fs)) : H' a = some (.ins C dx fs) := e _ _ h fun _ z => by cases z
theorem exn_t (e : ExtN H H') (h : SqT K H a xs) : SqT K H' a xs := by
  rcases h with (h | ⟨o, h⟩) | h
  · exact .inl (.inl (e _ _ h fun _ z => by cases z))
  · exact .inl (.inr ⟨o, e _ _ h fun _ z => by cases z⟩)
  · exact .inr h
theorem exn_l (e : ExtN H H') (h : SqL K H a xs) : SqL K H' a xs := by
  rcases h with (h | ⟨o, h⟩) | h
  · exact .inl (.inl (e _ _ h fun _ z => by cases z))
  · exact .inl (.inr ⟨o, e _ _ h fun _ z => by cases z⟩)
  · exact .inr h
theorem tabs_exb {T : List (Addr × Str)} (e : Exb l H H') (hl : H l = some (.lst ys)) (t : Tabs T H) : Tabs T H' := fun p hp => by
  obtain ⟨ps, h1, h2, h3⟩ := t p hp
  refine ⟨ps, e _ _ (ne_of h1 hl (by intro z; cases z)) h1, h2, fun pos cv hc => ?_⟩
  obtain ⟨c, e1, e2⟩ := h3 pos cv hc
  refine ⟨c, e1, e _ _ (ne_of e2 hl fun z => ?_) e2⟩
  unfold CodeO at z
  cases z
end
/-! ### the table of the law's own code object -/
abbrev lamTs (K : PySem.W.Frag) : List (Addr × Str) := [(lamT K, ("law" ++ ".<locals>.") ++ "<lambda>")]
theorem lamTs_m {K : PySem.W.Frag} : (lamT K, (("law" ++ ".<locals>.") ++ "<lambda>" : Str)) ∈ lamTs K := List.mem_cons_self
theorem lamTs_u {K : PySem.W.Frag} : ∀ p ∈ lamTs K, p.1 = lamT K → p.2 = (("law" ++ ".<locals>.") ++ "<lambda>" : Str) := fun p hp _ => by rw [List.mem_singleton.mp hp]
theorem lamTs_0 {K : PySem.W.Frag} {H : Hp} (h : H (lamT K) = some (.tbl #[])) : Tabs (lamTs K) H := fun p hp => by
  rw [List.mem_singleton.mp hp]
  exact TabS.nil h
/-! ### lambdas that are kept: made, handed on, called -/
/-- the maker: its names, its cells, its text's name -/
structure LamM where
  prog : Program
  w : World
  K : PySem.W.Frag
  mg : Str → Option Value
  base : Heap
  N : List Str
  sc : Scope
  cells : List (Str × Addr)
  qual : Str
abbrev lamM (X : Cx) : LamM := ⟨X.prog, X.w, X.K, X.mg, X.base, X.N, X.env.scope, X.env.cells, X.env.qual ++ "<lambda>"⟩
/-- at f stands a lambda that M made, its body's reading is t -/
def LamTo (M : LamM) (k : Nat) (H : Hp) (f : Addr) (t : XK → TE) : Prop := ∃ l : LamD, LamOk M.prog M.w M.K M.mg M.base M.N M.sc M.cells M.qual k l ∧ l.at_ H f M.qual M.cells ∧ l.t = t
section
variable {M : LamM} {k : Nat} {H H' : Hp} {f l : Addr} {t : XK → TE} {ys : List V}
theorem LamTo.ex (e : Ex H H') (h : LamTo M k H f t) : LamTo M k H' f t := let ⟨d, a, b, c⟩ := h; ⟨d, a, LamAt.ex e b, c⟩
theorem LamTo.exn (e : ExtN H H') (h : LamTo M k H f t) : LamTo M k H' f t := let ⟨d, a, b, c⟩ := h; ⟨d, a, LamAt.exn e b, c⟩
theorem LamTo.exb (e : Exb l H H') (hl : H l = some (.lst ys)) (h : LamTo M k H f t) : LamTo M k H' f t := let ⟨d, a, b, c⟩ := h; ⟨d, a, LamAt.exb e hl b, c⟩
end
def tLamT (M : LamM) (k : Nat) (T : List (Addr × Str)) (t : XK → TE) : TE := fun _ H Q => Tabs T H ∧ ∀ f H1, H f = none → ExtN H H1 → Tabs T H1 → LamTo M k H1 f t → Q (.ref f) H1
section
variable {X : Cx} {T : List (Addr × Str)} {c P : Addr} {params : Arguments} {body : Expr} {scope : Scope} {pos : Pos} {t : XK → TE} {k : Nat}
theorem pe_lamT0 (TB : TabB X.base X.mg c P) (hcode : X.env.code = .ref c) (hm : (P, X.env.qual ++ "<lambda>") ∈ T) (hu : ∀ p ∈ T, p.1 = P → p.2 = X.env.qual ++ "<lambda>")
    (S : LamS X.N X.env.scope scope []) (B : LamB params [] [])
    (hbody : ∀ (A : Around) (outer : List Env) (s : Shared) (H : Hp) (E : XK) (f c' : Addr), Room k (A.deeper (lamE (X.env.qual ++ "<lambda>") scope X.env.cells s.heap.objs.size f c')) → PE (lamX X.prog X.w X.K X.mg X.base X.N (X.env.qual ++ "<lambda>") scope X.env.cells A outer s H E f c') body (t E))
    (hd : defaultsOf params X.env = ([], []) := by rfl) : PE X (.Lambda params body scope pos) (tLamT (lamM X) k T t) := by
  have L := pe_lam0 (pos := pos) (body := body) TB hcode hm hu S.free hd
  refine ⟨fun pins s σ H Q I h => L.run pins s σ H Q I ⟨h.1, fun f H1 n1 e1 T1 l1 => h.2 f H1 n1 e1 T1 ⟨⟨params, body, scope, [], [], t⟩, ⟨S, B, hbody⟩, l1, rfl⟩⟩⟩
theorem pe_lamT1 {y : Str} {d : Int} {dk : Nat} {dp : Pos} (TB : TabB X.base X.mg c P) (hcode : X.env.code = .ref c) (hm : (P, X.env.qual ++ "<lambda>") ∈ T) (hu : ∀ p ∈ T, p.1 = P → p.2 = X.env.qual ++ "<lambda>")
    (S : LamS X.N X.env.scope scope [y]) (B : LamB params [y] [d])
    (hbody : ∀ (A : Around) (outer : List Env) (s : Shared) (H : Hp) (E : XK) (f c' : Addr), Room k (A.deeper (lamE (X.env.qual ++ "<lambda>") scope X.env.cells s.heap.objs.size f c')) → PE (lamX X.prog X.w X.K X.mg X.base X.N (X.env.qual ++ "<lambda>") scope X.env.cells A outer s H E f c') body (t E))
    (hd : params.defaults = [.Constant (.int d) dk dp] := by rfl) (hk : params.kw_defaults = [] := by rfl) : PE X (.Lambda params body scope pos) (tLamT (lamM X) k T t) := by
  have L := pe_lam1 (pos := pos) (body := body) TB hcode hm hu S.free hd hk
  refine ⟨fun pins s σ H Q I h => L.run pins s σ H Q I ⟨h.1, fun f H1 n1 e1 T1 l1 => h.2 f H1 n1 e1 T1 ⟨⟨params, body, scope, [y], [d], t⟩, ⟨S, B, hbody⟩, l1, rfl⟩⟩⟩
theorem lamB1 {params : Arguments} {a : Str} {d : Int} (h : ∀ (q : Str) (body : FuncBody) (scope : Scope) (cl : List (Str × Addr)) (dV doc pm cd ct : Value), ∃ k : Option (Array Value) → Sem (List (Str × Value)),
    bindArgs (PySem.W.kdv_fn "<lambda>" q params body scope cl dV doc pm cd ct) ⟨[], []⟩ = seqItems? dV >>= k ∧ ∀ v, k (some #[v]) = pure [(a, v)]) : LamB params [a] [d] := ⟨(fun e => by cases e), fun d' e => ⟨a, rfl, h⟩⟩
end
/-! ### x(e) and x(), x a name of a comprehension over lambdas of the maker -/
def tToldT (M : LamM) (k : Nat) (ta : TA) (σ0 : L2.St) (TT : (XK → Hp → VK → Prop) → Hp → VK → Prop) : TE := fun σ H Q =>
  ta σ H fun vs H1 => ∃ f t, vs = [.ref f] ∧ LamTo M k H1 f t ∧ TT (fun E H' Q' => t E σ0 H' Q') H1 Q
def tLamC (M : LamM) (k : Nat) (i : Nat) (σ0 : L2.St) : TE := fun σZ H Q => ∃ f t, σZ[i]? = some (some (.ref f)) ∧ LamTo M k H f t ∧ t (fun _ _ _ => False) σ0 H Q
section
variable {X : Cx} {pins : List (Addr × Obj)} {σ : L2.St} {H : Hp} {s : Shared} {scope : Scope} {C : Addr} {cl : List (Str × Addr)} {fp : List Addr}
/-- the block of a comprehension that starts at s sees the maker's cells -/
theorem sees_blk (I : Inv X pins σ H s) (hfp : ∀ b ∈ fp, FpOk X pins H b) : Sees (X.blk s H scope (compEnvC scope cl C X.env) fp) X.N σ X.env.cells X.env.scope := fun pins' s' σZ H' J =>
  (CellsOk.of I).un J.base fun y c e hc => (hfp c hc).2.2.2.2.1 y c e rfl
theorem pe_toldT {Ng : List Str} {x a : Str} {k j : Nat} {TT : (XK → Hp → VK → Prop) → Hp → VK → Prop} {st : Stmt} {ta : TA} {e : Expr} {p pos : Pos} (I : Inv X pins σ H s) (hfp : ∀ b ∈ fp, FpOk X pins H b) (hr : Room j X.A)
    (G : GFun X.K X.mg x st) (Sg : FnScope Ng [a] (defScope st)) (hb : BindL x x st [a]) (hG : GivesL X.prog X.w X.K X.mg X.base Ng x st a (k + 1) TT) (hNg : Ng[0]? = some a) (hva : Vis (defScope st) a) (ha : PA (X.blk s H scope (compEnvC scope cl C X.env) fp) [e] ta) (hk : k + 2 ≤ j := by decide) (hg : Gl (X.blk s H scope (compEnvC scope cl C X.env) fp) x := by rfl)
    (hdb : (x == ("__debug__" : Str)) = false := by decide) (hd : (a == ("__debug__" : Str)) = false := by decide) (hcd : (a == ("__classdict__" : Str)) = false := by decide)
    (hst : starEach [e] (compEnvC scope cl C X.env) = (false, eval e (compEnvC scope cl C X.env)) :: starEach [] (compEnvC scope cl C X.env) := by rfl) (hpl : (backTo pos (starEach [] (compEnvC scope cl C X.env))).any (·.1) = false := by rfl) :
    PE (X.blk s H scope (compEnvC scope cl C X.env) fp) (.Call (.Name x p) [e] [] pos) (tToldT (lamM X) k ta σ TT) := by
  have L := pe_told (Y := X.blk s H scope (compEnvC scope cl C X.env) fp) (N := X.N) (sg := fun _ => σ) (sc := X.env.scope) (cells := X.env.cells) (qual := X.env.qual ++ "<lambda>") (LO := LamOk X.prog X.w X.K X.mg X.base X.N X.env.scope X.env.cells (X.env.qual ++ "<lambda>") k) (p := p) (pos := pos)
    (fun pins' s' σ' H' J => ⟨sees_blk I hfp pins' s' σ' H' J, I.len⟩) (fun l hl => hl) hr G Sg hb hG hNg hva ha hk hg hdb hd hcd hst hpl
  refine ⟨fun pins' s' σ' H' Q J h => L.run pins' s' σ' H' Q J ?_⟩
  have e : (fun (vs : List V) (H1 : Hp) => ∃ f t, vs = [.ref f] ∧ LamTo (lamM X) k H1 f t ∧ TT (fun E H' Q' => t E σ H' Q') H1 Q) = fun vs H1 => ∃ f l, vs = [.ref f] ∧ LamOk X.prog X.w X.K X.mg X.base X.N X.env.scope X.env.cells (X.env.qual ++ "<lambda>") k l ∧ LamD.at_ l H1 f (X.env.qual ++ "<lambda>") X.env.cells ∧ TT (fun E H' Q' => l.t E σ H' Q') H1 Q := by
    funext vs H1
    refine propext ⟨?_, ?_⟩
    · rintro ⟨f, t, e1, ⟨l, a1, a2, rfl⟩, q⟩
      exact ⟨f, l, e1, a1, a2, q⟩
    · rintro ⟨f, l, e1, a1, a2, q⟩
      exact ⟨f, l.t, e1, ⟨l, a1, a2, rfl⟩, q⟩
  show ta σ' H' _
  rw [← e]
  exact h
theorem pe_lamC {a : Str} {i k j : Nat} {p1 p2 : Pos} (I : Inv X pins σ H s) (hfp : ∀ b ∈ fp, FpOk X pins H b) (hr : Room j X.A) (hN : X.N[i]? = some a) (hv : Vis (compEnvC scope cl C X.env).scope a) (hk : k + 1 ≤ j := by decide)
    (hd : (a == ("__debug__" : Str)) = false := by decide) (hcd : (a == ("__classdict__" : Str)) = false := by decide) : PE (X.blk s H scope (compEnvC scope cl C X.env) fp) (.Call (.Name a p1) [] [] p2) (tLamC (lamM X) k i σ) := by
  have L := pe_lamV (Z := X.blk s H scope (compEnvC scope cl C X.env) fp) (E := fun _ _ _ _ => False) (p1 := p1) (p2 := p2) (LO := LamOk X.prog X.w X.K X.mg X.base X.N X.env.scope X.env.cells (X.env.qual ++ "<lambda>") k) (sees_blk I hfp) I.len (fun l hl => hl) (hr.mono hk) (fun σZ pinsZ H s e s' I' c => by
    obtain ⟨_, _, _, _, _, _, _, _, _, _, _, _, z⟩ := c
    exact z.elim) hN hv hd hcd
  refine ⟨fun pins' s' σ' H' Q J h => L.run pins' s' σ' H' Q J ?_⟩
  obtain ⟨f, t, h1, ⟨l, a1, a2, rfl⟩, q⟩ := h
  exact ⟨f, l, h1, a1, a2, q⟩
end
/-! ### a comprehension whose element calls what the maker's cells hold: the start's facts are handed to the element -/
section
variable {X : Cx} {sB : Shared} {HB : Hp} {scope : Scope} {ce : Env} {fp : List Addr}
/-- the block's turns, from where it stands -/
theorem lc_turns {elt tg iter : Expr} {sc2 : Scope} {pos : Pos} {g : TG} {te : TE} {J : It} {it D : Addr} {tn : Nat → Heap → Prop} {vs : List Nat} {σ : L2.St} {H0 : Hp} {s0 : Shared} {R : Result → Shared → Prop} {W : Nat → Nat → Hp → Prop} {Qd : Hp → Prop}
    (hc : X.calm = true) (T : Turn X.prog X.w X.K tg J fp it tn) (I0 : Inv (X.blk sB HB scope ce fp) [] (wipe σ vs) H0 s0) (t0 : tn 0 s0.heap) (n0 : ∀ b ∈ fp, H0 b = none)
    (pg : PG (X.blk sB HB scope ce fp) tg g) (pe : PE (X.blk sB HB scope ce fp) elt te) (w0 : ∃ m, W 0 m H0)
    (turn : ∀ i m H, W i m H → (J.stop i H ∧ Qd H) ∨ (J.go i H ∧ ∃ Nx : Hp → Prop, (∀ H', Nx H' → ∃ m', m' < m ∧ W (i + 1) m' H') ∧ ∀ x H', J.yld i H x H' → g x (wipe σ vs) H' fun σ2 H2 => wipe σ2 vs = wipe σ vs ∧ te σ2 H2 fun y H4 => ∃ acc, H4 D = some (.lst acc) ∧ acc.length < sizeLine ∧ Nx (upd H4 D (.lst (acc ++ [y])))))
    (out : ∀ s' H', Inv (X.blk sB HB scope ce fp) [] (wipe σ vs) H' s' → Qd H' → R (.ok .next) s') :
    codeAny (model X.prog X.w) X.A (.compLoop (.ListComp elt [⟨tg, iter, [], 0⟩] sc2 pos) 0 (.ref it) (.ref D) ce) R s0 := by
  have own : ∀ {σ' : L2.St} {H' : Hp} {s' : Shared}, Inv (X.blk sB HB scope ce fp) [] σ' H' s' → (∀ b ∈ fp, H' b = none) → ∀ b ∈ fp, FpOk (X.blk sB HB scope ce fp) [] H' b := fun J' hn b hb =>
    ⟨hn b hb, (J'.ok.exf b hb).1, J'.ok.exfs b hb, .inl hb, (J'.ok.exf b hb).2, fun p hp => by cases hp⟩
  obtain ⟨m0, w0⟩ := w0
  refine compLoop_any (fun n s' => ∃ i H', Inv (X.blk sB HB scope ce fp) [] (wipe σ vs) H' s' ∧ tn i s'.heap ∧ (∀ b ∈ fp, H' b = none) ∧ W i n H') (fun n s1 hI => ?_) m0 ⟨0, H0, I0, t0, n0, w0⟩
  obtain ⟨i, H1, I1, t1, n1, w1⟩ := hI
  rcases turn i n H1 w1 with ⟨e, q⟩ | ⟨e, Nx, hNx, step⟩
  · refine thnF (T.done (X.blk sB HB scope ce fp) rfl rfl rfl hc i [] s1 _ H1 _ I1 (own I1 n1) t1 e) fun r s2 hr => ?_
    rw [hr.1]
    exact out s2 H1 hr.2 q
  · refine thnF (T.item (X.blk sB HB scope ce fp) rfl rfl rfl hc i [] s1 _ H1 _ I1 (own I1 n1) t1 e) fun r s2 hr => ?_
    obtain ⟨u, rfl, hr⟩ := hr
    refine thnF hr fun _ s3 h3 => ?_
    obtain ⟨x, H3, I3, r3, y3, t3, n3⟩ := h3
    refine thnF (pg.run _ s3 _ H3 x u _ (I3.pinned (own I3 n3) (T.obj _ _ t3)) r3 (step x H3 y3)) fun _ s4 h4 => ?_
    obtain ⟨σ4, H4, I4, e4, q4⟩ := h4
    refine wpAny_tests_nil ?_
    show wpAny _ _ _ _ _ _
    refine thnF (pe.run _ s4 σ4 H4 _ I4 q4) fun z s5 h5 => ?_
    obtain ⟨y, H5, I5, r5, acc, hD, hz, nx⟩ := h5
    refine app_ok (X := X.blk sB HB scope ce fp) I5 hD hz r5 fun s6 I6 => ?_
    obtain ⟨m', hm, w'⟩ := hNx _ nx
    have kept : ∀ b ∈ fp, ∀ o, s3.heap.get? b = some o → s6.heap.get? b = some o ∧ (upd H5 D (.lst (acc ++ [y]))) b = none := fun b hb o eo => by
      have z := I6.pin (b, o) (List.mem_append_right _ (List.mem_append_right _ (mem_pinsAt hb eo)))
      exact ⟨z.1, z.2.1⟩
    refine ⟨m', hm, i + 1, _, (I6.unpinned (pins := [])).weak (by rw [← e4, wipe_length]) (fun j v ej => ?_), T.keep _ _ _ t3 fun b hb o eo => (kept b hb o eo).1, fun b hb => ?_, w'⟩
    · rw [← e4] at ej
      exact (wipe_some ej).1
    · obtain ⟨o, eo, _⟩ := T.obj _ _ t3 b hb
      exact (kept b hb o eo).2
def tLcS (wi : TI) (i : Nat) (te : L2.St → TE) : TE := fun σ H Q => tLc wi (gName i) tYes (te σ) [i] σ H Q
theorem lcS_run {pins : List (Addr × Obj)} {s : Shared} {σ : L2.St} {H : Hp} {Q : VK} {elt iter : Expr} {y : Str} {py pos pos' : Pos} {i : Nat} {wi : TI} {te : L2.St → TE} {use : Option (Value → Sem Unit)} {Qf : Value → Shared → Prop} (hc : X.calm = true) (hN : X.N.Nodup) (I : Inv X pins σ H s) (hi : PI X (.Name y py) iter wi) (ok : BlkOk X.N X.env.scope scope [(y, i)])
    (hg : ∀ (s : Shared) (H : Hp) (C : Addr) (cl : List (Str × Addr)) (fp : List Addr), PG (X.blk s H scope (compEnvC scope cl C X.env) fp) (.Name y py) (gName i))
    (he : ∀ (pins : List (Addr × Obj)) (s : Shared) (σ : L2.St) (H : Hp), Inv X pins σ H s → ∀ (C : Addr) (cl : List (Str × Addr)) (fp : List Addr), (∀ b ∈ fp, FpOk X pins H b) → PE (X.blk s H scope (compEnvC scope cl C X.env) fp) elt (te σ))
    (hs : ∀ x, foldedSetIterable iter X.env x = pure x) (h : tLcS wi i te σ H Q)
    (fin : ∀ D C s' m H', Inv X pins σ H' s' → Q (.ref D) H' → s'.heap.Ns C m → FpOk X pins H' C → compPost (model X.prog X.w) X.A X.xe use Qf (.ref D) C (.ok .next) s') :
    wpAny (model X.prog X.w) X.A (comprehension (.ListComp elt [⟨.Name y py, iter, [], 0⟩] scope pos) scope X.env pos' (newList []) false (eval iter X.env) use) Qf X.xe s := by
  have free : ∀ z ∈ scope.names, z.2 = .free → ∃ c, X.env.cells.lookup z.1 = some c := fun z hz e => (ok.free z hz e).elim (fun k => I.ok.has _ (.inl k)) fun k => I.ok.has _ (.inr k)
  refine wpAny_comprehension_free (use := use) rfl hs (closure_ok free) ok.kind (fun z hz e => by rw [ok.uniq z hz, e]) (thn (hi.run pins s σ H _ I h) fun v1 s1 h1 => thn h1 fun v2 s2 h2 => ?_)
  obtain ⟨it, fp, tn, J, H2, rfl, I2, T, t2, f2, q⟩ := h2
  refine wpAny_newObj_type (newEnv_comp ?_) (Nat.zero_le _)
  have nD : H2 s2.heap.objs.size = none := I2.hok.fresh (Nat.le_refl _)
  obtain ⟨W, w0, turn⟩ := q _ nD
  have grow : ∀ b o, s2.heap.get? b = some o → (s2.heap.push { cls := .type "list", data := .seq ([] : List Value).toArray }).get? b = some o := fun b o e => Heap.get?_push_of_some _ e
  obtain ⟨s3, e3⟩ : ∃ s3 : Shared, s3 = { s2 with heap := s2.heap.push { cls := .type "list", data := .seq ([] : List Value).toArray } } := ⟨_, rfl⟩
  have I3 : Inv X pins σ (upd H2 s2.heap.objs.size (.lst [])) s3 := by
    rw [e3]
    exact I2.laid (t' := s2.toks) grow (Nat.le_refl _) ⟨Nat.zero_le _, [], 0, .nil, Heap.get?_push_size _ rfl⟩
  have lt : ∀ b ∈ fp, b < s2.heap.objs.size := fun b hb => let ⟨o, e, _⟩ := T.obj _ _ t2 b hb; Heap.lt_size e
  have f3 : ∀ b ∈ fp, FpOk X pins (upd H2 s2.heap.objs.size (.lst [])) b := fun b hb => by
    refine ⟨?_, (f2 b hb).2⟩
    rw [upd_ne (Nat.ne_of_lt (lt b hb))]
    exact (f2 b hb).1
  have l3 : ∀ b ∈ fp, FpOk X pins (upd H2 s2.heap.objs.size (.lst [])) b ∧ b < s3.heap.objs.size := fun b hb => ⟨f3 b hb, by rw [e3, Heap.size_push]; exact Nat.lt_succ_of_lt (lt b hb)⟩
  have I4 := block_start I3 ok hN l3
  have pg := hg s3 (upd H2 s2.heap.objs.size (.lst [])) s3.heap.objs.size (cellsFrom (s3.heap.objs.size + 1) scope.names (cloFrom X.env.cells scope.names [])) fp
  have pe := he pins s3 σ _ I3 s3.heap.objs.size (cellsFrom (s3.heap.objs.size + 1) scope.names (cloFrom X.env.cells scope.names [])) fp f3
  have t4 : tn 0 (pushCells (s3.heap.push { cls := .type "dict", data := .dict #[] }) scope.names) := T.keep _ _ _ t2 fun b _ o e => pushCells_keeps _ _ _ _ (Heap.get?_push_of_some _ (by rw [e3]; exact grow b o e))
  have L := lc_turns (iter := iter) (sc2 := scope) (pos := pos) (R := compPost (model X.prog X.w) X.A X.xe use Qf (.ref s2.heap.objs.size) s3.heap.objs.size) hc T I4 t4 (fun b hb => (f3 b hb).1) pg pe w0 (fun i m H' w => (turn i m H' w).imp id fun z => z) (fun s' H' J' hQ => ?_)
  · subst e3
    exact codeAny_compStart_list L (T.self X.A 0 _ _ _ t4 L)
  · have n5 : H' s3.heap.objs.size = none := J'.free
    obtain ⟨m5, hn, _⟩ := J'.loc
    have I5 : Inv X pins σ H' s' := I3.call' (ch := fp) J'.os J'.base J'.hok J'.bare fun b hb => ⟨(f3 b hb).2.2.2.1, (f3 b hb).2.1, (f3 b hb).2.2.2.2.1, (f3 b hb).2.2.2.2.2⟩
    exact fin _ _ s' m5 H' I5 hQ hn (I3.fpOk (Nat.le_refl _) n5)
theorem pe_lcS {elt iter : Expr} {y : Str} {py pos : Pos} {i : Nat} {wi : TI} {te : L2.St → TE} (hc : X.calm = true) (hN : X.N.Nodup) (hi : PI X (.Name y py) iter wi) (ok : BlkOk X.N X.env.scope scope [(y, i)])
    (hg : ∀ (s : Shared) (H : Hp) (C : Addr) (cl : List (Str × Addr)) (fp : List Addr), PG (X.blk s H scope (compEnvC scope cl C X.env) fp) (.Name y py) (gName i))
    (he : ∀ (pins : List (Addr × Obj)) (s : Shared) (σ : L2.St) (H : Hp), Inv X pins σ H s → ∀ (C : Addr) (cl : List (Str × Addr)) (fp : List Addr), (∀ b ∈ fp, FpOk X pins H b) → PE (X.blk s H scope (compEnvC scope cl C X.env) fp) elt (te σ))
    (hs : ∀ x, foldedSetIterable iter X.env x = pure x := by intro _; rfl) : PE X (.ListComp elt [⟨.Name y py, iter, [], 0⟩] scope pos) (tLcS wi i te) := by
  refine ⟨fun pins s σ H Q I h => ?_⟩
  rw [eval_ListComp]
  refine lcS_run (Qf := EP X pins σ Q) hc hN I hi ok hg he hs h fun D C s' m H' I5 hQ hn f => ⟨m, hn, fun h'' sb => ?_⟩
  obtain ⟨a0, a1, a2, a3, a4, a5⟩ := f
  exact ⟨.ref D, H', I5.turned (t' := s'.toks) (fun b o hb e => (sb.2 b hb).trans e) a0 a1 a3 a4 a5, rfl, hQ⟩
/-- z = [..], z a local -/
theorem ps_setLcS {j : Nat} {z : Str} {pz spos : Pos} {elt iter : Expr} {y : Str} {py pos : Pos} {i : Nat} {wi : TI} {te : L2.St → TE} (hz : X.N[j]? = some z) (hzl : X.env.scope.names.lookup z = some .local)
    (hsw : swapsWith (.ListComp elt [⟨.Name y py, iter, [], 0⟩] scope pos) (some (.Name z pz)) spos.line X.env = pure true) (hc : X.calm = true) (hN : X.N.Nodup) (hi : PI X (.Name y py) iter wi) (ok : BlkOk X.N X.env.scope scope [(y, i)])
    (hg : ∀ (s : Shared) (H : Hp) (C : Addr) (cl : List (Str × Addr)) (fp : List Addr), PG (X.blk s H scope (compEnvC scope cl C X.env) fp) (.Name y py) (gName i))
    (he : ∀ (pins : List (Addr × Obj)) (s : Shared) (σ : L2.St) (H : Hp), Inv X pins σ H s → ∀ (C : Addr) (cl : List (Str × Addr)) (fp : List Addr), (∀ b ∈ fp, FpOk X pins H b) → PE (X.blk s H scope (compEnvC scope cl C X.env) fp) elt (te σ))
    (hs : ∀ x, foldedSetIterable iter X.env x = pure x := by intro _; rfl) : PS X (.Assign [.Name z pz] (.ListComp elt [⟨.Name y py, iter, [], 0⟩] scope pos) spos) (tAsg (tLcS wi i te) (gName j)) := by
  refine ⟨fun pins s σ H D I h => ?_⟩
  rw [exec_Assign_Name_used _ _ _ _ hsw]
  have h : tLcS wi i te σ H fun x H1 => gName j x σ H1 D.nx := h
  have run := lcS_run (pos' := firstIterPos [⟨.Name y py, iter, [], 0⟩] pos) (pos := pos) (use := some (assign (.Name z pz) X.env)) (Qf := fun _ s' => SP X pins D .next s') hc hN I hi ok hg he hs h fun L C s' m H' I' q hn f => by
    obtain ⟨a0, a1, a2, a3, a4, a5⟩ := f
    refine wpAny_assign_Name (store_ok2 (v := V.ref L) I' hN hz (.inl hzl) rfl (fun s2 I2 ⟨c, sb, hcc⟩ => ?_) (.inr hzl))
    have apart : C ≠ c := by
      rcases hcc with w | w
      · rw [w]
        exact a1
      · exact fun e => a4 z c w e.symm
    exact ⟨m, hn.sameBut sb apart, fun h3 sb3 => ⟨_, H', I2.turned (t' := s2.toks) (fun b o hb e => (sb3.2 b hb).trans e) a0 a1 a3 a4 a5, q⟩⟩
  exact wpAny_bind (wpAny_standAt (wpAny_bind (wpAny_bind (thn run fun _ s' hq => wpAny_pure (wpAny_pure hq)))))
theorem g_lcS {wi : TI} {i : Nat} {te : L2.St → TE} {σ : L2.St} {H : Hp} {Q : VK} (q : tLc wi (gName i) tYes (te σ) [i] σ H Q) : tLcS wi i te σ H Q := q
end
theorem cr_maxTK {X : Cx} (K : PySem.W.Frag) (hc : X.calm = true) (hu : X.A.units + 64 < cLine) (h : X.K = K := by rfl) : CallR X (.builtin "max") (rMaxT K) := by subst h; exact cr_maxT hc hu
theorem cr_sumTK {X : Cx} (K : PySem.W.Frag) (hc : X.calm = true) (h : X.K = K := by rfl) : CallR X (.builtin "sum") (rSumT K) := by subst h; exact cr_sumT hc
theorem op_eqDK {X : Cx} (K : PySem.W.Frag) (hu : X.A.units + 64 < cLine) (h : X.K = K := by rfl) : OpR X (compareOp .Eq) (rEqD K) := by subst h; exact op_eqD hu
theorem op_neDK {X : Cx} (K : PySem.W.Frag) (hu : X.A.units + 64 < cLine) (h : X.K = K := by rfl) : OpR X (compareOp .NotEq) (rNeD K) := by subst h; exact op_neD hu
theorem c_list_ofK {X : Cx} (K : PySem.W.Frag) (h : X.K = K := by rfl) : CallR X (.type "list") (rListOf K) := by subst h; exact c_list_of
theorem c_tuple_ofK {X : Cx} (K : PySem.W.Frag) (h : X.K = K := by rfl) : CallR X (.type "tuple") (rTupD K) := by subst h; exact c_tuple_of
theorem op_catAK {X : Cx} (K : PySem.W.Frag) (h : X.K = K := by rfl) : OpR X (binaryOp .Add) (rCatA K) := by subst h; exact op_catA
theorem sl_tupAK {X : Cx} (K : PySem.W.Frag) (h : X.K = K := by rfl) : SlR X (rSlA K) := by subst h; exact sl_tupA
end G48
/-! errors of the text that have an own __init__: made, raised, told with their fields -/
namespace G48
open PySem PySem.Spec PyProof.Rows L2 Evl
/-! ### what the head tells of such a class -/
def oexB (K : PySem.W.Frag) (C : Addr) : Bool :=
  match K.lookup C with
  | some ⟨.type "type", _, .cls cd, sl⟩ => (match cd.mro, sl.toList with
    | .ref Cm :: below, [_, _, _, _, some (.builtin nid), _] => decide (Cm = C) && (decide (nid = "ValueError.__new__") && (!cd.hasDel && (cd.hasDict && HandSPX.refsVE below)))
    | _, _ => false)
  | _ => false
theorem oexB_ok {K : PySem.W.Frag} {C : Addr} (h : oexB K C = true) :
    ∃ nm q N bs bm sn sub ab col dd k0 k1 k2 k3 k5, K.lookup C = some (excClassObj nm q C N bs bm true sn sub ab col dd k0 k1 k2 k3 k5 "ValueError.__new__") ∧ HandSPX.refsVE bm = true := by
  unfold oexB at h
  split at h
  · rename_i dd cd sl hl
    split at h
    · rename_i Cm below z0 z1 z2 z3 nid z5 em es
      obtain ⟨a1, h⟩ := He.ba h
      obtain ⟨a2, h⟩ := He.ba h
      obtain ⟨a3, h⟩ := He.ba h
      obtain ⟨a4, a5⟩ := He.ba h
      have a1 := of_decide_eq_true a1
      have a2 := of_decide_eq_true a2
      obtain ⟨cn, cb, cm, cs, cq, ch, c7, c8, c9, c10, c11⟩ := cd
      have em : cm = _ := em
      have a3 : (!c11) = true := a3
      have a4 : ch = true := a4
      obtain ⟨sl⟩ := sl
      have es : sl = _ := es
      subst em es a1 a2 a4
      cases c11 with
      | true => cases a3
      | false => exact ⟨_, _, _, _, _, _, _, _, _, _, _, _, _, _, _, hl, a5⟩
    · cases h
  · cases h
/-- a class of errors with fields: j its place among the names -/
structure ErrC (K : PySem.W.Frag) (D : Addr) (j : Nat) (fs : List Str) : Prop where
  ox : OexC K D
  c : ExcC K D
  is_ : ∀ i, i < 7 → PySem.W.kitOne K (.ref D) (.ref (He.ga K (exNm i))) = some (decide (i = j))
  ve : PySem.W.kitOne K (.ref D) (.type "ValueError") = some true
  re : PySem.W.exmOne K (.ref D) (.ref (He.ga K "ReadingError")) = some true
  no : ∀ f ∈ fs, PySem.W.findIn K (.ref D) f = some none
def errB (K : PySem.W.Frag) (D : Addr) (j : Nat) (fs : List Str) : Bool := oexB K D && (He.eqO (PySem.W.findIn K (.ref D) "__setattr__") (some (some (.builtin "object.__setattr__"))) && (PySem.W.keepIn K (.ref D) && (decide (PySem.W.typeIn K (.ref D) = some (.type "type")) && (excCB K D &&
  ((List.range 7).all (fun i => decide (PySem.W.kitOne K (.ref D) (.ref (He.ga K (exNm i))) = some (decide (i = j)))) && (decide (PySem.W.kitOne K (.ref D) (.type "ValueError") = some true) && (decide (PySem.W.exmOne K (.ref D) (.ref (He.ga K "ReadingError")) = some true) && fs.all fun f => He.eqO (PySem.W.findIn K (.ref D) f) (some none))))))))
theorem err_ok {K : PySem.W.Frag} {D : Addr} {j : Nat} {fs : List Str} (h : errB K D j fs = true) : ErrC K D j fs := by
  obtain ⟨b1, h⟩ := He.ba h
  obtain ⟨b2, h⟩ := He.ba h
  obtain ⟨b3, h⟩ := He.ba h
  obtain ⟨b4, h⟩ := He.ba h
  obtain ⟨b5, h⟩ := He.ba h
  obtain ⟨b6, h⟩ := He.ba h
  obtain ⟨b7, h⟩ := He.ba h
  obtain ⟨b8, b9⟩ := He.ba h
  have c := excC_ok b5
  exact ⟨⟨oexB_ok b1, He.eqO_ok b2, c.hs, of_decide_eq_true b4, b3⟩, c, fun i hi => of_decide_eq_true (List.all_eq_true.mp b6 i (List.mem_range.mpr hi)), of_decide_eq_true b7, of_decide_eq_true b8, fun f hf => He.eqO_ok (List.all_eq_true.mp b9 f hf)⟩
/-! ### an own __init__ that keeps a promise -/
structure Ef (P : Program) (w : World) (K : PySem.W.Frag) (mg : Str → Option Value) (base : Heap) (x : Str) (C : Addr) (k : Nat) (ps : List Str) (sp : Sp) : Prop where
  ex : ∃ f fd, Meth K C "__init__" f ∧ mg x = some (.ref C) ∧ Binds K fd ps [] ∧ FnOk P w K mg base (L2.CX P w) k f fd ps sp
section
variable {P : Program} {w : World} {K : PySem.W.Frag} {mg : Str → Option Value} {base : Heap}
theorem Ef.of {C : Addr} {x q : Str} {st : Stmt} {N ps : List Str} {k : Nat} {sp : Sp} (G : CFun K C "__init__" q st) (hm : mg x = some (.ref C)) (S : FnScope N ps (defScope st)) (hb : BindL q "__init__" st ps)
    (len : ∀ vs H Q E, sp vs H Q E → vs.length = ps.length) (body : ∀ f, Body P w K mg base q N st f k sp) : Ef P w K mg base x C (k + 1) ps sp := by
  obtain ⟨f, fd, hg, F⟩ := G.ex
  exact ⟨f, fd, hg, hm, F.binds hb, F.okX S len (body f)⟩
end
section
variable {X : Cx} {k j : Nat} {x : Str} {ps : List Str} {sp : Sp} {p pos pos' apos : Pos} {e : Expr} {es : List Expr} {ta : TA} {te : TE} {C : Addr} {W : WX}
/-- raise C(e, ..) -/
theorem psr_err (T : OexC X.K C) (D : Ef X.prog X.w X.K X.mg X.base x C k ps sp) (hr : Room j X.A) (ha : PA X (e :: es) ta) (hc : X.calm = true) (tk : Takes X W) (hk : k + 1 ≤ j := by decide) (hg : Gl X x := by rfl) (hdb : (x == ("__debug__" : Str)) = false := by decide)
    (he : starEach (e :: es) X.env = (false, eval e X.env) :: starEach es X.env := by rfl) (hpl : (backTo pos (starEach es X.env)).any (·.1) = false := by rfl) :
    PS X (.Raise (some (.Call (.Name x p) (e :: es) [] pos)) none pos') (fun _ σ H => tMkO C sp [] ta σ H fun cls d H' => W cls d σ H') := by
  obtain ⟨f, fd, M, hm, b, F⟩ := D.ex
  exact ps_raise hc tk (pmk_oex T M.at_ (beq_iff_eq.mp M.fn) F (hr.mono hk) b .nil (passL (X := X)) hg hm ha hdb he hpl)
/-- ReadingError.__init__(self, e), ReadingError an own class over ValueError -/
structure RinC (K : PySem.W.Frag) (C : Addr) : Prop where
  ga : PySem.W.specialIn K (.ref C) "__getattribute__" = some (some (.builtin "type.__getattribute__"))
  ty : ∃ mc, PySem.W.typeIn K (.ref C) = some mc ∧ PySem.W.readsIn K C mc = true ∧ PySem.W.findCls K (.ref C) mc "__init__" = some (.val (.builtin "ValueError.__init__"))
def rinB (K : PySem.W.Frag) (C : Addr) : Bool := He.eqO (PySem.W.specialIn K (.ref C) "__getattribute__") (some (some (.builtin "type.__getattribute__"))) && (match PySem.W.typeIn K (.ref C) with
  | some mc => PySem.W.readsIn K C mc && (match PySem.W.findCls K (.ref C) mc "__init__" with
    | some (.val (.builtin n)) => decide (n = "ValueError.__init__")
    | _ => false)
  | none => false)
theorem rin_ok {K : PySem.W.Frag} {C : Addr} (h : rinB K C = true) : RinC K C := by
  obtain ⟨b1, h⟩ := He.ba h
  refine ⟨He.eqO_ok b1, ?_⟩
  split at h
  · rename_i mc hm
    obtain ⟨b2, h⟩ := He.ba h
    refine ⟨mc, hm, b2, ?_⟩
    split at h
    · rename_i n hn
      rw [hn, of_decide_eq_true h]
    · cases h
  · cases h
theorem pe_rinit {CR : Addr} {y : Str} {p1 p2 : Pos} {pl : Sem Bool} (RN : RinC X.K CR) (gR : X.mg y = some (.ref CR)) (ha : PA X (e :: es) ta) (hg : Gl X y := by rfl) (hdb : (y == ("__debug__" : Str)) = false := by decide)
    (hc : eval (.Call (.Attribute (.Name y p1) "__init__" p2) (e :: es) [] pos) X.env = (do
      let ov ← eval (.Name y p1) X.env
      standAt p2.atName
      let (f, first) ← holding [ov] (getMethod ov "__init__" pl)
      callWith pos f first (backTo pos (starEach (e :: es) X.env)) (backToKw pos (keywordEach [] X.env))) := by rfl)
    (he : starEach (e :: es) X.env = (false, eval e X.env) :: starEach es X.env := by rfl) (hpl : (backTo pos (starEach es X.env)).any (·.1) = false := by rfl) :
    PE X (.Call (.Attribute (.Name y p1) "__init__" p2) (e :: es) [] pos) (tVeI X.K ta) := by
  obtain ⟨mc, hmc, hrd, hfc⟩ := RN.ty
  refine ⟨fun pins s σ H Q I hq => ?_⟩
  refine PySem.W.methodCall_KW (ld_glob I hg gR ?_ hdb) hc
  refine PySem.W.method_cls I.kIn RN.ga (PySem.W.cls_value I.kIn hrd hfc rfl ?_)
  show wpAny _ _ (callWith pos (.builtin "ValueError.__init__") [] (backTo pos (starEach (e :: es) X.env)) []) _ _ _
  refine PyProof.Rows.callWith_method1 (thn (ha.run pos pins _ σ H _ (I.tok _) hq) fun ws s' got => ?_) he hpl
  obtain ⟨vs, G, J, rs, a, C, ys, rfl, hlen, T, ex, q⟩ := got
  cases rs with
  | @cons _ w0 _ wr r0 r1 =>
    cases r0
    exact oinit_ok T J ex (by rw [← Paired.length r1, sizeLine_eq]; omega) fun s'' L => ⟨.non, G, L, rfl, q⟩
end
/-! ### such an error that a suite holds -/
section
variable {X : Cx} {a : Addr} {oe : Obj} {pn : List (Addr × Obj)} {cls : Value} {d : Option Addr} {body : List Stmt}
theorem pss_err {t : Addr → TS} (hz : Zc cls d oe) (h : ∀ Dc, Zc (.ref Dc) d oe → ExcC X.K Dc → PSs (X.suite a ((a, oe) :: pn)) body (t Dc)) :
    PSs (X.suite a ((a, oe) :: pn)) body (fun D σ H => ∃ Dc, cls = .ref Dc ∧ ExcC X.K Dc ∧ t Dc D σ H) := by
  refine ⟨fun pins s σ H D I hh => ?_⟩
  obtain ⟨Dc, e1, hC, q⟩ := hh
  subst e1
  exact (h Dc hz hC).run pins s σ H D I q
/-- the dict of the error: none, or one with fields -/
def DicA (H : Hp) (d : Option Addr) : Prop := d = none ∨ ∃ dd fs, d = some dd ∧ H dd = some (.xd fs)
theorem excAt {pins : List (Addr × Obj)} {σ : L2.St} {H : Hp} {s : Shared} {Dc : Addr} (I : Inv (X.suite a ((a, oe) :: pn)) pins σ H s) (hz : Zc (.ref Dc) d oe) (hf : ∃ vs, oe.data = .fields vs) (hd : DicA H d) :
    ∃ od, PySem.W.InstAt s.heap a oe Dc od ∧ ∀ dd fs, d = some dd → H dd = some (.xd fs) → ∃ mA o, s.heap.Ns1 dd mA ∧ (∀ f, RelO (fs.lookup f) (mA f)) ∧ od = some o ∧ s.heap.get? dd = some o := by
  obtain ⟨here, _⟩ := I.pin (a, oe) (List.mem_append_left _ List.mem_cons_self)
  obtain ⟨vs, hv⟩ := hf
  have hnc : PySem.W.notCls oe = true := by
    unfold PySem.W.notCls
    rw [hv]
  rcases hd with rfl | ⟨dd, fs, rfl, hx⟩
  · exact ⟨none, ⟨here, hz.1, hnc, by rw [hz.2]; trivial⟩, fun _ _ z => by cases z⟩
  · obtain ⟨mA, hns, rel⟩ : ∃ mA, s.heap.Ns1 dd mA ∧ ∀ f, RelO (fs.lookup f) (mA f) := I.hok dd _ hx
    obtain ⟨o, ho, _⟩ := lookIn_ns hns
    refine ⟨some o, ⟨here, hz.1, hnc, by rw [hz.2]; exact ho⟩, fun dd' fs' e1 e2 => ?_⟩
    cases e1
    rw [hx] at e2
    cases e2
    exact ⟨mA, o, hns, rel, rfl, ho⟩
/-- isinstance(e, c) -/
def rIsX (K : PySem.W.Frag) (Dc : Addr) (d : Option Addr) (a : Addr) : List V → Hp → VK → Prop := fun xs H Q => DicA H d ∧ rIsE K Dc a xs H Q
theorem call_isX {Dc : Addr} (C : ExcC X.K Dc) (hz : Zc (.ref Dc) d oe) (hf : ∃ vs, oe.data = .fields vs) : CallR (X.suite a ((a, oe) :: pn)) (.builtin "isinstance") (rIsX X.K Dc d a) := by
  intro pins s σ H xs us Q I r h
  obtain ⟨hd, c, cv, b, rfl, hcv, hk, q⟩ := h
  obtain ⟨od, J, _⟩ := excAt I hz hf hd
  cases r with
  | cons rx rr =>
    cases rr with
    | cons rt rr =>
      cases rr
      cases rx
      obtain rfl := hcv _ rt
      have hcl : (PySem.W.clsIn X.K Dc).isSome = true := by
        obtain ⟨cd, z, _⟩ := PySem.W.any_some C.hd
        rw [z]
        rfl
      exact PySem.W.kia_one (PySem.W.kitx_exc hcl C.hg C.hk C.hs C.ha C.hn C.ht C.hm) I.kIn J hk (fun z => nomatch z) fun tk => ⟨.bl b, H, I.kept (t' := tk) fun _ _ z => z, rfl, q⟩
/-- e.f -/
def tErrF (K : PySem.W.Frag) (Dc : Addr) (a : Addr) (d : Option Addr) (f : Str) (te : TE) : TE := fun σ H Q => te σ H fun x H1 => x = .ref a ∧ PySem.W.findIn K (.ref Dc) f = some none ∧ ∃ dd fs v, d = some dd ∧ H1 dd = some (.xd fs) ∧ fs.lookup f = some v ∧ Q v H1
theorem pe_errF {Dc : Addr} {e : Expr} {te : TE} {pos : Pos} {f : Str} (C : ExcC X.K Dc) (hz : Zc (.ref Dc) d oe) (hf : ∃ vs, oe.data = .fields vs) (he : PE (X.suite a ((a, oe) :: pn)) e te) (hb : attributeBase e f X.env (eval e X.env) = eval e X.env := by rfl) :
    PE (X.suite a ((a, oe) :: pn)) (.Attribute e f pos) (tErrF X.K Dc a d f te) := by
  refine ⟨fun pins s σ H Q I hq => ?_⟩
  refine attr_of hb (thn (he.run pins s σ H _ I hq) fun u s' got => ?_)
  obtain ⟨x, G, L, rx, rfl, hno, dd, fs, v, rfl, hx, hl, q⟩ := got
  cases rx
  obtain ⟨od, J, more⟩ := excAt L hz hf (.inr ⟨dd, fs, rfl, hx⟩)
  obtain ⟨mA, o, hns, rel, rfl, ho⟩ := more dd fs rfl hx
  obtain ⟨o', ho', hlk⟩ := lookIn_ns hns
  rw [ho] at ho'
  obtain rfl := Option.some.inj ho'
  obtain ⟨w, hw, rw_⟩ := RelO.some_of (v := v) (o := mA f) (by rw [← hl]; exact rel f)
  exact HandSPX.exc_get L.kIn J C.hg C.hk C.hs (PySem.W.findObj_own C.hd hno rfl (by rw [hlk, hw])) (handed_of rw_) ⟨v, G, L.tok _, rw_, q⟩
end
end G48
/-! match of a sequence of two names, a guard, then anything: values of any shape -/
namespace G48
open PySem PySem.Spec PyProof.Rows L2 Evl
section
variable {prog : Program} {w : World} {A : Around} {E : Value → Shared → Prop} {s : Shared}
theorem draw2L {it l : Addr} {u1 u2 : Value} {Q : List Value → Shared → Prop} (hne : l ≠ it) (hit : s.heap.IsListIter it l 0) (hl : s.heap.IsList l [u1, u2].toArray)
    (hQ : ∀ h', h'.IsListIter it l 2 → Heap.SameBut it s.heap h' → Q [u1, u2] { s with heap := h' }) : wpAny (model prog w) A (draw (.ref it) 2) Q E s := by
  show wpAny _ _ (pyNext (.ref it) >>= _) Q E s
  refine wpAny_bind (wpAny_pyNext_list_item hit hl (x := u1) rfl fun g1 i1 b1 => ?_)
  refine wpAny_bind (wpAny_holding ?_)
  show wpAny _ _ (pyNext (.ref it) >>= _) _ E _
  refine wpAny_bind (wpAny_pyNext_list_item (i := 1) i1 (hl.extBut b1.extBut hne) (x := u2) rfl fun g2 i2 b2 => ?_)
  refine wpAny_bind (wpAny_holding (wpAny_pure (wpAny_pure (wpAny_pure ?_))))
  exact hQ g2 i2 (b1.trans b2)
theorem unpack2L {a : Addr} {u1 u2 : Value} {Q : List Value → Shared → Prop} (hh : A.handled = none) (hl : s.heap.IsList a [u1, u2].toArray)
    (h : ∀ h', Heap.ExtBut s.heap.objs.size s.heap h' → Q [u1, u2] { s with heap := h' }) : wpAny (model prog w) A (unpackItems (.ref a) 2 none) Q E s := by
  have hlt : a ≠ s.heap.objs.size := by obtain ⟨o, ho, _⟩ := hl; exact Nat.ne_of_lt (Heap.lt_size ho)
  unfold unpackItems
  refine wpAny_bind ?_
  unfold notIterableAtAll
  refine wpAny_bind (wpAny_specialOf hl.typeIs slot_list_iter.lookup (wpAny_pure ?_))
  simp only [Bool.false_eq_true, if_false]
  refine wpAny_bind (wpAny_holding (wpAny_pyIter_list hl ?_))
  refine wpAny_bind (wpAny_holding (draw2L hlt ⟨_, Heap.get?_push_size _ rfl, rfl, rfl⟩ (hl.push _) fun g i b => ?_))
  rw [if_neg (by simp)]
  refine wpAny_bind (wpAny_holding (wpAny_pyNext_list_end hh i ((hl.push _).extBut b.extBut hlt) (by simp) fun g2 e2 => ?_))
  simp only [Option.isSome_none, Bool.false_eq_true, if_false]
  exact wpAny_pure (h g2 fun c o hc e => e2 c o hc (b.extBut c o hc (Heap.get?_push_of_some _ e)))
end
/-- match e: case [x, y] if g: .. case _: .. -/
def sM2X (K : PySem.W.Frag) (te : TE) (i j : Nat) (tt : TT) (t1 t2 : TS) : TS := fun D σ H => te σ H fun x H1 =>
  (∃ a v w, x = .ref a ∧ (SqT K H1 a [v, w] ∨ SqL K H1 a [v, w]) ∧ tt ((σ.set i (some v)).set j (some w)) H1 (kIfS t1 t2 D ((σ.set i (some v)).set j (some w)))) ∨
  ((x = .non ∨ ∃ a xs, x = .ref a ∧ SqT K H1 a xs ∧ xs.length ≠ 2 ∧ xs.length ≤ 1000) ∧ t2 D σ H1)
theorem ps_match2X {X : Cx} {i j : Nat} {x1 x2 : Str} {e g : Expr} {b1 b2 : List Stmt} {te : TE} {tt : TT} {t1 t2 : TS} {p1 p2 p3 p4 pos : Pos} (hc : X.calm = true) (hN : X.N.Nodup) (hi : X.N[i]? = some x1) (hj : X.N[j]? = some x2) (hx : Loc X.env.scope x1) (hy : Loc X.env.scope x2)
    (he : PE X e te) (hg : PT X g tt) (h1 : PSs X b1 t1) (h2 : PSs X b2 t2) (hf1 : X.fn x1 = true ∨ X.env.scope.names.lookup x1 = some .local := by first | exact .inl rfl | exact .inr rfl) (hf2 : X.fn x2 = true ∨ X.env.scope.names.lookup x2 = some .local := by first | exact .inl rfl | exact .inr rfl) :
    PS X (.Match e [⟨.MatchSequence [.MatchAs none (some x1) p1, .MatchAs none (some x2) p2] p3, some g, b1⟩, ⟨.MatchAs none none p4, none, b2⟩] pos) (sM2X X.K te i j tt t1 t2) := by
  refine ⟨fun pins s σ H D I h => ?_⟩
  refine wpAny_Match (thn (he.run pins s σ H _ I h) fun u s1 ⟨x, H1, I1, r1, hh⟩ => ?_)
  rcases hh with ⟨a, v, w, rfl, hq, q⟩ | ⟨hm, q⟩
  · cases r1
    rcases hq with hq | hq
    · obtain ⟨its, rv, ht, hz⟩ := I1.tuple hq
      cases rv with
      | cons rv1 rr =>
      cases rr with
      | cons rv2 rn =>
      cases rn
      refine wpAny_matchCases_cons (matchSeq_tuple_hit (show s1.heap.IsTuple a _ from ht) (by simp) rfl ?_)
      refine unpack2 (I1.ok.hd hc) (a := a) (s := { s1 with toks := s1.toks + 1 + 1 }) ht fun h' hx' => ?_
      have I2 : Inv X pins σ H1 { s1 with heap := h', toks := s1.toks + 1 + 1 } := I1.kept (t' := s1.toks + 1 + 1) fun b o e => hx' b o (Nat.ne_of_lt (Heap.lt_size e)) e
      refine wpAny_matchEach_cons (wpAny_matchPattern_Capture (wpAny_matchEach_cons (wpAny_matchPattern_Capture (wpAny_matchEach_nil ?_))))
      refine wpAny_assignInOrder_more (wpAny_bindName (store_ok I2 hN hi hx rv1 (fun s3 I3 => ?_) hf1))
      refine wpAny_assignInOrder_more (wpAny_bindName (store_ok I3 hN hj hy rv2 (fun s4 I4 => ?_) hf2))
      refine wpAny_assignInOrder_none ?_
      refine thn (hg.run pins s4 _ H1 _ I4 q) fun c s5 ⟨H5, I5, q5⟩ => ?_
      cases c with
      | true => exact h1.run pins s5 _ H5 D I5 q5
      | false =>
        refine wpAny_matchCases_cons (wpAny_matchPattern_Capture (wpAny_assignInOrder_none ?_))
        exact h2.run pins s5 _ H5 D I5 q5
    · obtain ⟨its, rv, hpl, hz⟩ := I1.list hq
      cases rv with
      | cons rv1 rr =>
      cases rr with
      | cons rv2 rn =>
      cases rn
      obtain ⟨ol, nl, g1, g2, g3, g4⟩ := hpl
      refine wpAny_matchCases_cons (matchSeq_list_hit ⟨ol, g1, g2, nl, g4⟩ (by simp) rfl ?_)
      refine unpack2L (I1.ok.hd hc) (a := a) (s := { s1 with toks := s1.toks + 1 + 1 }) ⟨ol, g1, g2, nl, g4⟩ fun h' hx' => ?_
      have I2 : Inv X pins σ H1 { s1 with heap := h', toks := s1.toks + 1 + 1 } := I1.kept (t' := s1.toks + 1 + 1) fun b o e => hx' b o (Nat.ne_of_lt (Heap.lt_size e)) e
      refine wpAny_matchEach_cons (wpAny_matchPattern_Capture (wpAny_matchEach_cons (wpAny_matchPattern_Capture (wpAny_matchEach_nil ?_))))
      refine wpAny_assignInOrder_more (wpAny_bindName (store_ok I2 hN hi hx rv1 (fun s3 I3 => ?_) hf1))
      refine wpAny_assignInOrder_more (wpAny_bindName (store_ok I3 hN hj hy rv2 (fun s4 I4 => ?_) hf2))
      refine wpAny_assignInOrder_none ?_
      refine thn (hg.run pins s4 _ H1 _ I4 q) fun c s5 ⟨H5, I5, q5⟩ => ?_
      cases c with
      | true => exact h1.run pins s5 _ H5 D I5 q5
      | false =>
        refine wpAny_matchCases_cons (wpAny_matchPattern_Capture (wpAny_assignInOrder_none ?_))
        exact h2.run pins s5 _ H5 D I5 q5
  · rcases hm with rfl | ⟨a, xs, rfl, hq, hne, hle⟩
    · cases r1
      refine wpAny_matchCases_cons (wpAny_matchPattern_Sequence (wpAny_collectionFlag (T := "NoneType") (b := false) (typeIs_none _) flag_seq_None ?_))
      refine wpAny_matchCases_cons (wpAny_matchPattern_Capture (wpAny_assignInOrder_none ?_))
      exact h2.run pins s1 _ H1 D I1 q
    · cases r1
      obtain ⟨its, rv, ht, hz⟩ := I1.tuple hq
      have hl := rv.length
      refine wpAny_matchCases_cons (matchSeq_tuple_miss (show s1.heap.IsTuple a _ from ht) (by simp; omega) (by simp; omega) ?_)
      refine wpAny_matchCases_cons (wpAny_matchPattern_Capture (wpAny_assignInOrder_none ?_))
      exact h2.run pins _ _ H1 D (I1.kept (t' := s1.toks + 1 + 1) fun _ _ z => z) q
end G48
namespace G48
open PySem PySem.Spec PyProof.Rows L2 Evl
open LamX (TabB)
/-! ### the end of a law that makes lambdas in several defs: all their tables are empty at the start -/
def startHs (K : PySem.W.Frag) (ts : List Addr) (a : Addr) (o : Obj) (xs : List V) : Hp := fun b => if b ∈ ts then some (.tbl #[]) else if b = a ∧ (K.lookup a).isNone = true then some (.frz o (.lst xs)) else none
section
variable {P : Program} {w : World} {K : PySem.W.Frag} {mg mb : Str → Option Value} {k : Nat} {fa a : Addr} {ts : List (Addr × Addr)} {fd : FuncData} {x : Str} {sp : Sp} {s : Shared} {vs : List Value} {ns : List Int}
theorem law_lams (KX : K.In s.heap) (hG : s.heap.Ns mainGlobals mg) (hB : s.heap.Ns builtinsNs mb) (hbb : ∀ x : Str, x ≠ "__name__" → mb x = bootBuiltins x) (hlim : s.heap.NoLimit) (hg : s.gens = #[])
    (hT : ∀ p ∈ ts, s.heap.get? p.2 = some { cls := .none, data := .fields #[] }) (nT : ∀ p ∈ ts, K.lookup p.2 = none) (C : ∀ p ∈ ts, PySem.W.CodeHd s.heap p.1 p.2)
    (hbm : ∃ (bm : Addr) (ob : Obj), mg "__builtins__" = some (.ref bm) ∧ bm ≠ builtinsNs ∧ s.heap.get? bm = some ob ∧ ob.cls = .type "module" ∧ ob.dict = some builtinsNs ∧ ob.data = .plain)
    (ha : s.heap.get? a = some { cls := .type "list", data := .seq vs.toArray }) (hi : IntsAre vs ns) (hl : ns.length ≤ sizeLine) (hr : Room k callerA)
    (F : ∀ base : Heap, K.In base → base.Ns mainGlobals mg → (∀ p ∈ ts, TabB base mg p.1 p.2) → FnOk P w K mg base L2.CX0 k fa fd [x] sp) (hbind : ∀ (s : Shared) (u : Value), BindsTo s fd ⟨[u], []⟩ [(x, u)])
    (hsp : ∀ H : Hp, (∀ p ∈ ts, H p.2 = some (.tbl #[])) → ScrF K H a (ns.map V.int) → sp [.ref a] H (fun v _ => v = .bl true) fun _ _ _ => False) :
    codeAny (model P w) callerA (.call (.ref fa) ⟨[.ref a], []⟩) (fun r s' => r = .ok (.ret (.bool true)) ∧ OldK s.heap s'.heap ∧ s'.os = s.os ∧ AllBare s'.gens) s := by
  have rv := vals_ints hi
  have lenV := hi.length
  have hl' : (ns.map V.int).length ≤ sizeLine := by rw [List.length_map]; exact hl
  have hTm : ∀ T ∈ ts.map (·.2), s.heap.get? T = some { cls := .none, data := .fields #[] } ∧ K.lookup T = none := fun T hm => by
    obtain ⟨p, hp, rfl⟩ := List.mem_map.mp hm
    exact ⟨hT p hp, nT p hp⟩
  have neq : a ∉ ts.map (·.2) := fun z => by
    rw [(hTm a z).1] at ha
    cases ha
  obtain ⟨H0, eH⟩ : ∃ H0 : Hp, startHs K (ts.map (·.2)) a { cls := .type "list", data := .seq vs.toArray } (ns.map V.int) = H0 := ⟨_, rfl⟩
  have atT : ∀ p ∈ ts, H0 p.2 = some (.tbl #[]) := fun p hp => by
    rw [← eH]
    exact if_pos (List.mem_map.mpr ⟨p, hp, rfl⟩)
  have atA : K.lookup a = none → H0 a = some (.frz { cls := .type "list", data := .seq vs.toArray } (.lst (ns.map V.int))) := fun z => by
    rw [← eH]
    exact (if_neg neq).trans (if_pos ⟨rfl, by rw [z]; rfl⟩)
  have only : ∀ b u, H0 b = some u → (b ∈ ts.map (·.2) ∧ u = .tbl #[]) ∨ (b = a ∧ K.lookup a = none ∧ u = .frz { cls := .type "list", data := .seq vs.toArray } (.lst (ns.map V.int))) := fun b u z => by
    rw [← eH] at z
    unfold startHs at z
    by_cases h1 : b ∈ ts.map (·.2)
    · rw [if_pos h1] at z
      exact .inl ⟨h1, (Option.some.inj z).symm⟩
    · rw [if_neg h1] at z
      by_cases h2 : b = a ∧ (K.lookup a).isNone = true
      · rw [if_pos h2] at z
        exact .inr ⟨h2.1, by simpa using h2.2, (Option.some.inj z).symm⟩
      · rw [if_neg h2] at z
        cases z
  have scr : ScrF K H0 a (ns.map V.int) := by
    cases hk : K.lookup a with
    | none => exact .inl ⟨_, atA hk⟩
    | some o =>
      have e := KX a o hk
      rw [ha] at e
      cases e
      exact .inr ⟨_, vs.toArray, _, hk, rfl, rfl, rfl, by rw [List.size_toArray, lenV]; exact hl, by simpa using rv⟩
  have hok : HOk P w H0 s.heap := fun b u z => by
    rcases only b u z with ⟨hb, rfl⟩ | ⟨rfl, _, rfl⟩
    · exact (hTm b hb).1
    · exact ⟨ha, hl', vs, _, rv, ha⟩
  have clear : ∀ {b : Addr} {o : Obj}, s.heap.get? b = some o → (∀ us n, o.data ≠ .seq us n) → o.data ≠ .fields #[] → H0 b = none := fun {b o} e d1 d2 => by
    cases z : H0 b with
    | none => rfl
    | some u =>
      rcases only b u z with ⟨hb, _⟩ | ⟨rfl, _, _⟩
      · rw [(hTm b hb).1] at e
        cases e
        exact absurd rfl d2
      · rw [ha] at e
        cases e
        exact absurd rfl (d1 _ _)
  have get : ∀ {b : Addr} {o : Obj}, s.heap.get? b = some o → H0 b = none → (hidT s.heap H0).get? b = some o := fun e n => hidT_get e n
  have nsUp : ∀ {b : Addr} {m : Str → Option Value}, s.heap.Ns b m → (hidT s.heap H0).Ns b m := fun {b m} ⟨o, es, ep, e, d, r⟩ => ⟨o, es, ep, get e (clear e (fun us n z => by rw [d] at z; cases z) fun z => by rw [d] at z; cases z), d, r⟩
  have kIn : K.In (hidT s.heap H0) := fun b o e => get (KX b o e) (by
    cases z : H0 b with
    | none => rfl
    | some u =>
      rcases only b u z with ⟨hb, _⟩ | ⟨rfl, n, _⟩
      · rw [(hTm b hb).2] at e; cases e
      · rw [n] at e; cases e)
  have md : L2.Mod K mg (hidT s.heap H0) := ⟨kIn, nsUp hG, ⟨mb, nsUp hB, hbb⟩, let ⟨mc, h1, h2⟩ := hlim; ⟨mc, nsUp h1, h2⟩⟩
  have tb : ∀ p ∈ ts, TabB (hidT s.heap H0) mg p.1 p.2 := fun p hp => by
    obtain ⟨o, us, file, tf, flags, tg, inF, text, tt, e1, r1, r2, r3, r4, r5, r6, r7, r8, hne⟩ := C p hp
    obtain ⟨bm, ob, b1, b2, b3, b4, b5, b6⟩ := hbm
    obtain ⟨og, es, ep, eg, dg, _⟩ := hG
    have ng : bm ≠ mainGlobals := fun q => by
      rw [q, eg] at b3
      cases b3
      rw [dg] at b6
      cases b6
    have nt : bm ≠ p.2 := fun q => by
      rw [q, hT p hp] at b3
      cases b3
      cases b6
    refine ⟨⟨o, us, file, tf, flags, tg, inF, text, tt, get e1 (clear e1 (fun us n z => ?_) fun z => ?_), r1, r2, r3, r4, r5, r6, r7, r8, hne⟩, ⟨bm, ob, b1, b2, ng, nt, get b3 (clear b3 (fun us n z => ?_) fun z => ?_), b4, b5, b6⟩, fun z => ?_⟩
    · rw [r2] at z
      cases z
    · rw [r2] at z
      cases z
      simp at r3
    · rw [b6] at z
      cases z
    · rw [b6] at z
      cases z
    · rw [z, hT p hp] at eg
      cases eg
      cases dg
  have e0 : Env0 P w K mg (hidT s.heap H0) callerA [] s H0 := ⟨rfl, md, fun b o e => of_hidT e, Nat.le_of_eq (hidT_size _ _), trivial, fun b z => absurd (show b ∈ ([] : List Addr) from z) (by simp), hok, .of_eq hg⟩
  refine codeAny_mono ((F _ kIn (nsUp hG) tb).run callerA [] s H0 ⟨[.ref a], []⟩ [.ref a] [.ref a] _ _ hr e0 (hbind s (.ref a)) (.cons rfl .nil) (hsp H0 atT scr)) fun r s' h => ?_
  cases r with
  | error e => exact False.elim h
  | ok fl =>
    cases fl with
    | next => exact False.elim h
    | brk => exact False.elim h
    | cont => exact False.elim h
    | ret u =>
      obtain ⟨v, H', os, bare, un, hok', r', rfl⟩ := h
      obtain rfl : u = Value.bool true := r'
      have kept : ∀ b o, b ∉ ts.map (·.2) → s.heap.get? b = some o → s'.heap.get? b = some o := fun b o nb e => by
        cases z : H0 b with
        | none => exact un.keep b o e z (fun z => absurd (show b ∈ ([] : List Addr) from z) (by simp)) (by simp)
        | some u =>
          rcases only b u z with ⟨q, _⟩ | ⟨rfl, n, rfl⟩
          · exact absurd q nb
          · obtain ⟨e2, _⟩ := hok' _ _ (un.frzs _ _ _ z)
            rw [ha] at e
            cases e
            exact e2
      have grown : ∀ b, b ∈ ts.map (·.2) → ∃ c more, (c, b) ∈ ts ∧ s'.heap.get? b = some { cls := .none, data := .fields (#[] ++ more) } := fun b hb => by
        obtain ⟨p, hp, rfl⟩ := List.mem_map.mp hb
        obtain ⟨more, hm⟩ := un.tbls p.2 #[] (atT p hp)
        exact ⟨p.1, more, hp, hok' p.2 _ hm⟩
      refine ⟨rfl, ⟨fun b o e => ?_, fun b o e => ?_⟩, os, bare⟩
      · by_cases hb : b ∈ ts.map (·.2)
        · obtain ⟨c, more, hp, hgr⟩ := grown b hb
          rw [(hTm b hb).1] at e
          cases e
          exact .inr (.inl ⟨((C _ hp).tab (hT _ hp)).isCodeTable, rfl, #[], more, rfl, hgr⟩)
        · exact .inl (kept b o hb e)
      · by_cases hb : b ∈ ts.map (·.2)
        · obtain ⟨c, more, hp, hgr⟩ := grown b hb
          exact ⟨_, hgr⟩
        · exact ⟨o, kept b o hb e⟩
/-- what is known of the law's promise at the head's heap h -/
def LawAtLs (l : PySem.W.OpenLaw) (w : World) (K : PySem.W.Frag) (k n : Nat) (x : Str) (mg : Str → Option Value) (fa : Addr) (h : Heap) : Prop :=
  ∃ (fd : FuncData) (ts : List (Addr × Addr)) (sp : Sp), (∀ p ∈ ts, h.get? p.2 = some { cls := .none, data := .fields #[] } ∧ K.lookup p.2 = none ∧ PySem.W.CodeHd h p.1 p.2) ∧ (∀ (s : Shared) (u : Value), BindsTo s fd ⟨[u], []⟩ [(x, u)]) ∧
    (∀ (H : Hp) (a : Addr) (ns : List Int), ns.length ≤ n → (∀ p ∈ ts, H p.2 = some (.tbl #[])) → ScrF K H a (ns.map V.int) → sp [.ref a] H (fun v _ => v = .bl true) fun _ _ _ => False) ∧
    ∀ base : Heap, K.In base → base.Ns mainGlobals mg → (∀ p ∈ ts, TabB base mg p.1 p.2) → FnOk l.prog w K mg base L2.CX0 k fa fd [x] sp
theorem walk_lams {l : PySem.W.OpenLaw} {n k : Nat} {q : Program} {loose : List Str} {XP : (Str → Option Value) → Heap → Prop} {YP : World → Heap → Prop} {d : DefRec} {x : Str}
    (hn : l.most = some n) (hn2 : n ≤ sizeLine) (hdf : d.params.defaults = []) (hr : Room k callerA)
    (F : ∀ (w : World) (mg : Str → Option Value) (fa : Addr) (h : Heap), YP w h → h.Ns mainGlobals mg → mg d.name = some (.ref fa) → ∃ K : PySem.W.Frag, K.In h ∧ LawAtLs l w K k n x mg fa h) :
    PySem.W.WalkO q loose XP YP l.row.toRowW d [] (fun f vs => PySem.call f vs) := by
  refine Att.attach_callB hn hdf fun w s₀ s₁ mg mb fa o pm cd doc a vs ns G Y ho hd hcd hmg hobj hints hlen hbits hg => ?_
  obtain ⟨K, KX, fd, ts, sp, hts, hb, hsp, hF⟩ := F w mg fa _ Y G.T.g hmg
  exact law_lams KX G.T.g G.T.b G.T.builtins G.T.nolimit hg (fun p hp => (hts p hp).1) (fun p hp => (hts p hp).2.1) (fun p hp => (hts p hp).2.2) G.T.bmain hobj hints (Nat.le_trans hlen hn2) hr hF hb fun H hH hS => hsp H a ns hlen hH hS
end
/-! ### the Hook: facts of the heap without empty tables, and the tables of these defs -/
def SaysLs (fas : List Gp.FB) (fn : List He5.DefA) (dfs : List He.Defn) (h : Heap) (K : PySem.W.Frag) : Prop := Gp.SaysP fas fn K ∧ ∀ d ∈ dfs, PySem.W.codeHdIn K (He.cT K d).1 (He.cT K d).2 = true ∧ K.lookup (He.cT K d).2 = none ∧ h.get? (He.cT K d).2 = some { cls := .none, data := .fields #[] }
def obsLs (n : Nat) (fas : List Gp.FB) (fn : List He5.DefA) (dfs : List He.Defn) (g : Addr → Option Obj) : AlL := (Gp.obsP fas fn (He.frT g (He5.asA g n)), He.tabsB g dfs (He.frT g (He5.asA g n)))
theorem saysLs_of {n : Nat} {fas : List Gp.FB} {fn : List He5.DefA} {dfs : List He.Defn} {h : Heap} (e : obsLs n fas fn dfs h.get? = (He5.valA fn, true)) : SaysLs fas fn dfs h (He.frT h.get? (He5.asA h.get? n)) := by
  have e1 : Gp.obsP fas fn (He.frT h.get? (He5.asA h.get? n)) = He5.valA fn := congrArg (fun z : AlL => z.1) e
  have e2 : He.tabsB h.get? dfs (He.frT h.get? (He5.asA h.get? n)) = true := congrArg (fun z : AlL => z.2) e
  refine ⟨e1, fun d hd => ?_⟩
  obtain ⟨h3, h4⟩ := He.ba (List.all_eq_true.mp e2 d hd)
  cases q : h.get? (He.cT (He.frT h.get? (He5.asA h.get? n)) d).2 with
  | none =>
    rw [q] at h4
    cases h4
  | some o =>
    rw [q] at h4
    exact ⟨h3, He.frT_none q h4, by rw [He.emptyTab_eq h4]⟩
def hookLs (n : Nat) (fas : List Gp.FB) (fn : List He5.DefA) (dfs : List He.Defn) : PySem.W.Hook where
  α := AlL
  obs := fun s => obsLs n fas fn dfs s.heap.get?
  val := fun _ => (He5.valA fn, true)
  says := fun _ h => ∃ K : PySem.W.Frag, K.In h ∧ SaysLs fas fn dfs h K
  of := fun _ _ e => ⟨_, He.frT_in, saysLs_of e⟩
  keeps := fun _ _ _ ⟨K, hK, c1, c2⟩ k => ⟨K, PySem.W.Frag.In.keeps hK k, c1, fun d hd => ⟨(c2 d hd).1, (c2 d hd).2.1, k _ _ (c2 d hd).2.2⟩⟩
theorem obsLs_eq {n : Nat} {fas : List Gp.FB} {fn : List He5.DefA} {dfs : List He.Defn} {g : Addr → Option Obj} {s : Shared} (h : ∀ a, g a = s.heap.get? a) : obsLs n fas fn dfs g = (hookLs n fas fn dfs).obs s := by
  have e : g = s.heap.get? := funext h
  rw [e] <;> rfl
/-! ### a def below the law whose own text makes lambdas -/
abbrev BodyTd (P : Program) (w : World) (K : PySem.W.Frag) (mg : Str → Option Value) (base : Heap) (x : Str) (N : List Str) (st : Stmt) (k : Nat) (sp : Sp) : Prop :=
  ∀ (f : Addr) (A : Around) (outer : List Env) (s : Shared) (H : Hp) (vs : List V) (Q : VK) (E : XK), TabB base mg (He.cT K (x, none)).1 (He.cT K (x, none)).2 → Room k (A.deeper (envOfC x (defScope st) s.heap.objs.size f (.ref (He.cT K (x, none)).1))) → sp vs H Q E →
      ∃ t, PSs (cxOf (L2.CX P w) P w K mg base N x (defScope st) f (.ref (He.cT K (x, none)).1) A outer s H E) (defBody st) t ∧ t { nx := fun _ H' => Q .non H', rt := Q } (start N vs) H
theorem Df.lam {P : Program} {w : World} {K : PySem.W.Frag} {mg : Str → Option Value} {base : Heap} {x : Str} {st : Stmt} {fd : FuncData} {N ps : List Str} {k : Nat} {sp : Sp} (hm : mg x = some (.ref (He.ga K x))) (F : Fun K x x st (He.ga K x) fd) (S : FnScope N ps (defScope st)) (hb : BindL x x st ps)
    (len : ∀ vs H Q E, sp vs H Q E → vs.length = ps.length) (body : BodyTd P w K mg base x N st k sp) (TB : TabB base mg (He.cT K (x, none)).1 (He.cT K (x, none)).2) : Df P w K mg base (k + 1) x ps sp := by
  refine ⟨_, fd, hm, F.kp, F.binds hb, ?_⟩
  obtain ⟨oc, od, kV, doc, pm, an, cdv, ct, osl, rfl, lk, hcd⟩ := F.ex
  obtain ⟨c0, rfl⟩ := He.codeIn_ref hcd
  have e : He.codeOf K (x, none) = c0 := He.codeOf_eq (p := (x, none)) lk rfl
  subst e
  exact fn_of lk hcd S len fun A outer s H vs Q E hr hsp => body _ A outer s H vs Q E TB hr hsp
/-! ### two tables, told side by side -/
abbrev tabOf (K : PySem.W.Frag) (x : Str) : Addr × Str := ((He.cT K (x, none)).2, (x ++ ".<locals>.") ++ "<lambda>")
abbrev twoTs (K : PySem.W.Frag) (x y : Str) : List (Addr × Str) := [tabOf K x, tabOf K y]
section
variable {K : PySem.W.Frag} {x y : Str} {H : Hp}
theorem two_m1 : ((He.cT K (x, none)).2, ((x ++ ".<locals>.") ++ "<lambda>" : Str)) ∈ twoTs K x y := List.mem_cons_self
theorem two_m2 : ((He.cT K (y, none)).2, ((y ++ ".<locals>.") ++ "<lambda>" : Str)) ∈ twoTs K x y := List.mem_cons_of_mem _ List.mem_cons_self
theorem two_u1 (ne : (He.cT K (x, none)).2 ≠ (He.cT K (y, none)).2) : ∀ p ∈ twoTs K x y, p.1 = (He.cT K (x, none)).2 → p.2 = ((x ++ ".<locals>.") ++ "<lambda>" : Str) := fun p hp e => by
  rcases List.mem_cons.mp hp with rfl | hp
  · rfl
  · rw [List.mem_singleton.mp hp] at e
    exact absurd e.symm ne
theorem two_u2 (ne : (He.cT K (x, none)).2 ≠ (He.cT K (y, none)).2) : ∀ p ∈ twoTs K x y, p.1 = (He.cT K (y, none)).2 → p.2 = ((y ++ ".<locals>.") ++ "<lambda>" : Str) := fun p hp e => by
  rcases List.mem_cons.mp hp with rfl | hp
  · exact absurd e ne
  · rw [List.mem_singleton.mp hp]
theorem twoTs_0 (h1 : H (He.cT K (x, none)).2 = some (.tbl #[])) (h2 : H (He.cT K (y, none)).2 = some (.tbl #[])) : LamX.Tabs (twoTs K x y) H := fun p hp => by
  rcases List.mem_cons.mp hp with rfl | hp
  · exact LamX.TabS.nil h1
  · rw [List.mem_singleton.mp hp]
    exact LamX.TabS.nil h2
end
/-! ### a tuple times an int of at least one -/
theorem tuple_mulW1 (l : Addr) (items : Array Value) (n : Nat) (sl : Array (Option Value)) (u : Tok) :
    Meets (Builtin.«tuple.__mul__» ⟨[.ref l, .int 1 u], []⟩) (fun _ R s => (∃ dd, s.heap.get? l = some { cls := .type "tuple", dict := dd, data := .seq items n, slots := sl }) ∧ R (.ok (.ret (Value.ref l))) s) :=
  .of_wp fun prog w A R s h => by
    obtain ⟨hp, g, d, tk, os⟩ := s
    obtain ⟨⟨dd, hl⟩, h⟩ := h
    have f1 := AutoSeq1.idx_int
    have c1 : (items.isEmpty || (1 : Int) == 1) = true := by rw [Bool.or_comm]; rfl
    wp_walk using wpAny_loadPart' hl
    repeat (first
      | (refine wpAny_ite_false (by decide) ?_; wp_walk using wpAny_loadPart' hl)
      | (refine wpAny_ite_true (decide_eq_true c1) ?_; wp_walk using wpAny_loadPart' hl))
    exact ⟨_, rfl, h⟩
def rRepU (K : PySem.W.Frag) : R2 := fun x y H Q => (∃ l xs, x = .ref l ∧ y = .int 1 ∧ SqT K H l xs ∧ Q (.ref l) H) ∨ rRepT K x y H Q
theorem op_repU {X : Cx} : OpR X (binaryOp .Mult) (rRepU X.K) := by
  intro pins s σ H x y v u Q I rx ry h
  rcases h with ⟨l, xs, rfl, rfl, hT, q⟩ | h
  · cases rx
    obtain ⟨t, rfl⟩ := ry
    obtain ⟨its, r, ⟨⟨cls, dd, data, sl⟩, ho, hc, n, hd⟩, hs⟩ := I.tuple hT
    simp only at hc hd
    subst hc hd
    exact wpAny_binaryOp_repeat_ref (T := "tuple") (U := "int") (by decide) ⟨_, ho, rfl⟩ (fun s' => typeIs_int s' 1 t) noFill_tuple_mul F.fills_int_mul F.slot_int_rmul repeat_tuple F.slot_int_index.lookup
      (call_meets F.slot_int_rmul (typeIs_int s 1 t) F.entry_int_rmul (F.args_int_rmul_2 _ _) (int_rmul_tuple 1 t l its.toArray n dd sl)
        ⟨ho, rfl, ⟨_, ho, rfl⟩, call_meets F.slot_tuple_mul ⟨_, ho, rfl⟩ F.entry_tuple_mul (F.args_tuple_mul_2 _ _) (tuple_mulW1 l its.toArray n sl t) ⟨⟨dd, ho⟩, .ref l, H, I, rfl, q⟩⟩)
  · exact op_repT pins s σ H x y v u Q I rx ry h
theorem g_repU {K : PySem.W.Frag} {H : Hp} {Q : VK} {l : Addr} {xs : List V} {k : Nat} (h : SqT K H l xs) (hn : xs ≠ []) (hl : xs.length ≤ 1000) (h1 : 1 ≤ k) (h2 : k ≤ 1000) (q : ∀ p H2, Ex H H2 → SqT K H2 p (List.replicate k xs).flatten → Q (.ref p) H2) : rRepU K (.ref l) (.int (k : Int)) H Q := by
  by_cases z : k = 1
  · subst z
    exact .inl ⟨l, xs, rfl, rfl, h, q l H (Ex.refl _) (by rw [show (List.replicate 1 xs).flatten = xs by simp]; exact h)⟩
  · exact .inr ⟨l, k, xs, rfl, rfl, h, hn, by omega, by omega, hl, fun p hp => q p _ (Ex.new hp) (SqT.of upd_same)⟩
/-! ### facts that a head tells of own classes -/
/-- what a head must tell of a class whose instances stand left of >> with an int -/
structure ShrC (K : PySem.W.Frag) (C : Addr) : Prop where
  hc : PySem.W.selfFirst K C = true
  hr : PySem.W.findIn K (.ref C) (dunderR (Operator.info .RShift).2) = some none
  h1 : ∃ fo, PySem.W.findIn K (.type "int") (PySem.dunder (Operator.info .RShift).2) = some fo
  h2 : ∃ ro, PySem.W.findIn K (.type "int") (dunderR (Operator.info .RShift).2) = some ro
  hsub : PySem.W.subIn K (.type "int") (.ref C) = some false
def shrB (K : PySem.W.Frag) (C : Addr) : Bool := PySem.W.selfFirst K C && (decide (PySem.W.findIn K (.ref C) (dunderR (Operator.info .RShift).2) = some none) && ((PySem.W.findIn K (.type "int") (PySem.dunder (Operator.info .RShift).2)).isSome &&
  ((PySem.W.findIn K (.type "int") (dunderR (Operator.info .RShift).2)).isSome && decide (PySem.W.subIn K (.type "int") (.ref C) = some false))))
theorem shr_ok {K : PySem.W.Frag} {C : Addr} (h : shrB K C = true) : ShrC K C := by
  obtain ⟨h1, h⟩ := He.ba h
  obtain ⟨h2, h⟩ := He.ba h
  obtain ⟨h3, h⟩ := He.ba h
  obtain ⟨h4, h5⟩ := He.ba h
  exact ⟨h1, of_decide_eq_true h2, Option.isSome_iff_exists.mp h3, Option.isSome_iff_exists.mp h4, of_decide_eq_true h5⟩
def shrT : List String := ["NoneType", "bool", "int", "str"]
structure ShrV (K : PySem.W.Frag) (C : Addr) : Prop where
  hc : PySem.W.selfFirst K C = true
  hr : PySem.W.findIn K (.ref C) (dunderR (Operator.info .RShift).2) = some none
  hT : ∀ T ∈ shrT, (∃ fo, PySem.W.findIn K (.type T) (PySem.dunder (Operator.info .RShift).2) = some fo) ∧ (∃ ro, PySem.W.findIn K (.type T) (dunderR (Operator.info .RShift).2) = some ro) ∧ PySem.W.subIn K (.type T) (.ref C) = some false
def shrvB (K : PySem.W.Frag) (C : Addr) : Bool := PySem.W.selfFirst K C && (decide (PySem.W.findIn K (.ref C) (dunderR (Operator.info .RShift).2) = some none) && shrT.all fun T => (PySem.W.findIn K (.type T) (PySem.dunder (Operator.info .RShift).2)).isSome &&
  ((PySem.W.findIn K (.type T) (dunderR (Operator.info .RShift).2)).isSome && decide (PySem.W.subIn K (.type T) (.ref C) = some false)))
theorem shrv_ok {K : PySem.W.Frag} {C : Addr} (h : shrvB K C = true) : ShrV K C := by
  obtain ⟨h1, h⟩ := He.ba h
  obtain ⟨h2, h⟩ := He.ba h
  refine ⟨h1, of_decide_eq_true h2, fun T hT => ?_⟩
  have := List.all_eq_true.mp h T hT
  obtain ⟨h3, h⟩ := He.ba this
  obtain ⟨h4, h5⟩ := He.ba h
  exact ⟨Option.isSome_iff_exists.mp h3, Option.isSome_iff_exists.mp h4, of_decide_eq_true h5⟩
structure EqtC (K : PySem.W.Frag) (C : Addr) : Prop where
  nf : PySem.W.notFirst K C (.type "tuple") = true
  ki : PySem.W.kitOne K (.type "tuple") (.ref C) = some false
def eqtB (K : PySem.W.Frag) (C : Addr) : Bool := PySem.W.notFirst K C (.type "tuple") && decide (PySem.W.kitOne K (.type "tuple") (.ref C) = some false)
theorem eqt_ok {K : PySem.W.Frag} {C : Addr} (h : eqtB K C = true) : EqtC K C := by
  obtain ⟨h1, h2⟩ := He.ba h
  exact ⟨h1, of_decide_eq_true h2⟩
/-- where the class method's def stands -/
abbrev cmA (K : PySem.W.Frag) (C : Addr) (m : Str) : Addr := He5.wf K C "classmethod" m
structure CmC (K : PySem.W.Frag) (C : Addr) (m : Str) : Prop where
  rd : ClX.CRead K C (.type "type")
  wr : PySem.W.findCls K (.ref C) (.type "type") m = some (.get (.builtin "classmethod.__get__") (.ref (He.ma K C m)) .none (.ref C)) ∧ ∃ rest, PySem.W.recIn K (He.ma K C m) "classmethod" = some (.ref (cmA K C m) :: rest)
def cmB (K : PySem.W.Frag) (C : Addr) (m : Str) : Bool := PySem.W.readsIn K C (.type "type") && He5.wrapB K C "classmethod" "classmethod.__get__" m
theorem cm_ok {K : PySem.W.Frag} {C : Addr} {m : Str} (h : cmB K C m = true) : CmC K C m := by
  obtain ⟨h0, hw⟩ := He.ba h
  refine ⟨⟨h0, ?_⟩, He5.wrapB_ok hw⟩
  have h := h0
  unfold PySem.W.readsIn at h
  obtain ⟨h, _⟩ := He.ba h
  obtain ⟨h, _⟩ := He.ba h
  obtain ⟨h, h3⟩ := He.ba h
  obtain ⟨_, h2⟩ := He.ba h
  unfold PySem.W.specialIn
  rw [beq_iff_eq.mp h2, Option.bind_some]
  exact beq_iff_eq.mp h3
end G48
namespace G48
open PySem PySem.Spec PyProof.Rows L2 Evl
open PpSet
/-! ### {e for ..}: a set of ints (turned from the library's set of truth values) -/
section
variable {X : Cx}
theorem addI_ok {pins : List (Addr × Obj)} {σ : L2.St} {H : Hp} {s : Shared} {E : Value → Shared → Prop} {D : Addr} {S : Int → Bool} {n : Nat} {y : Int} {tk : Tok} {Q : Value → Shared → Prop} (I : Inv X pins σ H s) (hD : H D = some (SetO X.w D S n)) (room : n + 1 < scanBound)
    (h : ∀ s', Inv X pins σ (upd H D (SetO X.w D (fun j => S j || decide (j = y)) (if S y = true then n else n + 1))) s' → Q .none s') : wpAny (model X.prog X.w) X.A (call (.builtin "set.add") [.ref D, .int y tk]) Q E s := by
  refine setR_add (setO_get I hD) room fun h' sb new => ?_
  have he : ∃ u, h'.get? D = some u := by
    have ⟨o, _, _, _, ho, _⟩ := new
    exact ⟨o, ho⟩
  exact h _ (I.write (e := D) (t' := s.toks + 1) (by rw [hD]; trivial) (.inl rfl) (fun b u hb hu => (sb.2 b hb).trans hu) he (setO_new new))
/-- {elt for target in iter if ..}, elt an int: D the new set -/
def tScI (w : World) (wi : TI) (g : TG) (tt : TT) (te : TE) (vs : List Nat) : TE := fun σ H Q => wi σ H fun J H1 => ∀ D, H1 D = none → ∃ W : Nat → Nat → Hp → Prop, (∃ m, W 0 m (upd H1 D (SetO w D (fun _ => false) 0))) ∧ ∀ i m H, W i m H →
  (J.stop i H ∧ Q (.ref D) H) ∨ (J.go i H ∧ ∃ Nx : Hp → Prop, (∀ H', Nx H' → ∃ m', m' < m ∧ W (i + 1) m' H') ∧ ∀ x H', J.yld i H x H' → g x (wipe σ vs) H' fun σ2 H2 => wipe σ2 vs = wipe σ vs ∧ tt σ2 H2 fun b H3 =>
    if b = true then te σ2 H3 fun y H4 => ∃ (c : Int) (S : Int → Bool) (n : Nat), y = .int c ∧ H4 D = some (SetO w D S n) ∧ n + 1 < scanBound ∧ Nx (upd H4 D (SetO w D (fun j => S j || decide (j = c)) (if S c = true then n else n + 1))) else Nx H3)
theorem scI_core {pins : List (Addr × Obj)} {s : Shared} {σ : L2.St} {H : Hp} {Q : VK} {elt tg iter : Expr} {ifs : List Expr} {scope : Scope} {own : List (PySem.Str × Nat)} {pos pos' : Pos} {wi : TI} {g : TG} {tt : TT} {te : TE} {use : Option (Value → Sem Unit)} {Qf : Value → Shared → Prop}
    (hc : X.calm = true) (hN : X.N.Nodup) (I : Inv X pins σ H s) (hi : PI X tg iter wi) (ok : BlkOk X.N X.env.scope scope own)
    (hg : ∀ (s : Shared) (H : Hp) (C : Addr) (cl : List (PySem.Str × Addr)) (fp : List Addr), PG (X.blk s H scope (compEnvC scope cl C X.env) fp) tg g) (ht : ∀ (s : Shared) (H : Hp) (C : Addr) (cl : List (PySem.Str × Addr)) (fp : List Addr), PTs (X.blk s H scope (compEnvC scope cl C X.env) fp) ifs tt)
    (he : ∀ (s : Shared) (H : Hp) (C : Addr) (cl : List (PySem.Str × Addr)) (fp : List Addr), PE (X.blk s H scope (compEnvC scope cl C X.env) fp) elt te) (hs : ∀ x, foldedSetIterable iter X.env x = pure x)
    (h : tScI X.w wi g tt te (own.map (·.2)) σ H Q)
    (hRR : ∀ D C s' m H', Inv X pins σ H' s' → Q (.ref D) H' → s'.heap.Ns C m → FpOk X pins H' C → compPost (model X.prog X.w) X.A X.xe use Qf (.ref D) C (.ok .next) s') :
    wpAny (model X.prog X.w) X.A (comprehension (.SetComp elt [⟨tg, iter, ifs, 0⟩] scope pos) scope X.env pos' (newSet (.type "set")) false (eval iter X.env) use) Qf X.xe s := by
  have hfree : ∀ y ∈ scope.names, y.2 = .free → ∃ c, X.env.cells.lookup y.1 = some c := fun y hy e => by
    rcases ok.free y hy e with k | k
    · exact I.ok.has _ (.inl k)
    · exact I.ok.has _ (.inr k)
  refine wpAny_comprehension_free (use := use) rfl hs (closure_ok hfree) ok.kind (fun y hy e => by rw [ok.uniq y hy, e])
    (thn (hi.run pins s σ H _ I h) fun xv s1 hx => thn hx fun itv s2 h2 => ?_)
  obtain ⟨it, fp, tn, J, H2, e, I2, T, st2, f2, q⟩ := h2
  subst e
  refine newSet_ok (newEnv_comp ?_)
  generalize hD : s2.heap.objs.size = D
  have hDn : H2 D = none := I2.hok.fresh (Nat.le_of_eq hD)
  obtain ⟨W, ⟨m0, w0⟩, turn⟩ := q D hDn
  -- the new list
  generalize hs3 : ({ s2 with heap := s2.heap.push { cls := .type "set", dict := none, data := .set #[] 0 (.fresh 0 0 (!X.w.params.followText "set-order")) } } : Shared) = s3
  have I3 : Inv X pins σ (upd H2 D (SetO X.w D (fun _ => false) 0)) s3 := by
    rw [← hs3]
    refine I2.laid (t' := s2.toks) (fun b o e => Heap.get?_push_of_some _ e) (Nat.le_of_eq hD) ?_
    rw [← hD]
    exact setO_new (setR_fresh X.w)
  have h3 : s3.heap = s2.heap.push { cls := .type "set", dict := none, data := .set #[] 0 (.fresh 0 0 (!X.w.params.followText "set-order")) } := by rw [← hs3]
  have sz : ∀ b ∈ fp, b < s2.heap.objs.size := fun b hb => by
    obtain ⟨o, e, _⟩ := T.obj _ _ st2 b hb
    exact Heap.lt_size e
  have f3 : ∀ b ∈ fp, FpOk X pins (upd H2 D (SetO X.w D (fun _ => false) 0)) b ∧ b < s3.heap.objs.size := fun b hb => by
    have hlt := sz b hb
    refine ⟨⟨?_, (f2 b hb).2⟩, by rw [h3, Heap.size_push]; exact Nat.lt_succ_of_lt hlt⟩
    rw [upd_ne (by rw [← hD]; exact Nat.ne_of_lt hlt)]
    exact (f2 b hb).1
  have st3 : tn 0 s3.heap := T.keep _ _ _ st2 fun b _ o e => by rw [h3]; exact Heap.get?_push_of_some _ e
  have I4 := block_start I3 ok hN f3
  have pg := hg s3 (upd H2 D (SetO X.w D (fun _ => false) 0)) s3.heap.objs.size (cellsFrom (s3.heap.objs.size + 1) scope.names (cloFrom X.env.cells scope.names [])) fp
  have pt := ht s3 (upd H2 D (SetO X.w D (fun _ => false) 0)) s3.heap.objs.size (cellsFrom (s3.heap.objs.size + 1) scope.names (cloFrom X.env.cells scope.names [])) fp
  have pe := he s3 (upd H2 D (SetO X.w D (fun _ => false) 0)) s3.heap.objs.size (cellsFrom (s3.heap.objs.size + 1) scope.names (cloFrom X.env.cells scope.names [])) fp
  show codeAny _ _ (.compStart (.SetComp elt [⟨tg, iter, ifs, 0⟩] scope pos) 0 (.ref it) (.ref D) (compEnvC scope (cellsFrom (s3.heap.objs.size + 1) scope.names (cloFrom X.env.cells scope.names [])) s3.heap.objs.size X.env)) (compPost (model X.prog X.w) X.A X.xe use Qf (.ref D) s3.heap.objs.size) { s3 with heap := pushCells (s3.heap.push { cls := .type "dict", data := .dict #[] }) scope.names }
  have nfp : ∀ b ∈ fp, (upd H2 D (SetO X.w D (fun _ => false) 0)) b = none := fun b hb => (f3 b hb).1.1
  generalize hce : compEnvC scope (cellsFrom (s3.heap.objs.size + 1) scope.names (cloFrom X.env.cells scope.names [])) s3.heap.objs.size X.env = ce at I4 pg pt pe ⊢
  have cL : ce.locals = s3.heap.objs.size := by subst hce; rfl
  generalize hH3 : upd H2 D (SetO X.w D (fun _ => false) 0) = H3 at I3 I4 pg pt pe w0 nfp f3
  generalize hs4 : ({ s3 with heap := pushCells (s3.heap.push { cls := .type "dict", data := .dict #[] }) scope.names } : Shared) = s4 at I4 ⊢
  have st4 : tn 0 s4.heap := T.keep _ _ _ st3 fun b _ o e => by rw [← hs4]; exact pushCells_keeps _ _ _ _ (Heap.get?_push_of_some _ e)
  have stat : ∀ {σ' : L2.St} {H' : Hp} {s' : Shared}, Inv (X.blk s3 H3 scope ce fp) [] σ' H' s' → (∀ b ∈ fp, H' b = none) → ∀ b ∈ fp, FpOk (X.blk s3 H3 scope ce fp) [] H' b := fun {σ' H' s'} I' hn b hb =>
    ⟨hn b hb, (I'.ok.exf b hb).1, I'.ok.exfs b hb, .inl hb, fun x c e => (I'.ok.exf b hb).2 x c e, fun p hp => absurd (show p ∈ ([] : List (Addr × Obj)) ++ [] from hp) (by simp)⟩
  have loop : codeAny (model X.prog X.w) X.A (.compLoop (.SetComp elt [⟨tg, iter, ifs, 0⟩] scope pos) 0 (.ref it) (.ref D) ce) (compPost (model X.prog X.w) X.A X.xe use Qf (.ref D) s3.heap.objs.size) s4 := by
    refine compLoopS_any (fun n s' => ∃ i H', Inv (X.blk s3 H3 scope ce fp) [] (wipe σ (own.map (·.2))) H' s' ∧ tn i s'.heap ∧ (∀ b ∈ fp, H' b = none) ∧ W i n H') ?_ m0 ⟨0, H3, I4, st4, nfp, w0⟩
    rintro n s5 ⟨i, H5, I5, st5, n5, w5⟩
    rcases turn i n H5 w5 with ⟨stop, qq⟩ | ⟨go, Nx, hNx, step⟩
    · have td := T.done (X.blk s3 H3 scope ce fp) rfl rfl rfl hc i [] s5 _ H5 (fun _ _ => False) I5 (stat I5 n5) st5 stop
      refine thnF td fun r s6 ⟨hr, I6⟩ => ?_
      subst hr
      -- back in the def's context
      have I7 : Inv X pins σ H5 s6 := I3.call' (ch := fp) I6.os I6.base I6.hok I6.bare fun b hb => ⟨(f3 b hb).1.2.2.2.1, (f3 b hb).1.2.1, (f3 b hb).1.2.2.2.2.1, (f3 b hb).1.2.2.2.2.2⟩
      have nC : H5 s3.heap.objs.size = none := by
        have z : H5 ce.locals = none := I6.free
        rw [cL] at z
        exact z
      obtain ⟨m, hn, _⟩ := I6.loc
      have hn : s6.heap.Ns ce.locals m := hn
      rw [cL] at hn
      exact hRR D s3.heap.objs.size s6 m H5 I7 qq hn (I3.fpOk (Nat.le_refl _) nC)
    · have ti := T.item (X.blk s3 H3 scope ce fp) rfl rfl rfl hc i [] s5 _ H5 (fun _ _ => False) I5 (stat I5 n5) st5 go
      refine thnF ti fun r s6 ⟨u, hr, h6⟩ => ?_
      subst hr
      refine thnF h6 fun _ s7 ⟨x, H7, I7, r7, y7, st7, n7⟩ => ?_
      have I7' := I7.pinned (stat I7 n7) (T.obj _ _ st7)
      refine thnF (pg.run _ s7 _ H7 x u _ I7' r7 (step x H7 y7)) fun _ s8 ⟨σ8, H8, I8, hw8, q8⟩ => ?_
      refine thnF (pt.run _ s8 σ8 H8 _ I8 q8) fun b s9 ⟨H9, I9, q9⟩ => ?_
      -- the turn's end
      have fin : ∀ {s' : Shared} {H' : Hp}, Inv (X.blk s3 H3 scope ce fp) ([] ++ pinsAt fp s7.heap) σ8 H' s' → Nx H' → ∃ m, m < n ∧ ∃ i H', Inv (X.blk s3 H3 scope ce fp) [] (wipe σ (own.map (·.2))) H' s' ∧ tn i s'.heap ∧ (∀ b ∈ fp, H' b = none) ∧ W i m H' := fun {s' H'} I' nx => by
        obtain ⟨m', hm, w'⟩ := hNx H' nx
        have pin' : ∀ b ∈ fp, ∀ o, s7.heap.get? b = some o → s'.heap.get? b = some o ∧ H' b = none := fun b hb o e =>
          let z := I'.pin (b, o) (List.mem_append_right _ (List.mem_append_right _ (mem_pinsAt hb e)))
          ⟨z.1, z.2.1⟩
        have hl : (wipe σ (own.map (·.2))).length = σ8.length := by rw [← hw8, wipe_length]
        refine ⟨m', hm, i + 1, H', (I'.unpinned (pins := [])).weak hl (fun j v e => ?_), T.keep _ _ _ st7 fun b hb o e => (pin' b hb o e).1, fun b hb => ?_, w'⟩
        · rw [← hw8] at e
          exact (wipe_some e).1
        · obtain ⟨o, e, _⟩ := T.obj _ _ st7 b hb
          exact (pin' b hb o e).2
      cases b with
      | false =>
        simp only [Bool.false_eq_true, if_false] at q9 ⊢
        exact fin I9 q9
      | true =>
        simp only [if_true] at q9 ⊢
        refine thnF (pe.run _ s9 σ8 H9 _ I9 q9) fun z s10 ⟨yv, H10, I10, r10, cb, S0, n0, ey, hD10, hz10, nx⟩ => ?_
        subst ey
        obtain ⟨tk, rfl⟩ := r10
        exact addI_ok (X := X.blk s3 H3 scope ce fp) I10 hD10 hz10 fun s11 I11 => fin I11 nx
  exact codeAny_compStart_set loop (T.self X.A 0 _ _ _ st4 loop)
/-- as a value -/
theorem pe_scI {elt tg iter : Expr} {ifs : List Expr} {scope : Scope} {own : List (PySem.Str × Nat)} {pos : Pos} {wi : TI} {g : TG} {tt : TT} {te : TE} (hc : X.calm = true) (hN : X.N.Nodup) (hi : PI X tg iter wi) (ok : BlkOk X.N X.env.scope scope own)
    (hg : ∀ (s : Shared) (H : Hp) (C : Addr) (cl : List (PySem.Str × Addr)) (fp : List Addr), PG (X.blk s H scope (compEnvC scope cl C X.env) fp) tg g) (ht : ∀ (s : Shared) (H : Hp) (C : Addr) (cl : List (PySem.Str × Addr)) (fp : List Addr), PTs (X.blk s H scope (compEnvC scope cl C X.env) fp) ifs tt)
    (he : ∀ (s : Shared) (H : Hp) (C : Addr) (cl : List (PySem.Str × Addr)) (fp : List Addr), PE (X.blk s H scope (compEnvC scope cl C X.env) fp) elt te) (hs : ∀ x, foldedSetIterable iter X.env x = pure x := by intro _; rfl) :
    PE X (.SetComp elt [⟨tg, iter, ifs, 0⟩] scope pos) (tScI X.w wi g tt te (own.map (·.2))) := by
  refine ⟨fun pins s σ H Q I h => ?_⟩
  rw [eval_SetComp]
  refine scI_core hc hN I hi ok hg ht he hs h fun D C s' m H' I' q hn f => ⟨m, hn, fun h'' sb => ?_⟩
  obtain ⟨f0, f1, f2, f3, f4, f5⟩ := f
  exact ⟨.ref D, H', I'.turned (t' := s'.toks) (fun b o hb e => (sb.2 b hb).trans e) f0 f1 f3 f4 f5, rfl, q⟩
end
/-! ### set(xs) of a list of ints -/
section
variable {P : Program} {w : World} {A : Around} {E : Value → Shared → Prop} {s : Shared}
set_option maxRecDepth 100000 in
set_option maxHeartbeats 3200000 in
theorem call_set_lstI {l : Addr} {items : Array Value} (ns : List Int) {Q : Value → Shared → Prop} (hh : A.handled = none) (hl : s.heap.IsList l items) (hit : IntsAre items.toList ns) (hb : ns.length + 1 < scanBound)
    (h : ∀ (h' : Heap) (tk c : Nat), SetR w h' s.heap.objs.size (fun j => decide (j ∈ ns)) c → c ≤ ns.length → (∀ b o, s.heap.get? b = some o → h'.get? b = some o) → Q (.ref s.heap.objs.size) { s with heap := h', toks := tk }) :
    wpAny (model P w) A (call (.type "set") [.ref l]) Q E s := by
  have hisz : items.size = ns.length := by
    have q := IntsAre.length hit
    rw [Array.length_toList] at q
    exact q
  obtain ⟨c, tl, hmro⟩ := F.called_set.mro
  have hmade := F.called_set.made
  have hsub := F.called_set.sub
  refine wpAny_call (codeAny_of_tree ?_)
  show wpAny _ _ (callAny (.type "set") _) _ _ _
  refine wpAny_pure ⟨Code.quiet_builtin _ (by decide +kernel), codeAny_builtin F.entry_type_call ?_⟩
  rw [Around.under_plain (weight_type_call_type "set" [.ref l] []) rfl]
  have h1 := F.called_set.notType
  have h2 := F.called_set.canCreate
  have hct := F.typeCall_set_1 (.ref l)
  repeat (any_goals (first | assumption | wp_step))

  refine codeAny_mono (code_set_led1 (.ref l) (E := E) (Q₁ := fun obj s₁ => obj = .ref s.heap.objs.size ∧ s₁ = { s with heap := s.heap.push { cls := .type "set", dict := none, data := .set #[] 0 (.fresh 0 0 (!w.params.followText "set-order")) } }) ⟨rfl, rfl⟩) fun r s₁ hr => ?_
  cases r with
  | error e => exact hr
  | ok fl =>
    cases fl with
    | ret obj =>
      obtain ⟨rfl, rfl⟩ := hr
      have hS : (s.heap.push { cls := .type "set", dict := none, data := .set #[] 0 (.fresh 0 0 (!w.params.followText "set-order")) }).get? s.heap.objs.size = some { cls := .type "set", dict := none, data := .set #[] 0 (.fresh 0 0 (!w.params.followText "set-order")) } := Heap.get?_push_size _ rfl
      have hT : Shared.TypeIs { s with heap := s.heap.push { cls := .type "set", dict := none, data := .set #[] 0 (.fresh 0 0 (!w.params.followText "set-order")) } } (.ref s.heap.objs.size) "set" := ⟨_, hS, rfl⟩
      have hli := F.called_set.init.lookup
      have hbi := F.called_set.init.bind (.ref s.heap.objs.size)
      repeat (any_goals (first | assumption | wp_step))

      refine codeAny_mono (codeAny_call_builtin (R := wants (fun r s₂ => r = .none ∧ ∃ h' tk c, s₂ = { s with heap := h', toks := tk } ∧ SetR w h' s.heap.objs.size (fun j => decide (j ∈ ns)) c ∧ c ≤ ns.length ∧
          (∀ b o, s.heap.get? b = some o → h'.get? b = some o)) E) F.called_set.init.plain F.entry_set_init (check_set_init_1 hT ?_)) fun r₂ s₂ hr₂ => ?_
      · obtain ⟨ol, hol, hcl, nl, hdl⟩ := hl
        obtain ⟨ocls, odict, odata, oslots⟩ := ol
        simp only at hcl hdl
        subst hcl; subst hdl
        have hol' : (s.heap.push { cls := .type "set", dict := none, data := .set #[] 0 (.fresh 0 0 (!w.params.followText "set-order")) }).get? l = some { cls := .type "list", dict := odict, data := .seq items nl, slots := oslots } := Heap.get?_push_of_some _ hol
        have hsls := PySem.F.sub_list_set
        have hslf := PySem.F.sub_list_frozenset
        have hne : (Value.type "list" == Value.type "dict") = false := by decide
        have hl1 : (s.heap.push { cls := .type "set", dict := none, data := .set #[] 0 (.fresh 0 0 (!w.params.followText "set-order")) }).IsList l items := ⟨_, hol', rfl, nl, rfl⟩
        unfold Builtin.«set.__init__» noKeywords Builtin.Frozenset.updateFrom
        generalize hPI : pyIter = PI
        wp_walk
        subst hPI

        refine wpAny_pyIter_list hl1 ?_
        refine wpAny_bind (wpAny_runValue ?_)
        have hlS : l < s.heap.objs.size := Heap.lt_size hol
        have hh3 : A.in1.in1.in1.handled = none := by simp [hh]
        have hz1 : (s.heap.push { cls := .type "set", dict := none, data := .set #[] 0 (.fresh 0 0 (!w.params.followText "set-order")) }).objs.size = s.heap.objs.size + 1 := Heap.size_push ..
        have hneI : l ≠ (s.heap.push { cls := .type "set", dict := none, data := .set #[] 0 (.fresh 0 0 (!w.params.followText "set-order")) }).objs.size := by
          rw [Heap.size_push]; exact Nat.ne_of_lt (Nat.lt_succ_of_lt hlS)
        have hSf : s.heap.objs.size ∉ [(s.heap.push { cls := .type "set", dict := none, data := .set #[] 0 (.fresh 0 0 (!w.params.followText "set-order")) }).objs.size, l] := by
          rw [Heap.size_push]; simp only [List.mem_cons, List.mem_singleton, List.not_mem_nil, or_false, not_or]
          exact ⟨Nat.ne_of_lt (Nat.lt_succ_self _), Nat.ne_of_gt hlS⟩
        have hval : ∀ (i : Nat) (v : Value), items[i]? = some v → ∃ k t, ns[i]? = some k ∧ v = .int k t := fun i v hv => by
          have hi : i < ns.length := by rw [← hisz]; exact (Array.getElem?_eq_some_iff.mp hv).1
          obtain ⟨t, e⟩ := PyProof.Rows.IntsAre.int_at hit i v (by rw [Array.getElem?_toList]; exact hv)
          refine ⟨ns[i], t, List.getElem?_eq_getElem hi, ?_⟩
          rw [e, List.getD_eq_getElem?_getD, List.getElem?_eq_getElem hi] <;> rfl
        refine set_update_ints ((Walks.list hh3 _ l hneI items).toS) s.heap.objs.size
          hSf ns hisz hb hval (items.size - 0) 0 _ (by omega) (Nat.zero_le _)
          ⟨⟨_, Heap.get?_push_size _ rfl, rfl, rfl⟩, (hl1.push _)⟩ ?hS0 ?hR
        case hS0 =>
          have hget : ((s.heap.push { cls := .type "set", dict := none, data := .set #[] 0 (.fresh 0 0 (!w.params.followText "set-order")) }).push { cls := .type "list_iterator", data := .fields #[.ref l, .int 0 0] }).get? s.heap.objs.size
              = some { cls := .type "set", dict := none, data := .set #[] 0 (.fresh 0 0 (!w.params.followText "set-order")) } := Heap.get?_push_of_some _ hS
          exact ⟨0, Nat.le_refl 0, setR_new_at hget⟩
        case hR =>
          intro s' c' hm hc' hS'
          obtain ⟨h', g2, d', tk', os'⟩ := s'
          have eg : g2 = s.gens := hm.gens
          have ed : d' = s.drawn := hm.drawn
          have eo : os' = s.os := hm.os
          subst eg; subst ed; subst eo
          show wpAny _ _ _ _ _ _
          refine wpAny_pure ?_
          show wpAny _ _ (ret Value.none) _ _ _
          rw [hisz] at hc'
          refine wpAny_pure ⟨rfl, h', tk', c', rfl, hS', hc', fun b o e => ?_⟩
          have hb0 : b < s.heap.objs.size := Heap.lt_size e
          have hb1 : b ≠ s.heap.objs.size := Nat.ne_of_lt hb0
          have hb2 : b ≠ (s.heap.push { cls := .type "set", dict := none, data := .set #[] 0 (.fresh 0 0 (!w.params.followText "set-order")) }).objs.size := by
            rw [Heap.size_push]; exact Nat.ne_of_lt (Nat.lt_succ_of_lt hb0)
          exact hm.heap b o (by simp only [List.mem_cons, List.mem_singleton, List.not_mem_nil, or_false, not_or]; exact ⟨hb1, hb2⟩) (Heap.get?_push_of_some _ (Heap.get?_push_of_some _ e))

      · cases r₂ with
        | error e => exact hr₂
        | ok fl₂ =>
          cases fl₂ with
          | ret r =>
            obtain ⟨rfl, h', tk, c', rfl, hS', hc', hk'⟩ := hr₂
            repeat (any_goals (first | assumption | wp_step))
            exact h _ _ _ hS' hc' hk'
          | _ => exact hr₂.elim
    | _ => exact hr.elim

end
end G48
namespace G48
open PySem PySem.Spec PyProof.Rows L2 Evl
/-! ### set(xs), len(set) -/
def rSetL (K : PySem.W.Frag) (w : World) : List V → Hp → VK → Prop := fun xs H Q => ∃ (l : Addr) (ns : List Int), xs = [.ref l] ∧ SqL K H l (ns.map V.int) ∧ ns.length ≤ 60 ∧ ∀ p c, H p = none → c ≤ ns.length → Q (.ref p) (upd H p (SetO w p (fun j => decide (j ∈ ns)) c))
section
variable {X : Cx}
theorem cr_setL (hc : X.calm = true) : CallR X (.type "set") (rSetL X.K X.w) := by
  intro pins s σ H xs us Q I r h
  obtain ⟨l, ns, rfl, hl, hz, q⟩ := h
  rw [Vals.ref1 r]
  obtain ⟨its, rv, pl, hzz⟩ := I.list hl
  have hi : IntsAre its ns := intsAre_of rv
  refine call_set_lstI (items := its.toArray) ns (I.ok.hd hc) pl.isList (by simpa using hi) (by unfold scanBound; omega) fun h' tk c R hcn k => ?_
  have hn : H s.heap.objs.size = none := I.hok.fresh (Nat.le_refl _)
  exact ⟨.ref _, upd H s.heap.objs.size (SetO X.w s.heap.objs.size (fun j => decide (j ∈ ns)) c), I.laid (t' := tk) (fun b u e => k b u e) (Nat.le_refl _) (setO_new R), rfl, q _ c hn hcn⟩
theorem cr_setLK (K : PySem.W.Frag) (hc : X.calm = true) (h : X.K = K := by rfl) : CallR X (.type "set") (rSetL K X.w) := by subst h; exact cr_setL hc
end
/-- len(s), s a set of ints: as many as it has members -/
def rLenS (w : World) : List V → Hp → VK → Prop := fun xs H Q => ∃ (a : Addr) (S : Int → Bool) (n : Nat), xs = [.ref a] ∧ H a = some (SetO w a S n) ∧ n ≤ 1000 ∧ ∀ ks : List Int, ks.Nodup → ks.length = n → (∀ k, k ∈ ks ↔ S k = true) → Q (.int (n : Nat)) H
theorem c_lenS {X : Cx} : CallR X (.builtin "len") (rLenS X.w) := by
  intro pins s σ H xs us Q I r h
  obtain ⟨a, S, n, rfl, ha, hn, q⟩ := h
  rw [Vals.ref1 r]
  obtain ⟨o, es, ep, t, ho, hx, hd, g, nd, hm, hb, hf, hs, _⟩ := setO_get I ha
  have q := q (es.toList.map keyOf) nd (by rw [List.length_map, Array.length_toList]; exact hs) (fun k => (hm k).symm)
  refine call_len_set ho hx hd hf (by omega) ⟨.int (n : Nat), H, I.tok _, ⟨_, by rw [hs]⟩, q⟩
/-! ### d == {} -/
def rEqD0 : R2 := fun x y H Q => ∃ a b ks, x = .ref a ∧ y = .ref b ∧ H a = some (.dK ks) ∧ H b = some (.dK []) ∧ Q (.bl ks.isEmpty) H
theorem op_eqD0 {X : Cx} (hu : X.A.units < cLine) : OpR X (compareOp .Eq) rEqD0 := by
  intro pins s σ H x y v u Q I rx ry h
  obtain ⟨a, b, ks, rfl, rfl, ea, eb, q⟩ := h
  obtain rfl : v = Value.ref a := rx
  obtain rfl : u = Value.ref b := ry
  obtain ⟨_, ya, va, ra, da⟩ := (show ObjOk X.prog X.w H s.heap a (.dK ks) from I.hok a _ ea)
  obtain ⟨_, yb, vb, rb, db⟩ := (show ObjOk X.prog X.w H s.heap b (.dK []) from I.hok b _ eb)
  cases rb
  have hl := ra.length
  refine PySem.W.keq_eq (knd := mixKind X.prog X.w) (r := true) ya yb da db hu (fun hlen => ?_) ?_
  · have : va = [] := List.length_eq_zero_iff.mp hlen
    subst this
    exact .nil
  · refine fin_bl I q ?_
    cases ks with
    | nil =>
      have : va = [] := List.length_eq_zero_iff.mp hl.symm
      subst this
      rfl
    | cons k ks =>
      cases va with
      | nil => cases hl
      | cons v va => rfl
/-! ### a told name, outside of comprehensions -/
theorem pe_toldN {X : Cx} {Ng : List Str} {x a : Str} {k j : Nat} {TT : (XK → Hp → VK → Prop) → Hp → VK → Prop} {st : Stmt} {ta : TA} {e : Expr} {p pos : Pos} (hr : Room j X.A)
    (G : GFun X.K X.mg x st) (Sg : FnScope Ng [a] (defScope st)) (hb : BindL x x st [a]) (hG : GivesL X.prog X.w X.K X.mg X.base Ng x st a (k + 1) TT) (hNg : Ng[0]? = some a) (hva : Vis (defScope st) a) (ha : PA X [e] ta) (hk : k + 2 ≤ j := by decide) (hg : Gl X x := by rfl)
    (hdb : (x == ("__debug__" : Str)) = false := by decide) (hd : (a == ("__debug__" : Str)) = false := by decide) (hcd : (a == ("__classdict__" : Str)) = false := by decide)
    (hst : starEach [e] X.env = (false, eval e X.env) :: starEach [] X.env := by rfl) (hpl : (backTo pos (starEach [] X.env)).any (·.1) = false := by rfl) :
    PE X (.Call (.Name x p) [e] [] pos) (fun σ H Q => tToldT (lamM X) k ta σ TT σ H Q) := by
  refine ⟨fun pins s σ H Q I h => ?_⟩
  have L := pe_told (Y := X) (N := X.N) (sg := fun τ => τ) (sc := X.env.scope) (cells := X.env.cells) (qual := X.env.qual ++ "<lambda>") (LO := LamOk X.prog X.w X.K X.mg X.base X.N X.env.scope X.env.cells (X.env.qual ++ "<lambda>") k) (p := p) (pos := pos)
    (fun pins' s' σ' H' J => ⟨CellsOk.of J, J.len⟩) (fun l hl => hl) hr G Sg hb hG hNg hva ha hk hg hdb hd hcd hst hpl
  refine L.run pins s σ H Q I ?_
  have e : (fun (vs : List V) (H1 : Hp) => ∃ f t, vs = [.ref f] ∧ LamTo (lamM X) k H1 f t ∧ TT (fun E H' Q' => t E σ H' Q') H1 Q) = fun vs H1 => ∃ f l, vs = [.ref f] ∧ LamOk X.prog X.w X.K X.mg X.base X.N X.env.scope X.env.cells (X.env.qual ++ "<lambda>") k l ∧ LamD.at_ l H1 f (X.env.qual ++ "<lambda>") X.env.cells ∧ TT (fun E H' Q' => l.t E σ H' Q') H1 Q := by
    funext vs H1
    refine propext ⟨?_, ?_⟩
    · rintro ⟨f, t, e1, ⟨l, a1, a2, rfl⟩, q⟩
      exact ⟨f, l, e1, a1, a2, q⟩
    · rintro ⟨f, l, e1, a1, a2, q⟩
      exact ⟨f, l.t, e1, ⟨l, a1, a2, rfl⟩, q⟩
  show ta σ H _
  rw [← e]
  exact h
/-! ### dict and set comprehensions, loops over a locked dict: readings -/
section
variable {tt : TT} {tk tv te : TE} {vs : List Nat} {g : TG} {Q : VK} {H H1 : Hp}
def kDcV (y : V) (D : Addr) (Nx : Hp → Prop) : VK := fun z H5 => ∃ kvs k, y = kV k ∧ H5 D = some (.dK kvs) ∧ kvs.length < sizeLine ∧ Nx (upd H5 D (.dK (putK kvs k z)))
def kDcK (tv : TE) (σ2 : L2.St) (D : Addr) (Nx : Hp → Prop) : VK := fun y H4 => tv σ2 H4 (kDcV y D Nx)
def kDcT (tk tv : TE) (σ2 : L2.St) (D : Addr) (Nx : Hp → Prop) : Bool → Hp → Prop := fun b H3 => if b = true then tk σ2 H3 (kDcK tv σ2 D Nx) else Nx H3
def kDcG (tt : TT) (tk tv : TE) (vs : List Nat) (σ : L2.St) (D : Addr) (Nx : Hp → Prop) : L2.St → Hp → Prop := fun σ2 H2 => wipe σ2 vs = wipe σ vs ∧ tt σ2 H2 (kDcT tk tv σ2 D Nx)
theorem g_kDcG {σ σ2 : L2.St} {D : Addr} {Nx : Hp → Prop} (e : wipe σ2 vs = wipe σ vs) (q : tt σ2 H (kDcT tk tv σ2 D Nx)) : kDcG tt tk tv vs σ D Nx σ2 H := ⟨e, q⟩
theorem g_kDcTt {σ2 : L2.St} {D : Addr} {Nx : Hp → Prop} (q : tk σ2 H (kDcK tv σ2 D Nx)) : kDcT tk tv σ2 D Nx true H := q
theorem g_kDcTf {σ2 : L2.St} {D : Addr} {Nx : Hp → Prop} (q : Nx H) : kDcT tk tv σ2 D Nx false H := q
theorem g_kDcK {σ2 : L2.St} {D : Addr} {Nx : Hp → Prop} {y : V} (q : tv σ2 H (kDcV y D Nx)) : kDcK tv σ2 D Nx y H := q
theorem g_kDcV {D : Addr} {Nx : Hp → Prop} {i : Int} {z : V} {kvs : List (Key × V)} (h : H D = some (.dK kvs)) (hl : kvs.length < sizeLine) (q : Nx (upd H D (.dK (putK kvs (.inl i) z)))) : kDcV (.int i) D Nx z H := ⟨kvs, .inl i, rfl, h, hl, q⟩
theorem dc_gen {J : It} {σ : L2.St} {D : Addr} {Qd : Hp → Prop} (n : Nat) (Pv : Nat → Hp → Prop) (h0 : Pv 0 (upd H1 D (.dK []))) (hg : ∀ i H, i ≤ n → Pv i H → (i < n → J.go i H) ∧ (i = n → J.stop i H))
    (hs : ∀ i H x H', i < n → Pv i H → J.yld i H x H' → g x (wipe σ vs) H' (kDcG tt tk tv vs σ D (Pv (i + 1)))) (hd : ∀ H, Pv n H → Qd H) :
    ∃ W : Nat → Nat → Hp → Prop, (∃ m, W 0 m (upd H1 D (.dK []))) ∧ ∀ i m H, W i m H →
      (J.stop i H ∧ Qd H) ∨ (J.go i H ∧ ∃ Nx : Hp → Prop, (∀ H', Nx H' → ∃ m', m' < m ∧ W (i + 1) m' H') ∧ ∀ x H', J.yld i H x H' → g x (wipe σ vs) H' fun σ2 H2 => wipe σ2 vs = wipe σ vs ∧ tt σ2 H2 fun b H3 =>
        if b = true then tk σ2 H3 fun y H4 => tv σ2 H4 fun z H5 => ∃ kvs k, y = kV k ∧ H5 D = some (.dK kvs) ∧ kvs.length < sizeLine ∧ Nx (upd H5 D (.dK (putK kvs k z))) else Nx H3) := by
  refine ⟨fun i m H => m = n - i ∧ i ≤ n ∧ Pv i H, ⟨n, by simp, Nat.zero_le _, h0⟩, ?_⟩
  rintro i m H ⟨rfl, hi, p⟩
  by_cases hlt : i < n
  · exact .inr ⟨(hg i H hi p).1 hlt, Pv (i + 1), fun H' p' => ⟨n - (i + 1), by omega, rfl, hlt, p'⟩, fun x H' y => hs i H x H' hlt p y⟩
  · have e : i = n := by omega
    subst e
    exact .inl ⟨(hg i H hi p).2 rfl, hd H p⟩
/-- over range(lo, n) -/
def kDcR2 (g : TG) (tt : TT) (tk tv : TE) (vs : List Nat) (σ : L2.St) (Q : VK) : List V → Hp → Prop := fun xs H1 => tDc (iRng2 fun _ H R => R xs H) g tt tk tv vs σ H1 Q
theorem g_dcR2 {tr : TA} {σ : L2.St} (q : tr σ H (kDcR2 g tt tk tv vs σ Q)) : tDc (iRng2 tr) g tt tk tv vs σ H Q := q
theorem g_kDcR2 {σ : L2.St} {lo n : Int} (hn : -(2 ^ 62) ≤ lo ∧ lo < 2 ^ 62 ∧ -(2 ^ 62) ≤ n ∧ n < 2 ^ 62) (Pv : Addr → Nat → Hp → Prop) (h0 : ∀ D, H D = none → Pv D 0 (upd H D (.dK [])))
    (hs : ∀ D (i : Nat) H2, H D = none → lo + (i : Int) < n → Pv D i H2 → g (.int (lo + (i : Int))) (wipe σ vs) H2 (kDcG tt tk tv vs σ D (Pv D (i + 1)))) (hd : ∀ D H2, H D = none → Pv D (n - lo).toNat H2 → Q (.ref D) H2) : kDcR2 g tt tk tv vs σ Q [.int lo, .int n] H :=
  ⟨lo, n, rfl, hn, fun D hD => dc_gen (n - lo).toNat (Pv D) (h0 D hD) (fun i H _ _ => ⟨fun h => h, fun h => by subst h; exact Nat.le_refl _⟩) (fun i H x H' hi p y => by
    obtain ⟨rfl, rfl⟩ := y
    exact hs D i _ hD (by omega) p) (fun H2 p => hd D H2 hD p)⟩
/-- over the pairs of a locked dict -/
def kDcI (g : TG) (tt : TT) (tk tv : TE) (vs : List Nat) (σ : L2.St) (Q : VK) : VK := fun x H1 => tDc (iItems fun _ H R => R x H) g tt tk tv vs σ H1 Q
theorem g_dcI {td : TE} {σ : L2.St} (q : td σ H (kDcI g tt tk tv vs σ Q)) : tDc (iItems td) g tt tk tv vs σ H Q := q
theorem g_kDcI {σ : L2.St} {d : Addr} {o : Obj} {kvs : List (Key × V)} (h : H d = some (.frz o (.dK kvs))) (Pv : Addr → Nat → Hp → Prop) (h0 : ∀ D, H D = none → Pv D 0 (upd H D (.dK []))) (hf : ∀ D i H2, H D = none → Pv D i H2 → H2 d = some (.frz o (.dK kvs)))
    (hs : ∀ D (i : Nat) k v T H2, H D = none → kvs[i]? = some (k, v) → H2 T = none → Pv D i H2 → g (.ref T) (wipe σ vs) (upd H2 T (.tup [kV k, v])) (kDcG tt tk tv vs σ D (Pv D (i + 1)))) (hd : ∀ D H2, H D = none → Pv D kvs.length H2 → Q (.ref D) H2) : kDcI g tt tk tv vs σ Q (.ref d) H :=
  ⟨d, o, kvs, rfl, h, fun D hD => dc_gen kvs.length (Pv D) (h0 D hD) (fun i H2 _ p => ⟨fun hi => ⟨hf D i H2 hD p, hi⟩, fun hi => ⟨hf D i H2 hD p, by omega⟩⟩) (fun i H2 x H' hi p y => by
    obtain ⟨T, k, v, e, rfl, hT, rfl⟩ := y
    exact hs D i k v T _ hD e hT p) (fun H2 p => hd D H2 hD p)⟩
/-- for .. in d.items(), d locked -/
def kForI (g : TG) (tb : TS) (D : Ends) (σ : L2.St) : VK := fun x H1 => tFor (iItems fun _ H R => R x H) g tb D σ H1
theorem g_forI {td : TE} {σ : L2.St} {tb : TS} {D : Ends} (q : td σ H (kForI g tb D σ)) : tFor (iItems td) g tb D σ H := q
theorem g_kForI {σ : L2.St} {tb : TS} {D : Ends} {d : Addr} {o : Obj} {kvs : List (Key × V)} (h : H d = some (.frz o (.dK kvs))) (Pv : Nat → L2.St → Hp → Prop) (h0 : Pv 0 σ H) (hf : ∀ i σ H2, Pv i σ H2 → H2 d = some (.frz o (.dK kvs)))
    (hs : ∀ (i : Nat) k v T σ H2, kvs[i]? = some (k, v) → H2 T = none → Pv i σ H2 → g (.ref T) σ (upd H2 T (.tup [kV k, v])) fun σ2 H3 => tb { D with nx := Pv (i + 1), ct := Pv (i + 1), bk := D.nx } σ2 H3) (hd : ∀ σ H2, Pv kvs.length σ H2 → D.nx σ H2) : kForI g tb D σ (.ref d) H := by
  refine ⟨d, o, kvs, rfl, h, fun i m σ H => m = kvs.length - i ∧ i ≤ kvs.length ∧ Pv i σ H, ⟨kvs.length, by simp, Nat.zero_le _, h0⟩, ?_⟩
  rintro i m σ H ⟨rfl, hi, p⟩
  have f := hf i σ H p
  by_cases hlt : i < kvs.length
  · refine .inr ⟨⟨f, hlt⟩, Pv (i + 1), fun σ' H' p' => ⟨kvs.length - (i + 1), by omega, rfl, hlt, p'⟩, fun x H' y => ?_⟩
    obtain ⟨T, k, v, e, rfl, hT, rfl⟩ := y
    exact hs i k v T σ _ e hT p
  · have e : i = kvs.length := by omega
    subst e
    exact .inl ⟨⟨f, Nat.le_refl _⟩, hd σ H p⟩
/-- a set of ints over the values of a locked dict -/
def kScV (w : World) (D : Addr) (Nx : Hp → Prop) : VK := fun y H4 => ∃ (c : Int) (S : Int → Bool) (n : Nat), y = .int c ∧ H4 D = some (SetO w D S n) ∧ n + 1 < scanBound ∧ Nx (upd H4 D (SetO w D (fun j => S j || decide (j = c)) (if S c = true then n else n + 1)))
def kScT (w : World) (te : TE) (σ2 : L2.St) (D : Addr) (Nx : Hp → Prop) : Bool → Hp → Prop := fun b H3 => if b = true then te σ2 H3 (kScV w D Nx) else Nx H3
def kScG (w : World) (tt : TT) (te : TE) (vs : List Nat) (σ : L2.St) (D : Addr) (Nx : Hp → Prop) : L2.St → Hp → Prop := fun σ2 H2 => wipe σ2 vs = wipe σ vs ∧ tt σ2 H2 (kScT w te σ2 D Nx)
variable {w : World}
theorem g_kScG {σ σ2 : L2.St} {D : Addr} {Nx : Hp → Prop} (e : wipe σ2 vs = wipe σ vs) (q : tt σ2 H (kScT w te σ2 D Nx)) : kScG w tt te vs σ D Nx σ2 H := ⟨e, q⟩
theorem g_kScTt {σ2 : L2.St} {D : Addr} {Nx : Hp → Prop} (q : te σ2 H (kScV w D Nx)) : kScT w te σ2 D Nx true H := q
theorem g_kScV {D : Addr} {Nx : Hp → Prop} {c : Int} {S : Int → Bool} {n : Nat} (h : H D = some (SetO w D S n)) (hl : n ≤ 100) (q : Nx (upd H D (SetO w D (fun j => S j || decide (j = c)) (if S c = true then n else n + 1)))) : kScV w D Nx (.int c) H := ⟨c, S, n, rfl, h, by unfold scanBound; omega, q⟩
def kScD (w : World) (g : TG) (tt : TT) (te : TE) (vs : List Nat) (σ : L2.St) (Q : VK) : VK := fun x H1 => tScI w (iVals fun _ H R => R x H) g tt te vs σ H1 Q
theorem g_scD {td : TE} {σ : L2.St} (q : td σ H (kScD w g tt te vs σ Q)) : tScI w (iVals td) g tt te vs σ H Q := q
theorem g_kScD {σ : L2.St} {d : Addr} {o : Obj} {kvs : List (Key × V)} (h : H d = some (.frz o (.dK kvs))) (Pv : Addr → Nat → Hp → Prop) (h0 : ∀ D, H D = none → Pv D 0 (upd H D (SetO w D (fun _ => false) 0))) (hf : ∀ D i H2, H D = none → Pv D i H2 → H2 d = some (.frz o (.dK kvs)))
    (hs : ∀ D (i : Nat) k v H2, H D = none → kvs[i]? = some (k, v) → Pv D i H2 → g v (wipe σ vs) H2 (kScG w tt te vs σ D (Pv D (i + 1)))) (hd : ∀ D H2, H D = none → Pv D kvs.length H2 → Q (.ref D) H2) : kScD w g tt te vs σ Q (.ref d) H := by
  refine ⟨d, o, kvs, rfl, h, fun D hD => ⟨fun i m H => m = kvs.length - i ∧ i ≤ kvs.length ∧ Pv D i H, ⟨kvs.length, by simp, Nat.zero_le _, h0 D hD⟩, ?_⟩⟩
  rintro i m H ⟨rfl, hi, p⟩
  have f := hf D i H hD p
  by_cases hlt : i < kvs.length
  · refine .inr ⟨⟨f, hlt⟩, Pv D (i + 1), fun H' p' => ⟨kvs.length - (i + 1), by omega, rfl, hlt, p'⟩, fun x H' y => ?_⟩
    obtain ⟨rfl, k, e⟩ := y
    exact hs D i k x _ hD e p
  · have e : i = kvs.length := by omega
    subst e
    exact .inl ⟨⟨f, Nat.le_refl _⟩, hd D H hD p⟩
/-- the lock -/
theorem g_lockE {t : TE} {σ : L2.St} {d : Addr} {u : HO} (h : H d = some u) (m : Mut (some u)) (q : ∀ od, t σ (upd H d (.frz od u)) fun v H' => H' d = some (.frz od u) ∧ Q v (upd H' d u)) : tLockE t σ H Q := ⟨d, u, h, m, q⟩
theorem g_lock {t : TS} {σ : L2.St} {D : Ends} {d : Addr} {u : HO} (h : H d = some u) (m : Mut (some u)) (q : ∀ od, t ⟨fun σ' H' => H' d = some (.frz od u) ∧ D.nx σ' (upd H' d u), fun v H' => H' d = some (.frz od u) ∧ D.rt v (upd H' d u), fun σ' H' => H' d = some (.frz od u) ∧ D.bk σ' (upd H' d u), fun σ' H' => H' d = some (.frz od u) ∧ D.ct σ' (upd H' d u)⟩ σ (upd H d (.frz od u))) : tLock t D σ H := ⟨d, u, h, m, q⟩
end
/-! ### len(d), list(d), new dicts, star displays -/
def rLenD : List V → Hp → VK → Prop := fun xs H Q => ∃ a kvs, xs = [V.ref a] ∧ H a = some (.dK kvs) ∧ Q (.int kvs.length) H
theorem c_lenD {X : Cx} : CallR X (.builtin "len") rLenD := call_lenD
section
variable {K : PySem.W.Frag} {H : Hp} {Q : VK} {a : Addr} {kvs : List (Key × V)}
theorem g_lenD (h : H a = some (.dK kvs)) (q : Q (.int kvs.length) H) : rLenD [.ref a] H Q := ⟨a, kvs, rfl, h, q⟩
theorem g_listD (h : H a = some (.dK kvs)) (q : ∀ p H2, H p = none → Ex H H2 → H2 p = some (.lst (kvs.map fun kv => kV kv.1)) → Q (.ref p) H2) : rListD [.ref a] H Q := ⟨a, kvs, rfl, h, fun p hp => q p _ hp (Ex.new hp) upd_same⟩
theorem g_dnew {σ : L2.St} (q : ∀ p H2, H p = none → Ex H H2 → H2 p = some (.dK []) → Q (.ref p) H2) : tDNewK σ H Q := fun p hp => q p _ hp (Ex.new hp) upd_same
theorem g_eqD0 {b : Addr} (h1 : H a = some (.dK kvs)) (h2 : H b = some (.dK [])) (q : Q (.bl kvs.isEmpty) H) : rEqD0 (.ref a) (.ref b) H Q := ⟨a, b, kvs, rfl, rfl, h1, h2, q⟩
end
/-! ### an error without fields, told by `_law_raised` -/
def erNames : List Str := ["BeingRead", "InvalidNumber", "UnknownBook", "Contradiction", "InvalidOperation", "DiaryError"]
def erNm (j : Nat) : Str := erNames.getD j "other"
def erWord (j : Nat) : Str := (["read", "number", "book", "contradiction"] : List Str).getD j "other"
structure ExcR (K : PySem.W.Frag) (D : Addr) (j : Nat) : Prop where
  ex : PySem.W.excIn K D He.veBase "ValueError.__new__" = true
  kp : PySem.W.keepIn K (.ref D) = true
  sb : PySem.W.subIn K (.ref D) (.type "BaseException") = some true
  ty : PySem.W.typeIn K (.ref D) = some (.type "type")
  c : ExcC K D
  is_ : ∀ i, i < 6 → PySem.W.kitOne K (.ref D) (.ref (He.ga K (erNm i))) = some (decide (i = j))
  ve : PySem.W.kitOne K (.ref D) (.type "ValueError") = some true
  re : PySem.W.exmOne K (.ref D) (.ref (He.ga K "ReadingError")) = some true
def excRB (K : PySem.W.Frag) (D : Addr) (j : Nat) : Bool := PySem.W.excIn K D He.veBase "ValueError.__new__" && (PySem.W.keepIn K (.ref D) && (decide (PySem.W.subIn K (.ref D) (.type "BaseException") = some true) && (decide (PySem.W.typeIn K (.ref D) = some (.type "type")) && (excCB K D &&
  ((List.range 6).all (fun i => decide (PySem.W.kitOne K (.ref D) (.ref (He.ga K (erNm i))) = some (decide (i = j)))) && (decide (PySem.W.kitOne K (.ref D) (.type "ValueError") = some true) && decide (PySem.W.exmOne K (.ref D) (.ref (He.ga K "ReadingError")) = some true)))))))
theorem excR_ok {K : PySem.W.Frag} {D : Addr} {j : Nat} (h : excRB K D j = true) : ExcR K D j := by
  obtain ⟨h1, h⟩ := He.ba h
  obtain ⟨h2, h⟩ := He.ba h
  obtain ⟨h3, h⟩ := He.ba h
  obtain ⟨h4, h⟩ := He.ba h
  obtain ⟨h5, h⟩ := He.ba h
  obtain ⟨h6, h⟩ := He.ba h
  obtain ⟨h7, h8⟩ := He.ba h
  exact ⟨h1, h2, of_decide_eq_true h3, of_decide_eq_true h4, excC_ok h5, fun i hi => of_decide_eq_true (List.all_eq_true.mp h6 i (List.mem_range.mpr hi)), of_decide_eq_true h7, of_decide_eq_true h8⟩
/-! ### y = {k: v for ..} -/
theorem ps_setDc {X : Cx} {i : Nat} {y : Str} {py : Pos} {kx vx tg iter : Expr} {ifs : List Expr} {scope : Scope} {own : List (Str × Nat)} {pos spos : Pos} {wi : TI} {g : TG} {tt : TT} {tk tv : TE} (hc : X.calm = true) (hN : X.N.Nodup) (hy : X.N[i]? = some y) (hyl : X.env.scope.names.lookup y = some .local)
    (hsw : swapsWith (.DictComp kx vx [⟨tg, iter, ifs, 0⟩] scope pos) (some (.Name y py)) spos.line X.env = pure true) (hi : PI X tg iter wi) (ok : BlkOk X.N X.env.scope scope own)
    (hg : ∀ (s : Shared) (H : Hp) (C : Addr) (cl : List (Str × Addr)) (fp : List Addr), PG (X.blk s H scope (compEnvC scope cl C X.env) fp) tg g) (ht : ∀ (s : Shared) (H : Hp) (C : Addr) (cl : List (Str × Addr)) (fp : List Addr), PTs (X.blk s H scope (compEnvC scope cl C X.env) fp) ifs tt)
    (hk : ∀ (s : Shared) (H : Hp) (C : Addr) (cl : List (Str × Addr)) (fp : List Addr), PE (X.blk s H scope (compEnvC scope cl C X.env) fp) kx tk)
    (he : ∀ (s : Shared) (H : Hp) (C : Addr) (cl : List (Str × Addr)) (fp : List Addr), PE (X.blk s H scope (compEnvC scope cl C X.env) fp) vx tv) (hs : ∀ x, foldedSetIterable iter X.env x = pure x := by intro _; rfl) :
    PS X (.Assign [.Name y py] (.DictComp kx vx [⟨tg, iter, ifs, 0⟩] scope pos) spos) (tAsg (tDc wi g tt tk tv (own.map (·.2))) (gName i)) := by
  refine ⟨fun pins s σ H D I h => ?_⟩
  rw [exec_Assign_Name_used _ _ _ _ hsw]
  refine wpAny_bind (wpAny_standAt (wpAny_bind ?_))
  show wpAny _ X.A (do let _ ← comprehension (.DictComp kx vx [⟨tg, iter, ifs, 0⟩] scope pos) scope X.env (firstIterPos [⟨tg, iter, ifs, 0⟩] pos) newDict false (eval iter X.env) (some (assign (.Name y py) X.env))) _ _ s
  have h : tDc wi g tt tk tv (own.map (·.2)) σ H (fun x H1 => gName i x σ H1 D.nx) := h
  refine wpAny_bind (thn (dc_core (Qf := fun _ s' => SP X pins D .next s') hc hN I hi ok hg ht hk he hs h fun L C s' m H' I' q hn f => ?_) fun _ s' hq => wpAny_pure (wpAny_pure hq))
  show wpAny _ _ (assign (.Name y py) X.env (.ref L)) _ _ _
  refine wpAny_assign_Name (store_ok2 (v := V.ref L) I' hN hy (.inl hyl) rfl (fun s2 I2 ⟨a, sb, ha⟩ => ?_) (.inr hyl))
  obtain ⟨f0, f1, f2, f3, f4, f5⟩ := f
  have haC : C ≠ a := by
    rcases ha with z | z
    · rw [z]; exact f1
    · exact fun e => f4 y a z e.symm
  refine ⟨m, hn.sameBut sb haC, fun h3 sb3 => ?_⟩
  exact ⟨_, H', I2.turned (t' := s2.toks) (fun b o hb e => (sb3.2 b hb).trans e) f0 f1 f3 f4 f5, q⟩
theorem sw_trueD {kx vx : Expr} {gs : List Comprehension} {scope : Scope} {pos py : Pos} {y : Str} {l : Nat} {env : Env} (hk : env.scope.kind = .function) (hy : env.scope.names.lookup y = some .local) (hl : (py.line == pos.line) = true)
    (ha : (scope.names.any fun (n, k) => n == y && (k == .local || k == .cell)) = false) : swapsWith (.DictComp kx vx gs scope pos) (some (.Name y py)) l env = pure true := by
  have ky : env.kindOf y = some .local := hy
  have hb : env.blockKind = .function := by unfold Env.blockKind; rw [hk]; rfl
  unfold swapsWith
  simp only [hb, ky, ha, Expr.pos, hl]
  rfl
/-! ### if a if c else b: as a test -/
def tIfT (tc ta tb : TT) : TT := fun σ H Q => tc σ H fun c H1 => if c = true then ta σ H1 Q else tb σ H1 Q
def kIfT (ta tb : TT) (σ : L2.St) (Q : Bool → Hp → Prop) : Bool → Hp → Prop := fun c H1 => if c = true then ta σ H1 Q else tb σ H1 Q
theorem pt_ifExp {X : Cx} {a b c : Expr} {tc ta tb : TT} {pos : Pos} (hc : PT X c tc) (ha : PT X a ta) (hb : PT X b tb) : PT X (.IfExp c a b pos) (tIfT tc ta tb) := by
  refine ⟨fun pins s σ H Q I h => ?_⟩
  show wpAny (model X.prog X.w) X.A (isTrue c X.env (eval c X.env) >>= fun d => if d = true then isTrue a X.env (eval a X.env) else isTrue b X.env (eval b X.env)) (TP X pins σ Q) X.xe s
  refine wpAny_bind (thn (hc.run pins s σ H _ I h) fun d s1 ⟨H1, I1, q1⟩ => ?_)
  cases d with
  | true => exact ha.run pins s1 σ H1 Q I1 q1
  | false => exact hb.run pins s1 σ H1 Q I1 q1
theorem g_ifT {tc ta tb : TT} {σ : L2.St} {H : Hp} {Q : Bool → Hp → Prop} (q : tc σ H (kIfT ta tb σ Q)) : tIfT tc ta tb σ H Q := q
theorem g_kIfTt {ta tb : TT} {σ : L2.St} {H : Hp} {Q : Bool → Hp → Prop} (q : ta σ H Q) : kIfT ta tb σ Q true H := q
theorem g_kIfTf {ta tb : TT} {σ : L2.St} {H : Hp} {Q : Bool → Hp → Prop} (q : tb σ H Q) : kIfT ta tb σ Q false H := q
theorem cr_setLw {X : Cx} (K : PySem.W.Frag) (w : World) (hc : X.calm = true) (h : X.K = K := by rfl) (h2 : X.w = w := by rfl) : CallR X (.type "set") (rSetL K w) := by subst h; subst h2; exact cr_setL hc
theorem c_lenSw {X : Cx} (w : World) (h2 : X.w = w := by rfl) : CallR X (.builtin "len") (rLenS w) := by subst h2; exact c_lenS
end G48
/-! zip of two (lists, tuples in any mix) and of three tuples -/
namespace G48
open PySem PySem.Spec PyProof.Rows L2 Evl
def SqB (K : PySem.W.Frag) (b : Bool) (H : Hp) (a : Addr) (xs : List V) : Prop := if b = true then SqT K H a xs else SqL K H a xs
def IterB (b : Bool) (h : Heap) (it a : Addr) (i : Nat) : Prop := if b = true then h.IsTupleIter it a i else h.IsListIter it a i
def IsB (b : Bool) (h : Heap) (a : Addr) (items : Array Value) : Prop := if b = true then h.IsTuple a items else h.IsList a items
theorem IterB.obj {b : Bool} {h : Heap} {it a : Addr} {i : Nat} (z : IterB b h it a i) : ∃ o, h.get? it = some o ∧ ∀ v, o.data ≠ .cell v := by
  cases b with
  | true => obtain ⟨o, e, _, d⟩ := z; exact ⟨o, e, fun v q => by rw [d] at q; cases q⟩
  | false => obtain ⟨o, e, _, d⟩ := z; exact ⟨o, e, fun v q => by rw [d] at q; cases q⟩
theorem IterB.at {b : Bool} {h h' : Heap} {it a : Addr} {i : Nat} (z : IterB b h it a i) (k : ∀ o, h.get? it = some o → h'.get? it = some o) : IterB b h' it a i := by
  cases b with
  | true => exact Heap.IsTupleIter.at (show h.IsTupleIter it a i from z) k
  | false => exact Heap.IsListIter.at (show h.IsListIter it a i from z) k
theorem drawsB {prog : Program} {w : World} {A : Around} (hh : A.handled = none) (b : Bool) (it l : Addr) (hne : l ≠ it) (items : Array Value) :
    Draws prog w A it [it, l] items.size (fun i v => items[i]? = some v) (fun i h => IterB b h it l i ∧ IsB b h l items) := by
  cases b with
  | true => exact Draws.tuple hh it l hne items
  | false => exact Draws.list hh it l hne items
theorem invB {X : Cx} {pins : List (Addr × Obj)} {σ : L2.St} {H : Hp} {s : Shared} {b : Bool} {a : Addr} {xs : List V} (I : Inv X pins σ H s) (h : SqB X.K b H a xs) : ∃ its : List Value, Vals xs its ∧ IsB b s.heap a its.toArray ∧ a < s.heap.objs.size := by
  cases b with
  | true =>
    obtain ⟨its, rv, p, _⟩ := I.tuple (show SqT X.K H a xs from h)
    have p : s.heap.IsTuple a its.toArray := p
    obtain ⟨o, ho, _⟩ := id p
    exact ⟨its, rv, p, Heap.lt_size ho⟩
  | false =>
    obtain ⟨its, rv, p, _⟩ := I.list (show SqL X.K H a xs from h)
    exact ⟨its, rv, p.isList, p.lt⟩
theorem invB_inj {X : Cx} {pins : List (Addr × Obj)} {σ : L2.St} {H : Hp} {s : Shared} {b : Bool} {a : Addr} {xs ys : List V} (I : Inv X pins σ H s) (h : SqB X.K b H a xs) (h' : SqB X.K b H a ys) : xs = ys := by
  cases b with
  | true => exact I.tuple_inj (show SqT X.K H a xs from h) h'
  | false => exact I.list_inj (show SqL X.K H a xs from h) h'
theorem beginsB (b : Bool) (a : Addr) (items : Array Value) : ∃ o, Begins (.ref a) o (fun h => IsB b h a items) ∧ ∀ (h : Heap) (it : Addr), h.get? it = some o → IterB b h it a 0 := by
  cases b with
  | true => exact ⟨_, begins_tuple a items, fun h it e => ⟨_, e, rfl, rfl⟩⟩
  | false => exact ⟨_, begins_list a items, fun h it e => ⟨_, e, rfl, rfl⟩⟩
/-! ### two -/
def Itz2 (K : PySem.W.Frag) (b1 b2 : Bool) (a b : Addr) : It :=
  ⟨fun i H => ∃ (xs ys : List V) (x y : V), SqB K b1 H a xs ∧ SqB K b2 H b ys ∧ xs[i]? = some x ∧ ys[i]? = some y,
    fun i H v H' => ∃ T x y, v = .ref T ∧ H T = none ∧ H' = upd H T (.tup [x, y]) ∧ (∀ xs, SqB K b1 H a xs → xs[i]? = some x) ∧ ∀ ys, SqB K b2 H b ys → ys[i]? = some y,
    fun i H => ∃ xs ys : List V, SqB K b1 H a xs ∧ SqB K b2 H b ys ∧ xs.length = i ∧ ys.length = i⟩
theorem turn_z2 {P : Program} {w : World} {K : PySem.W.Frag} {elts : List Expr} {kk : Nat} {tpos : Pos} {b1 b2 : Bool} {a b z TI TO i1 i2 : Addr} (D : ZipSep2 z TI TO i1 i2 [i1, a] [i2, b]) (na : a ≠ i1) (nb : b ≠ i2) :
    Turn P w K (.Tuple elts kk tpos) (Itz2 K b1 b2 a b) [z, TI, TO, i1, i2] z (fun i h => IsZip h z TI TO .none ∧ IsTupOf2 h TI (.ref i1) (.ref i2) ∧ (∃ x y, IsTupOf2 h TO x y) ∧ IterB b1 h i1 a i ∧ IterB b2 h i2 b i) where
  mem := by simp
  obj := fun i h st c hc => by
    obtain ⟨hz, hTI, ⟨x, y, hTO⟩, h1, h2⟩ := st
    have e' : c = z ∨ c = TI ∨ c = TO ∨ c = i1 ∨ c = i2 := by simpa using hc
    rcases e' with q | q | q | q | q
    · rw [q]; exact ⟨_, hz, fun v q => nomatch q⟩
    · rw [q]; exact ⟨_, hTI, fun v q => nomatch q⟩
    · rw [q]; exact ⟨_, hTO, fun v q => nomatch q⟩
    · rw [q]; exact h1.obj
    · rw [q]; exact h2.obj
  keep := fun i h h' st k => by
    obtain ⟨hz, hTI, ⟨x, y, hTO⟩, h1, h2⟩ := st
    exact ⟨k z (by simp) _ hz, k TI (by simp) _ hTI, ⟨x, y, k TO (by simp) _ hTO⟩, h1.at fun o q => k i1 (by simp) o q, h2.at fun o q => k i2 (by simp) o q⟩
  item := by
    intro X hP hw hK hc i pins s σ H E I hf st hg
    subst hP hw hK
    obtain ⟨hz, hTI, ⟨x0, y0, hTO⟩, h1, h2⟩ := st
    obtain ⟨xs, ys, x, y, hqx, hqy, hx, hy⟩ := hg
    obtain ⟨its, rv, p, _⟩ := invB I hqx
    obtain ⟨its2, rv2, p2, _⟩ := invB I hqy
    obtain ⟨u, hu, ru⟩ := rv.get hx
    obtain ⟨u2, hu2, ru2⟩ := rv2.get hy
    have hh : X.A.in1.handled = none := I.ok.hd hc
    have hzl : z < s.heap.objs.size := Heap.lt_size hz
    have l1 := (List.getElem?_eq_some_iff.mp hu).1
    have l2 := (List.getElem?_eq_some_iff.mp hu2).1
    have W := GoesN.zip2 (prog := X.prog) (w := X.w) (A := X.A) (elts := elts) (x1 := kk) (pos := tpos) D (drawsB hh b1 i1 a na its.toArray) (drawsB hh b2 i2 b nb its2.toArray)
    refine W.goes i s _ E (by simp; omega) ⟨hz, hTI, ⟨x0, y0, hTO⟩, ⟨h1, p⟩, ⟨h2, p2⟩⟩ fun v h' tk hY hst hk htk => ?_
    obtain ⟨T, v1, v2, rfl, hT0, hv1, hv2, hT⟩ := hY
    obtain ⟨z', TI', TO', ⟨h1', _⟩, ⟨h2', _⟩⟩ := hst
    have e1 : v1 = u := by
      have q1 : its.toArray[i]? = some v1 := hv1
      have q2 : its.toArray[i]? = some u := by simpa using hu
      rw [q1] at q2; exact Option.some.inj q2
    have e2 : v2 = u2 := by
      have q1 : its2.toArray[i]? = some v2 := hv2
      have q2 : its2.toArray[i]? = some u2 := by simpa using hu2
      rw [q1] at q2; exact Option.some.inj q2
    subst e1 e2
    have new : ObjOk X.prog X.w (upd H T (.tup [x, y])) h' T (.tup [x, y]) :=
      ⟨by show 2 ≤ sizeLine; decide, [v1, v2], .cons ru (.cons ru2 .nil), hT⟩
    have I1 : Inv X pins σ (upd H T (.tup [x, y])) { s with heap := h', toks := tk } :=
      I.turnedNew (t' := tk) (ch := [z, TI, TO, i1, i2]) (fun c o hb q => hk c o (fun q' => hb (by
        rcases List.mem_cons.mp q' with q' | q'
        · simp [q']
        · rcases List.mem_cons.mp q' with q' | q'
          · simp [q']
          · rcases List.mem_cons.mp q' with q' | q'
            · simp [q']
            · simp [List.mem_singleton.mp q'])) q) hf hT0 new
    refine ⟨.ref T, _, I1, rfl, ⟨_, x, y, rfl, I.hok.fresh hT0, rfl, fun l hl => by rw [invB_inj I hl hqx]; exact hx, fun l hl => by rw [invB_inj I hl hqy]; exact hy⟩, ⟨z', TI', TO', h1', h2'⟩, fun c hcm => ?_⟩
    have hlt : c < s.heap.objs.size := by
      have e' : c = z ∨ c = TI ∨ c = TO ∨ c = i1 ∨ c = i2 := by simpa using hcm
      rcases e' with q | q | q | q | q
      · rw [q]; exact hzl
      · rw [q]; exact Heap.lt_size hTI
      · rw [q]; exact Heap.lt_size hTO
      · rw [q]; obtain ⟨_, e1, _⟩ := h1.obj; exact Heap.lt_size e1
      · rw [q]; obtain ⟨_, e2, _⟩ := h2.obj; exact Heap.lt_size e2
    rw [upd_ne (Nat.ne_of_lt (Nat.lt_of_lt_of_le hlt hT0))]
    exact (hf c hcm).1
  done := by
    intro X hP hw hK hc i pins s σ H E I hf st hg
    subst hP hw hK
    obtain ⟨hz, hTI, ⟨x0, y0, hTO⟩, h1, h2⟩ := st
    obtain ⟨xs, ys, hqx, hqy, l1, l2⟩ := hg
    obtain ⟨its, rv, p, _⟩ := invB I hqx
    obtain ⟨its2, rv2, p2, _⟩ := invB I hqy
    have hh : X.A.in1.handled = none := I.ok.hd hc
    have k1 := rv.length
    have k2 := rv2.length
    have W := GoesN.zip2 (prog := X.prog) (w := X.w) (A := X.A) (elts := elts) (x1 := kk) (pos := tpos) D (drawsB hh b1 i1 a na its.toArray) (drawsB hh b2 i2 b nb its2.toArray)
    have e : min its.toArray.size its2.toArray.size = i := by simp; omega
    rw [e] at W
    refine W.stops s _ E ⟨hz, hTI, ⟨x0, y0, hTO⟩, ⟨h1, p⟩, ⟨h2, p2⟩⟩ fun h' tk hk htk => ?_
    exact I.turnedL (t' := tk) (ch := [z, TI, TO, i1, i2]) (fun c o hb q => hk c o (fun q' => hb (by
        rcases List.mem_cons.mp q' with q' | q'
        · simp [q']
        · rcases List.mem_cons.mp q' with q' | q'
          · simp [q']
          · rcases List.mem_cons.mp q' with q' | q'
            · simp [q']
            · simp [List.mem_singleton.mp q'])) q) hf
  self := fun A i s Q E st h => wpAny_pyIter_zip st.1 h
def iZip2 (K : PySem.W.Frag) (b1 b2 : Bool) (ta : TA) : TI := fun σ H R => ta σ H fun vs H1 => ∃ a b xs ys, vs = [.ref a, .ref b] ∧ SqB K b1 H1 a xs ∧ SqB K b2 H1 b ys ∧ R (Itz2 K b1 b2 a b) H1
theorem pi_zip2 (b1 b2 : Bool) {X : Cx} {e e2 : Expr} {ta : TA} {p pos tpos : Pos} {elts : List Expr} {kk : Nat} (hg : Gl X "zip") (hm : X.mg "zip" = none) (ha : PA X [e, e2] ta)
    (hs : starEach [e, e2] X.env = (false, eval e X.env) :: starEach [e2] X.env := by rfl) (hpl : (backTo pos (starEach [e2] X.env)).any (·.1) = false := by rfl) :
    PI X (.Tuple elts kk tpos) (.Call (.Name "zip" p) [e, e2] [] pos) (iZip2 X.K b1 b2 ta) := by
  refine ⟨fun pins s σ H R I h => ?_⟩
  refine Call_ (ld_blt I hg hm PyProof.Rows.boot_zip (PyProof.Rows.callWith_type1 (thn (ha.run pos pins s σ H _ I h) fun us s1 ⟨vs, H1, I1, r1, q1⟩ => ?_) hs hpl))
  obtain ⟨a, b, xs, ys, ex, hqx, hqy, q⟩ := q1
  subst ex
  cases r1 with
  | cons r rr =>
    cases rr with
    | cons r' rr =>
      cases rr
      cases r
      cases r'
      obtain ⟨its, rv, p1, la⟩ := invB I1 hqx
      obtain ⟨its2, rv2, p2, lb⟩ := invB I1 hqy
      obtain ⟨o1, B1, t1⟩ := beginsB b1 a its.toArray
      obtain ⟨o2, B2, t2⟩ := beginsB b2 b its2.toArray
      refine zip_begins2 B1 B2 p1 p2 fun h' hz hTI hTO g1 g2 hsz hk => wpAny_pyIter_zip hz ?_
      have I2 : Inv X pins σ H1 { s1 with heap := h' } := I1.kept (t' := s1.toks) hk
      refine ⟨s1.heap.objs.size + 4, [s1.heap.objs.size + 4, s1.heap.objs.size + 2, s1.heap.objs.size + 3, s1.heap.objs.size, s1.heap.objs.size + 1], _, _, H1, rfl, I2,
        turn_z2 (zip_sep2 (N := s1.heap.objs.size) (fp1 := [a]) (fp2 := [b]) (fun c hc => by rw [List.mem_singleton.mp hc]; exact la) (fun c hc => by rw [List.mem_singleton.mp hc]; exact lb)) (Nat.ne_of_lt la) (Nat.ne_of_lt (Nat.lt_succ_of_lt lb)), ⟨hz, hTI, ⟨_, _, hTO⟩, t1 _ _ g1, t2 _ _ g2⟩, fun c hcm => ?_, q⟩
      have e' : c = s1.heap.objs.size + 4 ∨ c = s1.heap.objs.size + 2 ∨ c = s1.heap.objs.size + 3 ∨ c = s1.heap.objs.size ∨ c = s1.heap.objs.size + 1 := by simpa using hcm
      have hle : s1.heap.objs.size ≤ c := by rcases e' with z | z | z | z | z <;> rw [z] <;> first | exact Nat.le_add_right _ _ | exact Nat.le_refl _
      exact I1.fpOk hle (I1.hok.fresh hle)
theorem walk_z2 {K : PySem.W.Frag} {b1 b2 : Bool} {a b : Addr} {xs ys : List V} {n : Nat} (h1 : xs.length = n) (h2 : ys.length = n) : Walk (Itz2 K b1 b2 a b) n (fun H => SqB K b1 H a xs ∧ SqB K b2 H b ys) (YPair (fun i => xs[i]?) (fun i => ys[i]?)) := by
  refine ⟨fun i _ hi q => ?_, fun _ q => ⟨xs, ys, q.1, q.2, h1, h2⟩, fun i H v H' _ q y => ?_⟩
  · exact ⟨xs, ys, xs[i], ys[i], q.1, q.2, by simp [h1, hi], by simp [h2, hi]⟩
  · obtain ⟨T, x, z, h1, h2, h3, h4, h5⟩ := y
    exact ⟨T, x, z, h1, h2, h3, h4 xs q.1, h5 ys q.2⟩
/-! ### three tuples -/
def Itz3 (K : PySem.W.Frag) (a b c : Addr) : It :=
  ⟨fun i H => ∃ (xs ys us : List V) (x y u : V), SqT K H a xs ∧ SqT K H b ys ∧ SqT K H c us ∧ xs[i]? = some x ∧ ys[i]? = some y ∧ us[i]? = some u,
    fun i H v H' => ∃ T x y u, v = .ref T ∧ H T = none ∧ H' = upd H T (.tup [x, y, u]) ∧ (∀ xs, SqT K H a xs → xs[i]? = some x) ∧ (∀ ys, SqT K H b ys → ys[i]? = some y) ∧ ∀ us, SqT K H c us → us[i]? = some u,
    fun i H => ∃ xs ys us : List V, SqT K H a xs ∧ SqT K H b ys ∧ SqT K H c us ∧ xs.length = i ∧ ys.length = i ∧ us.length = i⟩
theorem turn_z3 {P : Program} {w : World} {K : PySem.W.Frag} {elts : List Expr} {kk : Nat} {tpos : Pos} {a b c z TI TO i1 i2 i3 : Addr} (D : ZipSep3 z TI TO i1 i2 i3 [i1, a] [i2, b] [i3, c]) (na : a ≠ i1) (nb : b ≠ i2) (nc : c ≠ i3) :
    Turn P w K (.Tuple elts kk tpos) (Itz3 K a b c) [z, TI, TO, i1, i2, i3] z (fun i h => IsZip h z TI TO .none ∧ IsTupOf3 h TI (.ref i1) (.ref i2) (.ref i3) ∧ (∃ x y u, IsTupOf3 h TO x y u) ∧ h.IsTupleIter i1 a i ∧ h.IsTupleIter i2 b i ∧ h.IsTupleIter i3 c i) where
  mem := by simp
  obj := fun i h st x hc => by
    obtain ⟨hz, hTI, ⟨_, _, _, hTO⟩, ⟨o1, e1, _, d1⟩, ⟨o2, e2, _, d2⟩, ⟨o3, e3, _, d3⟩⟩ := st
    have e' : x = z ∨ x = TI ∨ x = TO ∨ x = i1 ∨ x = i2 ∨ x = i3 := by simpa using hc
    rcases e' with q | q | q | q | q | q
    · rw [q]; exact ⟨_, hz, fun v q => nomatch q⟩
    · rw [q]; exact ⟨_, hTI, fun v q => nomatch q⟩
    · rw [q]; exact ⟨_, hTO, fun v q => nomatch q⟩
    · rw [q]; exact ⟨o1, e1, fun v q => by rw [d1] at q; cases q⟩
    · rw [q]; exact ⟨o2, e2, fun v q => by rw [d2] at q; cases q⟩
    · rw [q]; exact ⟨o3, e3, fun v q => by rw [d3] at q; cases q⟩
  keep := fun i h h' st k => by
    obtain ⟨hz, hTI, ⟨x, y, u, hTO⟩, h1, h2, h3⟩ := st
    exact ⟨k z (by simp) _ hz, k TI (by simp) _ hTI, ⟨x, y, u, k TO (by simp) _ hTO⟩, h1.at fun o q => k i1 (by simp) o q, h2.at fun o q => k i2 (by simp) o q, h3.at fun o q => k i3 (by simp) o q⟩
  item := by
    intro X hP hw hK hc i pins s σ H E I hf st hg
    subst hP hw hK
    obtain ⟨hz, hTI, ⟨x0, y0, u0, hTO⟩, h1, h2, h3⟩ := st
    obtain ⟨xs, ys, us, x, y, u, hqx, hqy, hqu, hx, hy, hu⟩ := hg
    obtain ⟨its, rv, p, _⟩ := I.tuple hqx
    obtain ⟨its2, rv2, p2, _⟩ := I.tuple hqy
    obtain ⟨its3, rv3, p3, _⟩ := I.tuple hqu
    obtain ⟨r1, hr1, ru1⟩ := rv.get hx
    obtain ⟨r2, hr2, ru2⟩ := rv2.get hy
    obtain ⟨r3, hr3, ru3⟩ := rv3.get hu
    have hh : X.A.in1.handled = none := I.ok.hd hc
    have hzl : z < s.heap.objs.size := Heap.lt_size hz
    have l1 := (List.getElem?_eq_some_iff.mp hr1).1
    have l2 := (List.getElem?_eq_some_iff.mp hr2).1
    have l3 := (List.getElem?_eq_some_iff.mp hr3).1
    have W := GoesN.zip3 (prog := X.prog) (w := X.w) (A := X.A) (elts := elts) (x1 := kk) (pos := tpos) D (Draws.tuple hh i1 a na its.toArray) (Draws.tuple hh i2 b nb its2.toArray) (Draws.tuple hh i3 c nc its3.toArray)
    refine W.goes i s _ E (by simp; omega) ⟨hz, hTI, ⟨x0, y0, u0, hTO⟩, ⟨h1, p⟩, ⟨h2, p2⟩, ⟨h3, p3⟩⟩ fun v h' tk hY hst hk htk => ?_
    obtain ⟨T, v1, v2, v3, rfl, hT0, hv1, hv2, hv3, hT⟩ := hY
    obtain ⟨z', TI', TO', ⟨h1', _⟩, ⟨h2', _⟩, ⟨h3', _⟩⟩ := hst
    have e1 : v1 = r1 := by
      have q1 : its.toArray[i]? = some v1 := hv1
      have q2 : its.toArray[i]? = some r1 := by simpa using hr1
      rw [q1] at q2; exact Option.some.inj q2
    have e2 : v2 = r2 := by
      have q1 : its2.toArray[i]? = some v2 := hv2
      have q2 : its2.toArray[i]? = some r2 := by simpa using hr2
      rw [q1] at q2; exact Option.some.inj q2
    have e3 : v3 = r3 := by
      have q1 : its3.toArray[i]? = some v3 := hv3
      have q2 : its3.toArray[i]? = some r3 := by simpa using hr3
      rw [q1] at q2; exact Option.some.inj q2
    subst e1 e2 e3
    have mm : ∀ {q}, q ∈ [z, TO, i1, i2, i3] → q ∈ [z, TI, TO, i1, i2, i3] := fun {q} hq => by
      have : q = z ∨ q = TO ∨ q = i1 ∨ q = i2 ∨ q = i3 := by simpa using hq
      rcases this with e | e | e | e | e <;> simp [e]
    have new : ObjOk X.prog X.w (upd H T (.tup [x, y, u])) h' T (.tup [x, y, u]) :=
      ⟨by show 3 ≤ sizeLine; decide, [v1, v2, v3], .cons ru1 (.cons ru2 (.cons ru3 .nil)), hT⟩
    have I1 : Inv X pins σ (upd H T (.tup [x, y, u])) { s with heap := h', toks := tk } :=
      I.turnedNew (t' := tk) (ch := [z, TI, TO, i1, i2, i3]) (fun q o hb e => hk q o (fun q' => hb (mm q')) e) hf hT0 new
    refine ⟨.ref T, _, I1, rfl, ⟨_, x, y, u, rfl, I.hok.fresh hT0, rfl, fun l hl => by rw [I.tuple_inj hl hqx]; exact hx, fun l hl => by rw [I.tuple_inj hl hqy]; exact hy, fun l hl => by rw [I.tuple_inj hl hqu]; exact hu⟩, ⟨z', TI', TO', h1', h2', h3'⟩, fun q hcm => ?_⟩
    have hlt : q < s.heap.objs.size := by
      have e' : q = z ∨ q = TI ∨ q = TO ∨ q = i1 ∨ q = i2 ∨ q = i3 := by simpa using hcm
      rcases e' with q | q | q | q | q | q
      · rw [q]; exact hzl
      · rw [q]; exact Heap.lt_size hTI
      · rw [q]; exact Heap.lt_size hTO
      · rw [q]; obtain ⟨_, e1, _⟩ := h1; exact Heap.lt_size e1
      · rw [q]; obtain ⟨_, e2, _⟩ := h2; exact Heap.lt_size e2
      · rw [q]; obtain ⟨_, e3, _⟩ := h3; exact Heap.lt_size e3
    rw [upd_ne (Nat.ne_of_lt (Nat.lt_of_lt_of_le hlt hT0))]
    exact (hf q hcm).1
  done := by
    intro X hP hw hK hc i pins s σ H E I hf st hg
    subst hP hw hK
    obtain ⟨hz, hTI, ⟨x0, y0, u0, hTO⟩, h1, h2, h3⟩ := st
    obtain ⟨xs, ys, us, hqx, hqy, hqu, l1, l2, l3⟩ := hg
    obtain ⟨its, rv, p, _⟩ := I.tuple hqx
    obtain ⟨its2, rv2, p2, _⟩ := I.tuple hqy
    obtain ⟨its3, rv3, p3, _⟩ := I.tuple hqu
    have hh : X.A.in1.handled = none := I.ok.hd hc
    have k1 := rv.length
    have k2 := rv2.length
    have k3 := rv3.length
    have W := GoesN.zip3 (prog := X.prog) (w := X.w) (A := X.A) (elts := elts) (x1 := kk) (pos := tpos) D (Draws.tuple hh i1 a na its.toArray) (Draws.tuple hh i2 b nb its2.toArray) (Draws.tuple hh i3 c nc its3.toArray)
    have e : min (min its.toArray.size its2.toArray.size) its3.toArray.size = i := by simp; omega
    rw [e] at W
    have mm : ∀ {q}, q ∈ [z, TO, i1, i2, i3] → q ∈ [z, TI, TO, i1, i2, i3] := fun {q} hq => by
      have : q = z ∨ q = TO ∨ q = i1 ∨ q = i2 ∨ q = i3 := by simpa using hq
      rcases this with e | e | e | e | e <;> simp [e]
    refine W.stops s _ E ⟨hz, hTI, ⟨x0, y0, u0, hTO⟩, ⟨h1, p⟩, ⟨h2, p2⟩, ⟨h3, p3⟩⟩ fun h' tk hk htk => ?_
    exact I.turnedL (t' := tk) (ch := [z, TI, TO, i1, i2, i3]) (fun q o hb e => hk q o (fun q' => hb (mm q')) e) hf
  self := fun A i s Q E st h => wpAny_pyIter_zip st.1 h
def iZip3 (K : PySem.W.Frag) (ta : TA) : TI := fun σ H R => ta σ H fun vs H1 => ∃ a b c xs ys us, vs = [.ref a, .ref b, .ref c] ∧ SqT K H1 a xs ∧ SqT K H1 b ys ∧ SqT K H1 c us ∧ R (Itz3 K a b c) H1
theorem pi_zip3 {X : Cx} {e e2 e3 : Expr} {ta : TA} {p pos tpos : Pos} {elts : List Expr} {kk : Nat} (hg : Gl X "zip") (hm : X.mg "zip" = none) (ha : PA X [e, e2, e3] ta)
    (hs : starEach [e, e2, e3] X.env = (false, eval e X.env) :: starEach [e2, e3] X.env := by rfl) (hpl : (backTo pos (starEach [e2, e3] X.env)).any (·.1) = false := by rfl) :
    PI X (.Tuple elts kk tpos) (.Call (.Name "zip" p) [e, e2, e3] [] pos) (iZip3 X.K ta) := by
  refine ⟨fun pins s σ H R I h => ?_⟩
  refine Call_ (ld_blt I hg hm PyProof.Rows.boot_zip (PyProof.Rows.callWith_type1 (thn (ha.run pos pins s σ H _ I h) fun us s1 ⟨vs, H1, I1, r1, q1⟩ => ?_) hs hpl))
  obtain ⟨a, b, c, xs, ys, us', ex, hqx, hqy, hqu, q⟩ := q1
  subst ex
  cases r1 with
  | cons r rr =>
    cases rr with
    | cons r' rr =>
      cases rr with
      | cons r'' rr =>
        cases rr
        cases r
        cases r'
        cases r''
        obtain ⟨its, rv, p1, _⟩ := I1.tuple hqx
        obtain ⟨its2, rv2, p2, _⟩ := I1.tuple hqy
        obtain ⟨its3, rv3, p3, _⟩ := I1.tuple hqu
        obtain ⟨w1, hw1, _⟩ := id p1
        obtain ⟨w2, hw2, _⟩ := id p2
        obtain ⟨w3, hw3, _⟩ := id p3
        have la : a < s1.heap.objs.size := Heap.lt_size hw1
        have lb : b < s1.heap.objs.size := Heap.lt_size hw2
        have lc : c < s1.heap.objs.size := Heap.lt_size hw3
        refine zip_begins3 (begins_tuple a its.toArray) (begins_tuple b its2.toArray) (begins_tuple c its3.toArray) p1 p2 p3 fun h' hz hTI hTO g1 g2 g3 hsz hk => wpAny_pyIter_zip hz ?_
        have I2 : Inv X pins σ H1 { s1 with heap := h' } := I1.kept (t' := s1.toks) hk
        refine ⟨s1.heap.objs.size + 5, [s1.heap.objs.size + 5, s1.heap.objs.size + 3, s1.heap.objs.size + 4, s1.heap.objs.size, s1.heap.objs.size + 1, s1.heap.objs.size + 2], _, _, H1, rfl, I2,
          turn_z3 (zip_sep3 (N := s1.heap.objs.size) (fp1 := [a]) (fp2 := [b]) (fp3 := [c]) (fun x hc => by rw [List.mem_singleton.mp hc]; exact la) (fun x hc => by rw [List.mem_singleton.mp hc]; exact lb) (fun x hc => by rw [List.mem_singleton.mp hc]; exact lc)) (Nat.ne_of_lt la) (Nat.ne_of_lt (Nat.lt_succ_of_lt lb)) (Nat.ne_of_lt (Nat.lt_succ_of_lt (Nat.lt_succ_of_lt lc))),
          ⟨hz, hTI, ⟨_, _, _, hTO⟩, ⟨_, g1, rfl, rfl⟩, ⟨_, g2, rfl, rfl⟩, ⟨_, g3, rfl, rfl⟩⟩, fun x hcm => ?_, q⟩
        have e' : x = s1.heap.objs.size + 5 ∨ x = s1.heap.objs.size + 3 ∨ x = s1.heap.objs.size + 4 ∨ x = s1.heap.objs.size ∨ x = s1.heap.objs.size + 1 ∨ x = s1.heap.objs.size + 2 := by simpa using hcm
        have hle : s1.heap.objs.size ≤ x := by rcases e' with z | z | z | z | z | z <;> rw [z] <;> first | exact Nat.le_add_right _ _ | exact Nat.le_refl _
        exact I1.fpOk hle (I1.hok.fresh hle)
def YTrip (xs ys us : Nat → Option V) : Nat → Hp → V → Hp → Prop := fun i H v H' => ∃ T x y u, v = .ref T ∧ H T = none ∧ H' = upd H T (.tup [x, y, u]) ∧ xs i = some x ∧ ys i = some y ∧ us i = some u
theorem walk_z3 {K : PySem.W.Frag} {a b c : Addr} {xs ys us : List V} {n : Nat} (h1 : xs.length = n) (h2 : ys.length = n) (h3 : us.length = n) : Walk (Itz3 K a b c) n (fun H => SqT K H a xs ∧ SqT K H b ys ∧ SqT K H c us) (YTrip (fun i => xs[i]?) (fun i => ys[i]?) (fun i => us[i]?)) := by
  refine ⟨fun i _ hi q => ?_, fun _ q => ⟨xs, ys, us, q.1, q.2.1, q.2.2, h1, h2, h3⟩, fun i H v H' _ q y => ?_⟩
  · exact ⟨xs, ys, us, xs[i], ys[i], us[i], q.1, q.2.1, q.2.2, by simp [h1, hi], by simp [h2, hi], by simp [h3, hi]⟩
  · obtain ⟨T, x, z, u, h1, h2, h3, h4, h5, h6⟩ := y
    exact ⟨T, x, z, u, h1, h2, h3, h4 xs q.1, h5 ys q.2.1, h6 us q.2.2⟩
/-! ### stepping -/
section
variable {K : PySem.W.Frag} {σ : L2.St} {H : Hp} {tr : TA} {D : Ends} {t1 : TS} {g : TG} {a b c : Addr} {xs ys us : List V} {b1 b2 : Bool} {n : Nat}
def kForZ2 (K : PySem.W.Frag) (b1 b2 : Bool) (g : TG) (tb : TS) (D : Ends) (σ : L2.St) (vs : List V) (H1 : Hp) : Prop := tFor (iZip2 K b1 b2 (fun _ H Q => Q vs H)) g tb D σ H1
theorem g_forZ2 (q : tr σ H (kForZ2 K b1 b2 g t1 D σ)) : tFor (iZip2 K b1 b2 tr) g t1 D σ H := q
theorem g_kForZ2 (n : Nat) (hx : SqB K b1 H a xs) (hy : SqB K b2 H b ys) (l1 : xs.length = n) (l2 : ys.length = n) (Pv : Nat → L2.St → Hp → Prop) (h0 : Pv 0 σ H) (hl : ∀ i σ H, i ≤ n → Pv i σ H → SqB K b1 H a xs ∧ SqB K b2 H b ys)
    (hs : ∀ i x y σ H T H', i < n → xs[i]? = some x → ys[i]? = some y → Pv i σ H → Ex H H' → H T = none → H' T = some (.tup [x, y]) → g (.ref T) σ H' fun σ2 H2 => t1 { D with nx := Pv (i + 1), ct := Pv (i + 1), bk := D.nx } σ2 H2) (hd : ∀ σ H, Pv n σ H → D.nx σ H) : kForZ2 K b1 b2 g t1 D σ [.ref a, .ref b] H :=
  ⟨a, b, xs, ys, rfl, hx, hy, for_it (walk_z2 l1 l2) Pv h0 hl (fun i x σ H H' hi p y => by
    obtain ⟨T, u, v, rfl, hT, rfl, e1, e2⟩ := y
    exact hs i u v σ H T _ hi e1 e2 p (Ex.new hT) hT upd_same) hd⟩
def kForZ3 (K : PySem.W.Frag) (g : TG) (tb : TS) (D : Ends) (σ : L2.St) (vs : List V) (H1 : Hp) : Prop := tFor (iZip3 K (fun _ H Q => Q vs H)) g tb D σ H1
theorem g_forZ3 (q : tr σ H (kForZ3 K g t1 D σ)) : tFor (iZip3 K tr) g t1 D σ H := q
theorem g_kForZ3 (n : Nat) (hx : SqT K H a xs) (hy : SqT K H b ys) (hu : SqT K H c us) (l1 : xs.length = n) (l2 : ys.length = n) (l3 : us.length = n) (Pv : Nat → L2.St → Hp → Prop) (h0 : Pv 0 σ H) (hl : ∀ i σ H, i ≤ n → Pv i σ H → SqT K H a xs ∧ SqT K H b ys ∧ SqT K H c us)
    (hs : ∀ i x y u σ H T H', i < n → xs[i]? = some x → ys[i]? = some y → us[i]? = some u → Pv i σ H → Ex H H' → H T = none → H' T = some (.tup [x, y, u]) → g (.ref T) σ H' fun σ2 H2 => t1 { D with nx := Pv (i + 1), ct := Pv (i + 1), bk := D.nx } σ2 H2) (hd : ∀ σ H, Pv n σ H → D.nx σ H) : kForZ3 K g t1 D σ [.ref a, .ref b, .ref c] H :=
  ⟨a, b, c, xs, ys, us, rfl, hx, hy, hu, for_it (walk_z3 l1 l2 l3) Pv h0 hl (fun i x σ H H' hi p y => by
    obtain ⟨T, x, y, u, rfl, hT, rfl, e1, e2, e3⟩ := y
    exact hs i x y u σ H T _ hi e1 e2 e3 p (Ex.new hT) hT upd_same) hd⟩
end
/-! ### bytes, three stores -/
def rBix : V → V → Hp → VK → Prop := fun x y H Q => ∃ (z : List UInt8) (i : Int), x = .byt z.toArray ∧ y = .int i ∧ z.length ≤ sizeLine ∧ 0 ≤ i ∧ i < z.length ∧ Q (.int ((z.getD i.toNat 0).toNat : Nat)) H
theorem pe_bix {X : Cx} {a b : Expr} {ta tb : TE} {pos : Pos} (ha : PE X a ta) (hb : PE X b tb) (hs : PlainIxT b) : PE X (.Subscript a b pos) (tOp rBix ta tb) := pe_item_byt ha hb hs
section
variable {K : PySem.W.Frag} {H : Hp} {Q : VK}
theorem g_bix {ns : List Int} {j : Nat} {n : Int} (h8 : ∀ v ∈ ns, 0 ≤ v ∧ v < 256) (hz : ns.length ≤ 1000) (h : ns[j]? = some n) (q : Q (.int n) H) : rBix (.byt (byteArr ns)) (.int (j : Int)) H Q := by
  have hj := (List.getElem?_eq_some_iff.mp h).1
  refine ⟨ns.map fun n => n.toNat.toUInt8, j, rfl, rfl, sz1000 (by rw [List.length_map]; exact hz), by omega, by rw [List.length_map]; omega, ?_⟩
  rw [Int.toNat_natCast, byte_at (ns := ns) (fun v hv => h8 v hv) h]
  exact q
theorem g_lenB {ns : List Int} (hz : ns.length ≤ 1000) (q : Q (.int (ns.length : Int)) H) : rLen K [.byt (byteArr ns)] H Q := ⟨.byt (byteArr ns), ns.length, rfl, ⟨sz1000 (by rw [byteArr_size]; exact hz), (byteArr_size ns).symm⟩, q⟩
theorem g_extendL {l p : Addr} {xs ys : List V} (h : H l = some (.lst xs)) (hp : H p = some (.lst ys)) (z : xs.length + ys.length < sizeLine) (q : ∀ H', Exb l H H' → H' l = some (.lst (xs ++ ys)) → Q .non H') : rExtend (.ref l) [.ref p] H Q := ⟨l, p, xs, ys, rfl, rfl, h, hp, Nat.le_of_lt z, q _ Exb.upd upd_same⟩
def kPar3 (i j l : Nat) (D : Ends) (σ : L2.St) (vs : List V) (H1 : Hp) : Prop := ∃ v1 v2 v3, vs = [v1, v2, v3] ∧ D.nx (((σ.set i (some v1)).set j (some v2)).set l (some v3)) H1
theorem g_par3 {i j l : Nat} {tr : TA} {D : Ends} {σ : L2.St} (q : tr σ H (kPar3 i j l D σ)) : tPar3 i j l tr D σ H := q
theorem g_kPar3 {i j l : Nat} {D : Ends} {σ : L2.St} {x y z : V} (q : D.nx (((σ.set i (some x)).set j (some y)).set l (some z)) H) : kPar3 i j l D σ [x, y, z] H := ⟨x, y, z, rfl, q⟩
/-- bytes(list), list(bytes) -/
def rBytL (K : PySem.W.Frag) : List V → Hp → VK → Prop := fun xs H Q => ∃ p ns, xs = [.ref p] ∧ SqL K H p (ns.map V.int) ∧ B8 ns ∧ Q (.byt (byteArr ns)) H
theorem c_bytes {X : Cx} (hc : X.calm = true) : CallR X (.type "bytes") (rBytL X.K) := call_bytes_list hc
def rLstB : List V → Hp → VK → Prop := r1 kLstB
theorem c_listB {X : Cx} (hc : X.calm = true) : CallR X (.type "list") rLstB := call_r1 (rl_listB hc)
theorem g_bytL {p : Addr} {ns : List Int} (h : SqL K H p (ns.map V.int)) (h8 : ∀ v ∈ ns, 0 ≤ v ∧ v < 256) (q : Q (.byt (byteArr ns)) H) : rBytL K [.ref p] H Q := ⟨p, ns, rfl, h, fun v hv => h8 v hv, q⟩
theorem g_lstB {ns : List Int} (h8 : ∀ v ∈ ns, 0 ≤ v ∧ v < 256) (hz : ns.length ≤ 1000) (q : ∀ p H2, H p = none → Ex H H2 → H2 p = some (.lst (ns.map V.int)) → Q (.ref p) H2) : rLstB [.byt (byteArr ns)] H Q :=
  ⟨byteArr ns, rfl, sz1000 (by rw [byteArr_size]; exact hz), fun p hp => q p _ hp (Ex.new hp) (by rw [upd_same, bi_make h8])⟩
/-- data[:k] -/
theorem g_slB {ns : List Int} {k : Nat} (hk : k ≤ ns.length) (hz : ns.length ≤ 1000) (q : Q (.byt (byteArr (ns.take k))) H) : rSlB (.byt (byteArr ns)) none (some (k : Int)) H Q := by
  refine ⟨byteArr ns, rfl, by rw [byteArr_size]; omega, ?_⟩
  have : PySem.W.KBy.picked (byteArr ns) none (some (k : Int)) = byteArr (ns.take k) := by
    rw [PySem.W.KBc.picked_eq]
    show (((byteArr ns).toList.drop 0).take (clipAt (byteArr ns).size (k : Int) - 0)).toArray = _
    rw [clipAt_nat, byteArr_size, Nat.min_eq_left hk]
    unfold byteArr
    show (((ns.map _).drop 0).take (k - 0)).toArray = ((ns.take k).map _).toArray
    rw [List.drop_zero, Nat.sub_zero, List.map_take]
  rw [this]
  exact q
end
end G48
/-! texts: join, split, f-strings, signs; comprehensions over texts, zip, enumerate(list) -/
namespace G48
open PySem PySem.Spec PyProof.Rows L2 Evl
theorem len_cat (a b : PySem.Str) : (a ++ b).length = a.length + b.length := by
  have := SX.S_cat a.cps.toList b.cps.toList
  rw [SX.S_tl, SX.S_tl] at this
  rw [this, SX.S_len, List.length_append]
  rfl
def rJoin (K : PySem.W.Frag) : V → List V → Hp → VK → Prop := fun x xs H Q => ∃ a p, ∃ ys : List PySem.Str, x = .str a ∧ xs = [.ref p] ∧ (SqL K H p (ys.map V.str) ∨ SqT K H p (ys.map V.str)) ∧ (ys.map (·.length)).sum + ys.length * a.length ≤ 16777216 ∧ Q (.str (Txt.join a ys)) H
def rSplit : V → List V → Hp → VK → Prop := fun x xs H Q => ∃ a b, x = .str a ∧ xs = [.str b] ∧ (b.length == 0) = false ∧ a.length + 2 ≤ sizeLine ∧ rNewStrs (Txt.split a b) H Q
def rAddS : R2 := fun x y H Q => ∃ i j, x = .str i ∧ y = .str j ∧ i.length + j.length ≤ sizeLine ∧ Q (.str (i ++ j)) H
def rInS : R2 := fun x y H Q => ∃ i j, x = .str i ∧ y = .str j ∧ Q (.bl (!(Builtin.Str.occurrences j i 0 j.length 1).isEmpty)) H
def rIntS : List V → Hp → VK → Prop := fun xs H Q => ∃ a n, xs = [.str a] ∧ PySem.intText? a = some n ∧ a.length ≤ 640 ∧ Q (.int n) H
def tJoined (ts : List TE) : TE := fun σ H Q => tJs ts PySem.Str.empty σ H fun out H1 => Q (.str out) H1
section
variable {X : Cx}
theorem pe_joinW {o e : Expr} {to te : TE} {apos pos : Pos} (ho : PE X o to) (he : PE X e te) (hs : starEach [e] X.env = [(false, eval e X.env)] := by rfl)
    (hbase : attributeBase o "join" X.env (eval o X.env) = eval o X.env := by rfl) (hline : (apos.endLine == pos.line) = true := by rfl) : PE X (.Call (.Attribute o "join" apos) [e] [] pos) (tM1 (rJoin X.K) to te) := pe_join ho he hs hbase hline
theorem pe_splitW {o e : Expr} {to te : TE} {apos pos : Pos} (ho : PE X o to) (he : PE X e te) (hs : starEach [e] X.env = [(false, eval e X.env)] := by rfl)
    (hbase : attributeBase o "split" X.env (eval o X.env) = eval o X.env := by rfl) (hline : (apos.endLine == pos.line) = true := by rfl) : PE X (.Call (.Attribute o "split" apos) [e] [] pos) (tM1 rSplit to te) := pe_split ho he hs hbase hline
theorem op_addS : OpR X (binaryOp .Add) rAddS := op_add_str
theorem op_inS : OpR X (compareOp .In) rInS := op_in_str
theorem c_intS : CallR X (.type "int") rIntS := call_int_str
theorem pe_joinedW {v1 v2 : Expr} {rest : List Expr} {ts : List TE} {pos : Pos} (h : PJ X (v1 :: v2 :: rest) ts) : PE X (.JoinedStr (v1 :: v2 :: rest) pos) (tJoined ts) := pe_joined h
end
def kM1 (r : V → List V → Hp → VK → Prop) (te : TE) (σ : L2.St) (Q : VK) : VK := fun x H1 => (∃ a, x = .str a) ∧ te σ H1 fun y H2 => r x [y] H2 Q
def kOut (Q : VK) : PySem.Str → Hp → Prop := fun out H1 => Q (.str out) H1
def kJ (ts : List TE) (acc : PySem.Str) (σ : L2.St) (R : PySem.Str → Hp → Prop) : VK := fun x H1 => ∃ y : PySem.Str, x = .str y ∧ (acc ++ y).length ≤ sizeLine ∧ tJs ts (acc ++ y) σ H1 R
def kFmt (Q : VK) : VK := fun x H1 => (∃ y : PySem.Str, x = .str y ∧ y.length ≤ sizeLine ∧ Q (.str y) H1) ∨ ∃ i : Int, x = .int i ∧ i.natAbs.log2 < 1920 ∧ Q (.str (toString i)) H1
section
variable {K : PySem.W.Frag} {σ σ2 : L2.St} {H : Hp} {Q : VK} {to te : TE} {t : TE} {ts : List TE} {r : V → List V → Hp → VK → Prop} {a b acc y : PySem.Str} {R : PySem.Str → Hp → Prop} {p : Addr} {ys : List PySem.Str}
theorem g_m1 (q : to σ H (kM1 r te σ Q)) : tM1 r to te σ H Q := q
theorem g_kM1 (q : te σ H fun y H2 => r (.str a) [y] H2 Q) : kM1 r te σ Q (.str a) H := ⟨⟨a, rfl⟩, q⟩
theorem g_join (h : SqL K H p (ys.map V.str)) (z : (ys.map (·.length)).sum + ys.length * a.length ≤ 16777216) (q : Q (.str (Txt.join a ys)) H) : rJoin K (.str a) [.ref p] H Q := ⟨a, p, ys, rfl, rfl, .inl h, z, q⟩
theorem g_split (hb : (b.length == 0) = false) (z : a.length ≤ 900) (q : ∀ p H2, H p = none → Ex H H2 → H2 p = some (.lst ((Txt.split a b).map V.str)) → Q (.ref p) H2) : rSplit (.str a) [.str b] H Q :=
  ⟨a, b, rfl, rfl, hb, sz1000 (by omega), fun p hp => q p _ hp (Ex.new hp) upd_same⟩
theorem g_addS (z : a.length + b.length ≤ 1000) (q : Q (.str (a ++ b)) H) : rAddS (.str a) (.str b) H Q := ⟨a, b, rfl, rfl, sz1000 z, q⟩
theorem g_inS (q : Q (.bl (!(Builtin.Str.occurrences b a 0 b.length 1).isEmpty)) H) : rInS (.str a) (.str b) H Q := ⟨a, b, rfl, rfl, q⟩
theorem g_intS {n : Int} (h : PySem.intText? a = some n) (z : a.length ≤ 640) (q : Q (.int n) H) : rIntS [.str a] H Q := ⟨a, n, rfl, h, z, q⟩
theorem g_joined (q : tJs ts PySem.Str.empty σ H (kOut Q)) : tJoined ts σ H Q := q
theorem g_jcons (q : t σ H (kJ ts acc σ R)) : tJs (t :: ts) acc σ H R := q
theorem g_jnil (q : R acc H) : tJs [] acc σ H R := q
theorem g_kOut (q : Q (.str acc) H) : kOut Q acc H := q
theorem g_kJ (z : acc.length + y.length ≤ 1000) (q : tJs ts (acc ++ y) σ H R) : kJ ts acc σ R (.str y) H := ⟨y, rfl, sz1000 (by rw [len_cat]; exact z), q⟩
theorem g_fmt (q : te σ H (kFmt Q)) : tFmt te σ H Q := q
theorem g_kFmtS (z : y.length ≤ 1000) (q : Q (.str y) H) : kFmt Q (.str y) H := .inl ⟨y, rfl, sz1000 z, q⟩
theorem g_kFmtI {i : Int} (h : 0 ≤ i ∧ i < 1000) (q : Q (.str (toString i)) H) : kFmt Q (.int i) H := .inr ⟨i, rfl, by
  have h1 : i.natAbs < 2 ^ 10 := by omega
  by_cases z : i.natAbs = 0
  · rw [z]; decide
  · have := (Nat.log2_lt z).mpr h1
    omega, q⟩
end
/-! ### comprehensions -/
section
variable {K : PySem.W.Frag} {σ σ2 : L2.St} {H : Hp} {N : Hp → Prop} {te : TE} {tt : TT} {vs : List Nat} {Q : VK} {g : TG} {tr : TA} {tl : TE} {a b : Addr} {xs ys : List V} {b1 b2 : Bool}
/-- over a text -/
def kLcTx (g : TG) (tt : TT) (te : TE) (vs : List Nat) (σ : L2.St) (Q : VK) : VK := fun x H1 => tLc (iStr (tC x)) g tt te vs σ H1 Q
theorem g_lcTx (q : tl σ H (kLcTx g tt te vs σ Q)) : tLc (iStr tl) g tt te vs σ H Q := q
theorem g_kLcTx {z : PySem.Str} (Pv : Addr → Nat → Hp → Prop) (h0 : ∀ D H1, H D = none → Ex H H1 → H1 D = some (.lst []) → Pv D 0 H1)
    (hs : ∀ D (i : Nat) c H2, H D = none → z.cps[i]? = some c → Pv D i H2 → g (.str ⟨#[c]⟩) (wipe σ vs) H2 (kLcG tt te vs σ D (Pv D (i + 1))))
    (hd : ∀ D H2, H D = none → Pv D z.cps.size H2 → Q (.ref D) H2) : kLcTx g tt te vs σ Q (.str z) H :=
  ⟨z, rfl, fun D hD => lc_it walk_str (Pv D) (h0 D _ hD (Ex.new hD) upd_same) (fun i H2 hi p => trivial) (fun i x H2 H3 hi p y => by
    obtain ⟨rfl, c, hc, rfl⟩ := y
    exact hs D i c H3 hD hc p) (fun H2 p => hd D H2 hD p)⟩
/-- over zip of two -/
def kLcZ (K : PySem.W.Frag) (b1 b2 : Bool) (g : TG) (tt : TT) (te : TE) (vs : List Nat) (σ : L2.St) (Q : VK) (ws : List V) (H1 : Hp) : Prop := tLc (iZip2 K b1 b2 (fun _ H Q => Q ws H)) g tt te vs σ H1 Q
theorem g_lcZ (q : tr σ H (kLcZ K b1 b2 g tt te vs σ Q)) : tLc (iZip2 K b1 b2 tr) g tt te vs σ H Q := q
theorem g_kLcZ (n : Nat) (hx : SqB K b1 H a xs) (hy : SqB K b2 H b ys) (l1 : xs.length = n) (l2 : ys.length = n) (Pv : Addr → Nat → Hp → Prop) (h0 : ∀ D H1, H D = none → Ex H H1 → H1 D = some (.lst []) → Pv D 0 H1)
    (hl : ∀ D i H2, H D = none → i ≤ n → Pv D i H2 → SqB K b1 H2 a xs ∧ SqB K b2 H2 b ys)
    (hs : ∀ D (i : Nat) x y H2 T H3, H D = none → i < n → xs[i]? = some x → ys[i]? = some y → Pv D i H2 → Ex H2 H3 → H2 T = none → H3 T = some (.tup [x, y]) → g (.ref T) (wipe σ vs) H3 (kLcG tt te vs σ D (Pv D (i + 1))))
    (hd : ∀ D H2, H D = none → Pv D n H2 → Q (.ref D) H2) : kLcZ K b1 b2 g tt te vs σ Q [.ref a, .ref b] H :=
  ⟨a, b, xs, ys, rfl, hx, hy, fun D hD => lc_it (walk_z2 l1 l2) (Pv D) (h0 D _ hD (Ex.new hD) upd_same) (fun i H2 hi p => hl D i H2 hD hi p) (fun i x H2 H3 hi p y => by
    obtain ⟨T, u, v, rfl, hT, rfl, e1, e2⟩ := y
    exact hs D i u v H2 T _ hD hi e1 e2 p (Ex.new hT) hT upd_same) (fun H2 p => hd D H2 hD p)⟩
/-- over enumerate(list) -/
def kLcNL (K : PySem.W.Frag) (g : TG) (tt : TT) (te : TE) (vs : List Nat) (σ : L2.St) (Q : VK) (ws : List V) (H1 : Hp) : Prop := tLc (iEnum K (fun _ H Q => Q ws H)) g tt te vs σ H1 Q
theorem g_lcNL (q : tr σ H (kLcNL K g tt te vs σ Q)) : tLc (iEnum K tr) g tt te vs σ H Q := q
theorem g_kLcNL (h : SqL K H a xs) (Pv : Addr → Nat → Hp → Prop) (h0 : ∀ D H1, H D = none → Ex H H1 → H1 D = some (.lst []) → Pv D 0 H1) (hl : ∀ D i H2, H D = none → i ≤ xs.length → Pv D i H2 → SqL K H2 a xs)
    (hs : ∀ D (i : Nat) x H2 T H3, H D = none → xs[i]? = some x → Pv D i H2 → Ex H2 H3 → H2 T = none → H3 T = some (.tup [.int (i : Int), x]) → g (.ref T) (wipe σ vs) H3 (kLcG tt te vs σ D (Pv D (i + 1))))
    (hd : ∀ D H2, H D = none → Pv D xs.length H2 → Q (.ref D) H2) : kLcNL K g tt te vs σ Q [.ref a] H :=
  ⟨a, xs, rfl, h, fun D hD => lc_it walk_enum (Pv D) (h0 D _ hD (Ex.new hD) upd_same) (fun i H2 hi p => hl D i H2 hD hi p) (fun i x H2 H3 hi p y => by
    obtain ⟨T, u, v, rfl, hT, rfl, e1, e2⟩ := y
    cases e1
    exact hs D i v H2 T _ hD e2 p (Ex.new hT) hT upd_same) (fun H2 p => hd D H2 hD p)⟩
end
end G48
set_option Elab.async false
set_option linter.all false
set_option maxRecDepth 100000
set_option maxHeartbeats 1000000
/-! G48G: a «for» amid a generator's body: its iterator stands while the generator sleeps. -/
namespace L2
open PySem PySem.Spec PyProof.Rows GenW

section
variable {prog : Program} {w : World} {A : Around} {R : GenEnd} {Y : Protocol} {n : Nat} {s₀ : Shared} {fs : List Frame} {s : Shared} {env : Env}
/-- the exception's part of a loop's code -/
def g48_left (env : Env) (e : Value) : Sem PySem.Fin := (do noteFrame e env; theTreesLotGoes e : Sem Unit).wrap (fun _ => .raise e) .raise id id
theorem seg_forLoopG {target : Expr} {it : Value} {body : List Stmt}
    (h : wpAny (model prog w) (A.over (.forLoop target it body [] env) fs) (pyNext it) (fun r s1 => match r with
        | none => Seg (model prog w) A R Y n s₀ (.forLoop target it body [] env) (.pure (.again (.block [] env))) fs s1
        | some v => wpAny (model prog w) (A.over (.forLoop target it body [] env) fs) (letOwnedTupleGo target it v) (fun _ s2 =>
            wpAny (model prog w) (A.over (.forLoop target it body [] env) fs) (assign target env v) (fun _ s3 =>
              Seg (model prog w) A R Y n s₀ (.forLoop target it body [] env) ((execs body env).wrap (fun f => match f with
                | .next | .cont => .pure (.again (.forLoop target it body [] env))
                | .brk => .pure (.done .next)
                | .ret v => .pure (.done (.ret v))) (g48_left env) id id) fs s3)
              (fun x s' => Seg (model prog w) A R Y n s₀ (.forLoop target it body [] env) (g48_left env x) fs s') s2)
            (fun x s' => Seg (model prog w) A R Y n s₀ (.forLoop target it body [] env) (g48_left env x) fs s') s1)
      (fun x s' => Seg (model prog w) A R Y n s₀ (.forLoop target it body [] env) (g48_left env x) fs s') s) :
    Seg (model prog w) A R Y n s₀ (.forLoop target it body [] env) ((model prog w).den (.forLoop target it body [] env)) fs s := by
  show Seg _ A R Y n s₀ _ ((forTurn target it body [] env).onRaise (fun x => do noteFrame x env; theTreesLotGoes x)) fs s
  have eH : (fun e => ((do noteFrame e env; theTreesLotGoes e : Sem Unit).bind fun _ => (Sem.raise e : Sem PySem.Fin))) = g48_left env := by
    funext e; unfold g48_left; rw [Sem.bind_eq_wrap]
  rw [Sem.onRaise_eq_wrap]
  show Seg _ A R Y n s₀ _ ((forTurn target it body [] env).wrap .pure (fun e => ((do noteFrame e env; theTreesLotGoes e : Sem Unit).bind fun _ => (Sem.raise e : Sem PySem.Fin))) id id) fs s
  rw [eH]
  unfold forTurn
  refine seg_bind_wrap (wpAny_standAt ?_)
  refine seg_bind_wrap (wpAny_onRaise (wpAny_mono h (fun r s1 h1 => ?_) fun x s' h' => wpAny_standAt h'))
  cases r with
  | none => exact h1
  | some v =>
    refine seg_bind_wrap (wpAny_mono h1 (fun _ s2 h2 => ?_) fun _ _ h' => h')
    refine seg_bind_wrap (wpAny_mono h2 (fun _ s3 h3 => ?_) fun _ _ h' => h')
    rw [Sem.bind_eq_wrap', Sem.wrap_wrap]
    rw [Sem.wrap_congr (execs body env) _ _ (K' := fun f => match f with
            | .next | .cont => .pure (.again (.forLoop target it body [] env))
            | .brk => .pure (.done .next)
            | .ret v => .pure (.done (.ret v))) (H' := g48_left env)
        (fun f => by cases f <;> rfl) (fun e => by rfl)]
    exact h3
end

section
variable {X : Cx} {st : Stmt} {rest : List Stmt} {tg : Expr}
/-- W: the invariant by the turn, a measure and what is out so far -/
def tGFor (wi : TI) (g : TG) (tb : TGn) : TGn := fun D ys σ H => wi σ H fun J H1 => ∃ W : Nat → Nat → List V → St → Hp → Prop, (∃ m, W 0 m ys σ H1) ∧ ∀ i m ys σ H, W i m ys σ H →
  (J.stop i H ∧ D.nx ys σ H) ∨ (J.go i H ∧ ∃ N : List V → St → Hp → Prop, (∀ ys' σ' H', N ys' σ' H' → ∃ m', m' < m ∧ W (i + 1) m' ys' σ' H') ∧ ∀ x H', J.yld i H x H' → g x σ H' fun σ2 H2 => tb { D with nx := N, ct := N, bk := D.nx } ys σ2 H2)

theorem gs_for {iter : Expr} {body : List Stmt} {wi : TI} {g : TG} {tb : TGn} {pos : Pos} (hp : PassesOwn (model X.prog X.w) X.A X.env X.xe) (hc : X.calm = true) (hi : PI X tg iter wi) (hg : PG X tg g) (hb : GSs X body tb)
    (hs : ∀ x, foldedSetIterable iter X.env x = pure x := by intro _; rfl) : GS X (.For tg iter body [] pos) (tGFor wi g tb) := by
  refine ⟨fun A S ip R n ys s₀ c fs K J gd lv s σ H D g hn k hI ht => ?_⟩
  obtain ⟨acc, cc, r, I⟩ := hI
  rw [exec_For]
  refine seg_bind_wrap (wpAny_standAt ?_)
  refine seg_bind_wrap ?_
  rw [g.over]
  refine wpAny_mono (hi.run _ s σ H _ I ht) (fun v s1 h1 => ?_) fun x s' hx => k.exc n s₀ x s' hx
  refine seg_bind_wrap (wpAny_of_eq (hs v) ?_)
  refine seg_bind_wrap (wpAny_standAt ?_)
  refine seg_bind_wrap (wpAny_holding ?_)
  rw [g.over]
  refine wpAny_mono h1 (fun itv s2 h2 => ?_) fun x s' hx => k.exc n s₀ x s' hx
  obtain ⟨it, fp, tn, It, H2, e, I2, T, st2, f2, W, ⟨m0, w0⟩, turn⟩ := h2
  subst e
  refine seg_call fun p => ?_
  have gl := fun (kk : Result → Sem PySem.Fin) => gc_loop (k := kk) (c' := .forLoop tg (.ref it) body [] X.env) (l := lv []) (kp := []) (p := p) g rfl rfl
  -- what stays true of the iterator's objects through the loop
  have nS : ∀ b ∈ fp, b ≠ S := fun b hb q => (f2 b hb).2.2.2.2.2 (S, lstObj acc cc) (List.mem_append_right _ List.mem_cons_self) q.symm
  have stat : ∀ {H' : Hp} {acc' : Array Value} {c' : Nat}, (∀ b ∈ fp, H' b = none) → ∀ b ∈ fp, FpOk X ((S, lstObj acc' c') :: ip) H' b := fun {H' acc' c'} hn b hb => by
    obtain ⟨q0, q1, q2, q3, q4, q5⟩ := f2 b hb
    refine ⟨hn b hb, q1, q2, q3, q4, fun p hp => ?_⟩
    rcases List.mem_append.mp hp with z | z
    · exact q5 p (List.mem_append_left _ z)
    · rcases List.mem_cons.mp z with z | z
      · rw [z]; exact Ne.symm (nS b hb)
      · exact q5 p (List.mem_append_right _ (List.mem_cons_of_mem _ z))
  have loop : ∀ (m i n : Nat) (ys : List V) (s₀ s : Shared) (σ : St) (H : Hp), n + ys.length = sizeLine → W i m ys σ H → GI X S ip ys σ H s → tn i s.heap → (∀ b ∈ fp, H b = none) →
      Seg (model X.prog X.w) A R (GY X S) n s₀ (.forLoop tg (.ref it) body [] X.env) ((model X.prog X.w).den (.forLoop tg (.ref it) body [] X.env))
        (.ret (fun r => ((match r with | .ok f => (.pure f : Sem Flow) | .error e => .raise e).onRaise (cameBack X.env)).wrap K J gd lv) none (gd false) (lv []) c p [] :: fs) s := by
    intro m
    induction m using Nat.strongRecOn with
    | ind m ih =>
      intro i n ys s₀ s σ H hn w hI st3 fr3
      have ee : ∀ (n : Nat) (s₀ : Shared) (x : Value) (s' : Shared), X.xe x s' → Seg (model X.prog X.w) A R (GY X S) n s₀ (.forLoop tg (.ref it) body [] X.env)
          (g48_left X.env x)
          (.ret (fun r => ((match r with | .ok f => (.pure f : Sem Flow) | .error e => .raise e).onRaise (cameBack X.env)).wrap K J gd lv) none (gd false) (lv []) c p [] :: fs) s' := fun n s₀ x s' hx => by
        refine seg_wrap ?_
        rw [(gl _).over]
        refine wpAny_bind (wpAny_mono (hp x s' hx) (fun _ s'' hcb => wpAny_theTreesLotGoes ?_) fun y s'' hcb => ?_)
        · exact seg_leaf (.error x) (seg_cameBack g k hcb)
        · exact seg_leaf (.error y) (seg_cameBack g k hcb)
      obtain ⟨acc, cc, r, I⟩ := hI
      refine seg_forLoopG ?_
      rw [(gl _).over]
      rcases turn i m ys σ H w with ⟨stop, qn⟩ | ⟨go, N, hN, step⟩
      · refine wpAny_mono (T.done X rfl rfl rfl hc i _ s σ H X.xe I (stat fr3) st3 stop) (fun r0 s4 ⟨hr, I4⟩ => ?_) fun x s' hx => ee n s₀ x s' hx
        subst hr
        have gb := fun (kk : Result → Sem PySem.Fin) => gc_loop (k := kk) (c' := .block [] X.env) (l := lv []) (kp := []) (p := p) g rfl rfl
        refine seg_again rfl ?_
        show Seg _ _ _ _ n s₀ _ ((execs [] X.env).onRaise _ >>= fun f => (pure (.done f) : Sem PySem.Fin)) _ _
        refine seg_leaf (.ok .next) (k.ok n ys s₀ s4 .next hn ⟨σ, H, ⟨acc, cc, r, I4⟩, qn⟩)
      · refine wpAny_mono (T.item X rfl rfl rfl hc i _ s σ H X.xe I (stat fr3) st3 go) (fun r0 s4 ⟨u, hr, h4⟩ => ?_) fun x s' hx => ee n s₀ x s' hx
        subst hr
        refine wpAny_mono h4 (fun _ s5 ⟨x, H5, I5, r5, y5, st5, fr5⟩ => ?_) fun x s' hx => ee n s₀ x s' hx
        have I5' := I5.pinned (stat fr5) (T.obj _ _ st5)
        refine wpAny_mono (hg.run _ s5 σ H5 x u _ I5' r5 (step x H5 y5)) (fun _ s6 ⟨σ6, H6, I6, q6⟩ => ?_) fun x s' hx => ee n s₀ x s' hx
        have gI : GI X S (ip ++ pinsAt fp s5.heap) ys σ6 H6 s6 := ⟨acc, cc, r, I6⟩
        have gl' := gl fun r => ((match r with | .ok f => (.pure f : Sem Flow) | .error e => .raise e).onRaise (cameBack X.env)).wrap K J gd lv
        have gC : GC X S (ip ++ pinsAt fp s5.heap) A (.forLoop tg (.ref it) body [] X.env) (.ret (fun r => ((match r with | .ok f => (.pure f : Sem Flow) | .error e => .raise e).onRaise (cameBack X.env)).wrap K J gd lv) none (gd false) (lv []) c p [] :: fs) id :=
          ⟨gl'.pn, fun q hq => (List.mem_append.mp hq).elim (fun z => g.ip q z) fun z => nS q.1 (of_pinsAt z).1, gl'.apart, gl'.over, gl'.split, gl'.guard, gl'.gd⟩
        refine hb.run A S (ip ++ pinsAt fp s5.heap) R n ys s₀ _ _ _ _ id id s6 σ6 H6 { D with nx := N, ct := N, bk := D.nx } gC hn ⟨fun n' ys' s₀' s7 f hn' hs => ?_, fun n' s₀' x s3 hx => ee n' s₀' x s3 hx⟩ gI q6
        have un : ∀ {ys7 : List V} {σ7 : St} {H7 : Hp}, GI X S (ip ++ pinsAt fp s5.heap) ys7 σ7 H7 s7 → GI X S ip ys7 σ7 H7 s7 := fun {ys7 σ7 H7} ⟨acc7, c7, r7, I7⟩ =>
          ⟨acc7, c7, r7, Inv.unpinned (pins := (S, lstObj acc7 c7) :: ip) (pl := pinsAt fp s5.heap) I7⟩
        have again : ∀ {σ7 : St} {H7 : Hp}, GI X S (ip ++ pinsAt fp s5.heap) ys' σ7 H7 s7 → N ys' σ7 H7 → Seg (model X.prog X.w) A R (GY X S) n' s₀' (.forLoop tg (.ref it) body [] X.env) (.pure (.again (.forLoop tg (.ref it) body [] X.env)))
            (.ret (fun r => ((match r with | .ok f => (.pure f : Sem Flow) | .error e => .raise e).onRaise (cameBack X.env)).wrap K J gd lv) none (gd false) (lv []) c p [] :: fs) s7 := fun {σ7 H7} I7 n7 => by
          obtain ⟨m', hm, w7⟩ := hN ys' σ7 H7 n7
          refine seg_again rfl (ih m' hm (i + 1) n' ys' s₀' s7 σ7 H7 hn' w7 (un I7) ?_ ?_)
          · obtain ⟨acc7, c7, r7, J7⟩ := I7
            exact T.keep _ _ _ st5 fun b hb o e => (J7.pin (b, o) (List.mem_append_right _ (List.mem_cons_of_mem _ (List.mem_append_right _ (mem_pinsAt hb e))))).1
          · obtain ⟨acc7, c7, r7, J7⟩ := I7
            intro b hb
            obtain ⟨o, e, d⟩ := T.obj _ _ st5 b hb
            exact (J7.pin (b, o) (List.mem_append_right _ (List.mem_cons_of_mem _ (List.mem_append_right _ (mem_pinsAt hb e))))).2.1
        cases f with
        | next => obtain ⟨σ7, H7, I7, n7⟩ := hs; exact again I7 n7
        | cont => obtain ⟨σ7, H7, I7, n7⟩ := hs; exact again I7 n7
        | brk => obtain ⟨σ7, H7, I7, q7⟩ := hs; exact seg_leaf (.ok .next) (k.ok n' ys' s₀' s7 .next hn' ⟨σ7, H7, un I7, q7⟩)
        | ret v => obtain ⟨x7, σ7, H7, I7, r7, q7⟩ := hs; exact seg_leaf (.ok (.ret v)) (k.ok n' ys' s₀' s7 (.ret v) hn' ⟨x7, σ7, H7, un I7, r7, q7⟩)
  exact loop m0 0 n ys s₀ s2 σ H2 hn w0 ⟨acc, cc, r, I2⟩ st2 fun b hb => (f2 b hb).1
end
end L2
namespace G48
open PySem PySem.Spec PyProof.Rows L2 Evl GenW
/-! ### generator defs that keep a promise -/
structure Gf (P : Program) (w : World) (K : PySem.W.Frag) (mg : Str → Option Value) (base : Heap) (k : Nat) (x : Str) (ps : List Str) (sp : SpG) : Prop where
  ex : ∃ f fd, mg x = some (.ref f) ∧ PySem.W.keepIn K (.ref f) = true ∧ Binds K fd ps [] ∧ GFn P w K mg base k f fd ps sp
theorem Gf.of {P : Program} {w : World} {K : PySem.W.Frag} {mg : Str → Option Value} {base : Heap} {x : Str} {st : Stmt} {N ps : List Str} {k : Nat} {sp : SpG} (G : GFun K mg x st) (S : GScope N ps (defScope st)) (hb : BindL x x st ps)
    (len : ∀ vs H Q E, sp vs H Q E → vs.length = ps.length)
    (body : ∀ (f : Addr) (cdv : Value) (A : Around) (outer : List Env) (s : Shared) (H : Hp) (vs : List V) (Q : List V → Hp → Prop) (E : XK) (pn : List (Addr × Obj)), Room k (A.deeper (envOfC x (defScope st) s.heap.objs.size f cdv)) → sp vs H Q E →
      ∃ t, GSs (gcxOf P w K mg base N x (defScope st) f cdv A outer s H E pn) (defBody st) t ∧ t { nx := fun ys _ H' => Q ys H', rt := fun ys v H' => v = .non ∧ Q ys H' } [] (start N vs) H) :
    Gf P w K mg base (k + 1) x ps sp := by
  obtain ⟨f, fd, hg, F⟩ := G.ex
  obtain ⟨oc, od, kV, doc, pm, an, cdv, ct, osl, e, lk, hcd⟩ := F.ex
  refine ⟨f, fd, hg, F.kp, F.binds hb, ?_⟩
  subst e
  exact gfn_of lk hcd S len fun A outer s H vs Q E pn hr hsp => body f cdv A outer s H vs Q E pn hr hsp
section
variable {X : Cx} {k j : Nat} {x : Str} {ps : List Str} {sp : SpG} {p pos p2 pos2 : Pos} {e : Expr} {es : List Expr} {t : TA}
theorem noStop0 {K : PySem.W.Frag} : NoStop K E0 := fun _ _ _ h => False.elim h
/-- list(f(e, ..)), f a generator def of the text -/
theorem pgL (D : Gf X.prog X.w X.K X.mg X.base k x ps sp) (hr : Room j X.A) (ha : PA X (e :: es) t) (hmg : X.mg "list" = none) (hk : k + 3 ≤ j := by decide) (hgl : Gl X "list" := by rfl) (hg : Gl X x := by rfl)
    (hd : (x == ("__debug__" : Str)) = false := by decide) (he : starEach (e :: es) X.env = (false, eval e X.env) :: starEach es X.env := by rfl) (hpl : (backTo pos (starEach es X.env)).any (·.1) = false := by rfl)
    (he2 : starEach [.Call (.Name x p) (e :: es) [] pos] X.env = (false, eval (.Call (.Name x p) (e :: es) [] pos) X.env) :: starEach [] X.env := by rfl) :
    PE X (.Call (.Name "list" p2) [.Call (.Name x p) (e :: es) [] pos] [] pos2) (tListG (tCallG sp [] E0 t)) := by
  obtain ⟨f, fd, hm, kp, b, F⟩ := D.ex
  exact pe_listG (pgen_call F (hr.mono (Nat.le_trans (Nat.le_add_right _ _) hk)) hg hm kp b .nil ha hd he hpl) passL noStop0 (hr.mono hk) hgl hmg (by decide +kernel) (by decide) (by decide) he2
end
section
variable {σ : L2.St} {H : Hp} {D : GEnds} {ys : List V} {t u : TGn} {tp : TS} {te : TE} {tr : TA} {sp : SpG} {E : XK} {Q : VK} {K : PySem.W.Frag} {g : TG} {a : Addr} {xs : List V}
theorem g_gThen (q : t { D with nx := fun ys' σ' H' => u D ys' σ' H' } ys σ H) : tGThen t u D ys σ H := q
theorem g_gPlain (q : tp { nx := D.nx ys, rt := D.rt ys, bk := D.bk ys, ct := D.ct ys } σ H) : tPlain tp D ys σ H := q
theorem g_g0 (q : D.nx ys σ H) : tG0 D ys σ H := q
def kGY (D : GEnds) (ys : List V) (σ : L2.St) (x : V) (H1 : Hp) : Prop := ys.length < sizeLine ∧ D.nx (ys ++ [x]) σ H1
theorem g_gYield (h : ys.length < sizeLine) (q : te σ H fun x H1 => D.nx (ys ++ [x]) σ H1) : tGYield te D ys σ H := ⟨h, q⟩
def kGWh (W : Nat → List V → L2.St → Hp → Prop) (tb : TGn) (D : GEnds) (m : Nat) (ys : List V) (σ : L2.St) (b : Bool) (H1 : Hp) : Prop :=
  if b = true then ∃ N : List V → L2.St → Hp → Prop, (∀ ys' σ' H', N ys' σ' H' → ∃ m', m' < m ∧ W m' ys' σ' H') ∧ tb { D with nx := N, ct := N, bk := D.nx } ys σ H1 else D.nx ys σ H1
theorem g_gWh {c : TT} (W : Nat → List V → L2.St → Hp → Prop) (m0 : Nat) (h0 : W m0 ys σ H) (hs : ∀ m ys σ H, W m ys σ H → c σ H (kGWh W t D m ys σ)) : tGWhile c t D ys σ H := ⟨W, ⟨m0, h0⟩, hs⟩
theorem g_kGWh {W : Nat → List V → L2.St → Hp → Prop} {m : Nat} {b : Bool} (h1 : b = true → t { D with nx := fun ys' σ' H' => ∃ m', m' < m ∧ W m' ys' σ' H', ct := fun ys' σ' H' => ∃ m', m' < m ∧ W m' ys' σ' H', bk := D.nx } ys σ H) (h2 : b = false → D.nx ys σ H) : kGWh W t D m ys σ b H := by
  cases b with
  | true => exact ⟨_, fun _ _ _ h => h, h1 rfl⟩
  | false => exact h2 rfl
/-- over a list that the body leaves as it is -/
theorem gfor_list (Pv : Nat → List V → L2.St → Hp → Prop) (h0 : Pv 0 ys σ H) (hl : ∀ i ys σ H, i ≤ xs.length → Pv i ys σ H → SqL K H a xs)
    (hs : ∀ i x ys σ H, xs[i]? = some x → Pv i ys σ H → g x σ H fun σ2 H2 => t { D with nx := Pv (i + 1), ct := Pv (i + 1), bk := D.nx } ys σ2 H2) (hd : ∀ ys σ H, Pv xs.length ys σ H → D.nx ys σ H) :
    ∃ W : Nat → Nat → List V → L2.St → Hp → Prop, (∃ m, W 0 m ys σ H) ∧ ∀ i m ys σ H, W i m ys σ H →
      ((Itl K a).stop i H ∧ D.nx ys σ H) ∨ ((Itl K a).go i H ∧ ∃ N : List V → L2.St → Hp → Prop, (∀ ys' σ' H', N ys' σ' H' → ∃ m', m' < m ∧ W (i + 1) m' ys' σ' H') ∧ ∀ x H', (Itl K a).yld i H x H' → g x σ H' fun σ2 H2 => t { D with nx := N, ct := N, bk := D.nx } ys σ2 H2) := by
  refine ⟨fun i m ys σ H => m = xs.length - i ∧ i ≤ xs.length ∧ Pv i ys σ H, ⟨xs.length, by simp, Nat.zero_le _, h0⟩, ?_⟩
  rintro i m ys σ H ⟨rfl, hi, p⟩
  have q := hl i ys σ H hi p
  by_cases hlt : i < xs.length
  · refine .inr ⟨⟨xs, xs[i], q, by simp [hlt]⟩, Pv (i + 1), fun ys' σ' H' p' => ⟨xs.length - (i + 1), by omega, rfl, hlt, p'⟩, fun x H' y => ?_⟩
    obtain ⟨e, y⟩ := y
    subst e
    exact hs i x ys σ _ (y xs q) p
  · have e : i = xs.length := by omega
    subst e
    exact .inl ⟨⟨xs, q, Nat.le_refl _⟩, hd ys σ H p⟩
def kGForL (K : PySem.W.Frag) (g : TG) (tb : TGn) (D : GEnds) (ys : List V) (σ : L2.St) : VK := fun x H1 => tGFor (iList K (tC x)) g tb D ys σ H1
theorem g_gForL (q : te σ H (kGForL K g t D ys σ)) : tGFor (iList K te) g t D ys σ H := q
theorem g_kGForL (h : SqL K H a xs) (Pv : Nat → List V → L2.St → Hp → Prop) (h0 : Pv 0 ys σ H) (hl : ∀ i ys σ H, i ≤ xs.length → Pv i ys σ H → SqL K H a xs)
    (hs : ∀ i x ys σ H, xs[i]? = some x → Pv i ys σ H → g x σ H fun σ2 H2 => t { D with nx := Pv (i + 1), ct := Pv (i + 1), bk := D.nx } ys σ2 H2) (hd : ∀ ys σ H, Pv xs.length ys σ H → D.nx ys σ H) : kGForL K g t D ys σ (.ref a) H :=
  ⟨a, rfl, ⟨xs, h⟩, gfor_list Pv h0 hl hs hd⟩
def kLG (Q : VK) (out : List V) (H2 : Hp) : Prop := ∀ p, H2 p = none → Q (.ref p) (upd H2 p (.lst out))
theorem g_listG (q : tr σ H fun vs H1 => sp vs H1 (kLG Q) E) : tListG (tCallG sp [] E tr) σ H Q := by
  show tr σ H fun vs H1 => sp (vs ++ []) H1 _ E
  have e : (fun (vs : List V) (H1 : Hp) => sp (vs ++ []) H1 (kLG Q) E) = fun vs H1 => sp vs H1 (kLG Q) E := by
    funext vs H1
    rw [List.append_nil]
  rw [← e] at q
  exact q
theorem g_kLG {out : List V} {H2 : Hp} (q : ∀ p H', H2 p = none → Ex H2 H' → H' p = some (.lst out) → Q (.ref p) H') : kLG Q out H2 := fun p hp => q p _ hp (Ex.new hp) upd_same
end
end G48
namespace G48
open PySem PySem.Spec PyProof.Rows L2 Evl
/-! ### an error without fields, told by `_law_raised` -/
def eqNames : List Str := ["InvalidOperation", "InvalidRing", "DecodeError", "NotationError", "BeingRead", "DiaryError", "InvalidNumber", "UnknownReader", "UnknownBook", "Contradiction", "InvalidCount"]
def eqNm (j : Nat) : Str := eqNames.getD j "other"
def eqWord (j : Nat) : Str := (["number", "reader", "nobook", "contradiction", "count"] : List Str).getD (j - 6) "other"
structure ExcQ (K : PySem.W.Frag) (D : Addr) (j : Nat) : Prop where
  ex : PySem.W.excIn K D He.veBase "ValueError.__new__" = true
  kp : PySem.W.keepIn K (.ref D) = true
  sb : PySem.W.subIn K (.ref D) (.type "BaseException") = some true
  ty : PySem.W.typeIn K (.ref D) = some (.type "type")
  c : ExcC K D
  is_ : ∀ i, i < 11 → PySem.W.kitOne K (.ref D) (.ref (He.ga K (eqNm i))) = some (decide (i = j))
  ve : PySem.W.kitOne K (.ref D) (.type "ValueError") = some true
  re : PySem.W.exmOne K (.ref D) (.ref (He.ga K "ReadingError")) = some true
def excQB (K : PySem.W.Frag) (D : Addr) (j : Nat) : Bool := PySem.W.excIn K D He.veBase "ValueError.__new__" && (PySem.W.keepIn K (.ref D) && (decide (PySem.W.subIn K (.ref D) (.type "BaseException") = some true) && (decide (PySem.W.typeIn K (.ref D) = some (.type "type")) && (excCB K D &&
  ((List.range 11).all (fun i => decide (PySem.W.kitOne K (.ref D) (.ref (He.ga K (eqNm i))) = some (decide (i = j)))) && (decide (PySem.W.kitOne K (.ref D) (.type "ValueError") = some true) && decide (PySem.W.exmOne K (.ref D) (.ref (He.ga K "ReadingError")) = some true)))))))
theorem excQ_ok {K : PySem.W.Frag} {D : Addr} {j : Nat} (h : excQB K D j = true) : ExcQ K D j := by
  obtain ⟨h1, h⟩ := He.ba h
  obtain ⟨h2, h⟩ := He.ba h
  obtain ⟨h3, h⟩ := He.ba h
  obtain ⟨h4, h⟩ := He.ba h
  obtain ⟨h5, h⟩ := He.ba h
  obtain ⟨h6, h⟩ := He.ba h
  obtain ⟨h7, h8⟩ := He.ba h
  exact ⟨h1, h2, of_decide_eq_true h3, of_decide_eq_true h4, excC_ok h5, fun i hi => of_decide_eq_true (List.all_eq_true.mp h6 i (List.mem_range.mpr hi)), of_decide_eq_true h7, of_decide_eq_true h8⟩
theorem psr_ownQ {X : Cx} {C : Addr} {W : WX} {x m : Str} {j n : Nat} {p p2 pos pos' : Pos} (T : ExcQ X.K C n) (gC : X.mg x = some (.ref C)) (hc : X.calm = true) (tk : Takes X W) (hg : Gl X x := by rfl) (hdb : (x == ("__debug__" : Str)) = false := by decide) :
    PS X (.Raise (some (.Call (.Name x p) [.Constant (.str m) j p2] [] pos)) none pos') (fun _ σ H => W (.ref C) none σ H) :=
  ps_raise hc tk (pmk_own PySem.F.excBase_ValueError T.ex gC T.kp (raises_own T.sb T.ty) hg hdb)
end G48
set_option Elab.async false
set_option linter.all false
set_option maxRecDepth 100000
set_option maxHeartbeats 1000000
/-! G48H: a run that wakes no sleeping generator leaves it as it is. -/
namespace G48
open PySem
open Sem (wp)
/-- a continuation that cannot run -/
def deadK : Resume → Sem Fin := fun _ => .unsupported ""
/-- x stands for y: y, or y with a continuation that cannot run -/
def Sub (x y : GenState) : Prop := x = y ∨ ∃ k l c p fs cl, x = .suspended deadK l c p fs cl ∧ y = .suspended k l c p fs cl
def dead (x : GenState) : Prop := ∃ l c p fs cl, x = .suspended deadK l c p fs cl
def tame : GenState → Prop
  | .suspended k _ _ _ fs _ => k = deadK ∨ splitAtGen fs = none
  | _ => True
structure SubA (g G : Array GenState) : Prop where
  sz : G.size = g.size
  sub : ∀ (i : Nat) x, g[i]? = some x → ∃ y, G[i]? = some y ∧ Sub x y
def Tm (g : Array GenState) : Prop := ∀ (i : Nat) x, g[i]? = some x → tame x
/-- what was dead stays, on both sides -/
def Kp (g g' G G' : Array GenState) : Prop := ∀ (i : Nat) x, g[i]? = some x → dead x → g'[i]? = some x ∧ G'[i]? = G[i]?
def eOk : End → Prop
  | .ret _ => True
  | .susp _ _ _ _ _ _ fs => splitAtGen fs = none
theorem Kp.refl {g G : Array GenState} : Kp g g G G := fun _ _ h _ => ⟨h, rfl⟩
theorem Kp.trans {g g1 g2 G G1 G2 : Array GenState} (a : Kp g g1 G G1) (b : Kp g1 g2 G1 G2) : Kp g g2 G G2 := fun i x h d =>
  let ⟨h1, e1⟩ := a i x h d
  let ⟨h2, e2⟩ := b i x h1 d
  ⟨h2, e2.trans e1⟩
theorem SubA.push {g G : Array GenState} (h : SubA g G) (x : GenState) : SubA (g.push x) (G.push x) := by
  refine ⟨by rw [Array.size_push, Array.size_push, h.sz], fun i y hy => ?_⟩
  rw [Array.getElem?_push] at hy
  rw [Array.getElem?_push, h.sz]
  by_cases z : i = g.size
  · rw [if_pos z] at hy ⊢
    exact ⟨x, rfl, .inl (Option.some.inj hy).symm⟩
  · rw [if_neg z] at hy ⊢
    exact h.sub i y hy
theorem Tm.push {g : Array GenState} (h : Tm g) {x : GenState} (hx : tame x) : Tm (g.push x) := fun i y hy => by
  rw [Array.getElem?_push] at hy
  by_cases z : i = g.size
  · rw [if_pos z] at hy
    rw [← Option.some.inj hy]
    exact hx
  · rw [if_neg z] at hy
    exact h i y hy
theorem Kp.push {g G : Array GenState} (h : SubA g G) (x : GenState) : Kp g (g.push x) G (G.push x) := fun i y hy _ => by
  have hi := (Array.getElem?_eq_some_iff.mp hy).1
  rw [Array.getElem?_push, Array.getElem?_push, if_neg (by omega), if_neg (by rw [h.sz]; omega)]
  exact ⟨hy, rfl⟩
theorem setIf_get {g : Array GenState} {j i : Nat} {x : GenState} : (g.setIfInBounds j x)[i]? = if i = j then (if j < g.size then some x else none) else g[i]? := by
  rw [Array.getElem?_setIfInBounds]
  simp only [eq_comm]
theorem SubA.set {g G : Array GenState} (h : SubA g G) (j : Nat) (x : GenState) : SubA (g.setIfInBounds j x) (G.setIfInBounds j x) := by
  refine ⟨by rw [Array.size_setIfInBounds, Array.size_setIfInBounds, h.sz], fun i y hy => ?_⟩
  rw [setIf_get] at hy
  rw [setIf_get, h.sz]
  by_cases z : i = j
  · rw [if_pos z] at hy ⊢
    by_cases u : j < g.size
    · rw [if_pos u] at hy ⊢
      exact ⟨x, rfl, .inl (Option.some.inj hy).symm⟩
    · rw [if_neg u] at hy
      cases hy
  · rw [if_neg z] at hy ⊢
    exact h.sub i y hy
theorem Tm.set {g : Array GenState} (h : Tm g) (j : Nat) {x : GenState} (hx : tame x) : Tm (g.setIfInBounds j x) := fun i y hy => by
  rw [setIf_get] at hy
  by_cases z : i = j
  · rw [if_pos z] at hy
    by_cases u : j < g.size
    · rw [if_pos u] at hy
      rw [← Option.some.inj hy]
      exact hx
    · rw [if_neg u] at hy
      cases hy
  · rw [if_neg z] at hy
    exact h i y hy
/-- a living one is set -/
theorem Kp.set {g G : Array GenState} {j : Nat} {z : GenState} (hz : g[j]? = some z) (nd : ¬ dead z) (x : GenState) : Kp g (g.setIfInBounds j x) G (G.setIfInBounds j x) := fun i y hy d => by
  have ne : i ≠ j := fun e => by
    rw [e, hz] at hy
    rw [Option.some.inj hy] at nd
    exact nd d
  rw [setIf_get, setIf_get, if_neg ne, if_neg ne]
  exact ⟨hy, rfl⟩
theorem Kp.res {g g1 G G1 : Array GenState} {j : Nat} {z : GenState} (hz : g[j]? = some z) (nd : ¬ dead z) (k1 : Kp (g.setIfInBounds j .running) g1 (G.setIfInBounds j .running) G1) (x : GenState) : Kp g (g1.setIfInBounds j x) G (G1.setIfInBounds j x) := fun i y hy d => by
  have ne : i ≠ j := fun e => by
    rw [e, hz] at hy
    rw [Option.some.inj hy] at nd
    exact nd d
  obtain ⟨h1, e1⟩ := k1 i y (by rw [setIf_get, if_neg ne]; exact hy) d
  rw [setIf_get, if_neg ne] at e1
  rw [setIf_get, setIf_get, if_neg ne, if_neg ne]
  exact ⟨h1, e1⟩
theorem SubA.at {g G : Array GenState} (h : SubA g G) {i : Nat} {x : GenState} (hx : g[i]? = some x) (nd : ¬ dead x) : G[i]? = some x := by
  obtain ⟨y, hy, s⟩ := h.sub i x hx
  rcases s with e | ⟨k, l, c, p, fs, cl, e, _⟩
  · rw [hy, e]
  · exact absurd ⟨l, c, p, fs, cl, e⟩ nd
theorem SubA.seen {g G : Array GenState} (h : SubA g G) {i : Nat} {x : GenState} (hx : g[i]? = some x) : ∃ y, G[i]? = some y ∧ y.seen = x.seen := by
  obtain ⟨y, hy, s⟩ := h.sub i x hx
  refine ⟨y, hy, ?_⟩
  rcases s with e | ⟨k, l, c, p, fs, cl, e, e2⟩
  · rw [e]
  · rw [e, e2]
    rfl
theorem no_run {M : Model} {Γ : Ctx} {p : Pos} {t : Sem Fin} {fs : List Frame} {s s' : Shared} {e : End} {w : String} (h : Runs M Γ p t fs s e s') : t ≠ .unsupported w := by
  induction h <;> first
    | (intro z; cases z; done)
    | assumption
theorem nd_fresh {c : Code} : ¬ dead (.fresh c) := fun ⟨_, _, _, _, _, e⟩ => by cases e
theorem nd_running : ¬ dead .running := fun ⟨_, _, _, _, _, e⟩ => by cases e
theorem nd_finished : ¬ dead .finished := fun ⟨_, _, _, _, _, e⟩ => by cases e
theorem nd_susp {k : Resume → Sem Fin} {l : List Value} {c : Code} {p : Pos} {fs : List Frame} {cl : Bool} (h : ¬ k = deadK) : ¬ dead (.suspended k l c p fs cl) := fun ⟨_, _, _, _, _, e⟩ => h (by injection e)
theorem end_tame {e : End} (h : eOk e) : tame e.genState := by
  cases e with
  | ret _ => exact trivial
  | susp v g l k c p fs => exact .inr h
theorem split_app {a b : List Frame} (ha : splitAtGen a = none) (hb : splitAtGen b = none) : splitAtGen (a ++ b) = none := by
  rw [splitAtGen_append_none b ha, hb]
  rfl
theorem split_tail {F : Frame} {fs : List Frame} (h : splitAtGen (F :: fs) = none) : splitAtGen fs = none := by
  cases F with
  | ret k h0 g l c p kp =>
    rw [splitAtGen_ret] at h
    cases e : splitAtGen fs with
    | none => rfl
    | some x => rw [e] at h; cases h
  | gen g k l c p => rw [splitAtGen_gen] at h; cases h
/-- the same run over what the dead ones stand for -/
theorem runs_sub {M : Model} {Γ : Ctx} {p : Pos} {t : Sem Fin} {fs : List Frame} {s s' : Shared} {e : End} (h : Runs M Γ p t fs s e s') : splitAtGen fs = none → Tm s.gens → ∀ G, SubA s.gens G →
    ∃ G', Runs M Γ p t fs { s with gens := G } e { s' with gens := G' } ∧ SubA s'.gens G' ∧ Tm s'.gens ∧ eOk e ∧ Kp s.gens s'.gens G G' := by
  induction h with
  | done => exact fun _ T G S => ⟨G, .done, S, T, trivial, .refl⟩
  | raise => exact fun _ T G S => ⟨G, .raise, S, T, trivial, .refl⟩
  | again q _ ih => exact fun f T G S => let ⟨G', a, b⟩ := ih f T G S; ⟨G', .again q a, b⟩
  | rule _ ih => exact fun f T G S => let ⟨G', a, b⟩ := ih f T G S; ⟨G', .rule a, b⟩
  | «at» _ ih => exact fun f T G S => let ⟨G', a, b⟩ := ih f T G S; ⟨G', .at a, b⟩
  | load q _ ih => exact fun f T G S => let ⟨G', a, b⟩ := ih f T G S; ⟨G', .load q a, b⟩
  | update q _ ih => exact fun f T G S => let ⟨G', a, b⟩ := ih f T G S; ⟨G', .update q a, b⟩
  | loadIfAlive _ ih => exact fun f T G S => let ⟨G', a, b⟩ := ih f T G S; ⟨G', .loadIfAlive a, b⟩
  | point _ ih => exact fun f T G S => let ⟨G', a, b⟩ := ih f T G S; ⟨G', .point a, b⟩
  | alloc _ ih => exact fun f T G S => let ⟨G', a, b⟩ := ih f T G S; ⟨G', .alloc a, b⟩
  | fresh _ ih => exact fun f T G S => let ⟨G', a, b⟩ := ih f T G S; ⟨G', .fresh a, b⟩
  | ask _ ih => exact fun f T G S => let ⟨G', a, b⟩ := ih f T G S; ⟨G', .ask a, b⟩
  | choose q _ ih => exact fun f T G S => let ⟨G', a, b⟩ := ih f T G S; ⟨G', .choose q a, b⟩
  | os _ ih => exact fun f T G S => let ⟨G', a, b⟩ := ih f T G S; ⟨G', .os a, b⟩
  | handled _ ih => exact fun f T G S => let ⟨G', a, b⟩ := ih f T G S; ⟨G', .handled a, b⟩
  | genState q _ ih =>
    intro f T G S
    obtain ⟨y, hy, e⟩ := S.seen q
    obtain ⟨G', a, b⟩ := ih f T G S
    refine ⟨G', .genState hy ?_, b⟩
    rw [e]
    exact a
  | stack _ ih => exact fun f T G S => let ⟨G', a, b⟩ := ih f T G S; ⟨G', .stack a, b⟩
  | thread _ ih => exact fun f T G S => let ⟨G', a, b⟩ := ih f T G S; ⟨G', .thread a, b⟩
  | newGen _ ih =>
    intro f T G S
    obtain ⟨G', a, b1, b2, b3, b4⟩ := ih f (T.push trivial) (G.push _) (S.push _)
    refine ⟨G', .newGen ?_, b1, b2, b3, (Kp.push S _).trans b4⟩
    rw [show ({ (_ : Shared) with gens := G } : Shared).gens.size = _ from S.sz]
    exact a
  | call _ _ ih1 ih2 =>
    intro f T G S
    obtain ⟨G1, a1, s1, t1, _, k1⟩ := ih1 rfl T G S
    obtain ⟨G2, a2, s2, t2, e2, k2⟩ := ih2 f t1 G1 s1
    exact ⟨G2, .call a1 a2, s2, t2, e2, k1.trans k2⟩
  | callSusp _ ih1 =>
    intro f T G S
    obtain ⟨G1, a1, s1, t1, e1, k1⟩ := ih1 rfl T G S
    exact ⟨G1, .callSusp a1, s1, t1, split_app e1 rfl, k1⟩
  | yield => exact fun _ T G S => ⟨G, .yield, S, T, rfl, .refl⟩
  | resumeFresh q _ qt _ ih1 ih2 =>
    intro f T G S
    obtain ⟨G1, a1, s1, t1, e1, k1⟩ := ih1 rfl (T.set _ trivial) (G.setIfInBounds _ .running) (S.set _ .running)
    obtain ⟨G2, a2, s2, t2, e2, k2⟩ := ih2 f (t1.set _ (end_tame e1)) (G1.setIfInBounds _ _) (s1.set _ _)
    exact ⟨G2, .resumeFresh (S.at q nd_fresh) a1 qt a2, s2, t2, e2, (Kp.res q nd_fresh k1 _).trans k2⟩
  | resumeSuspended q r1 qt _ ih1 ih2 =>
    intro f T G S
    have nk := fun z => no_run r1 (w := "") (congrFun (f := _) (g := deadK) z _)
    obtain ⟨G1, a1, s1, t1, e1, k1⟩ := ih1 ((T _ _ q).resolve_left nk) (T.set _ trivial) (G.setIfInBounds _ .running) (S.set _ .running)
    obtain ⟨G2, a2, s2, t2, e2, k2⟩ := ih2 f (t1.set _ (end_tame e1)) (G1.setIfInBounds _ _) (s1.set _ _)
    exact ⟨G2, .resumeSuspended (S.at q (nd_susp nk)) a1 qt a2, s2, t2, e2, (Kp.res q (nd_susp nk) k1 _).trans k2⟩
  | resumeJustStarted q v _ ih => exact fun f T G S => let ⟨G', a, b⟩ := ih f T G S; ⟨G', .resumeJustStarted (S.at q nd_fresh) v a, b⟩
  | resumeThrowFresh q _ ih =>
    intro f T G S
    obtain ⟨G', a, b1, b2, b3, b4⟩ := ih f (T.set _ trivial) (G.setIfInBounds _ .finished) (S.set _ _)
    exact ⟨G', .resumeThrowFresh (S.at q nd_fresh) a, b1, b2, b3, (Kp.set q nd_fresh _).trans b4⟩
  | resumeRunning q _ ih => exact fun f T G S => let ⟨G', a, b⟩ := ih f T G S; ⟨G', .resumeRunning (S.at q nd_running) a, b⟩
  | resumeFinished q _ ih => exact fun f T G S => let ⟨G', a, b⟩ := ih f T G S; ⟨G', .resumeFinished (S.at q nd_finished) a, b⟩
  | segRet _ _ ih1 ih2 =>
    intro f T G S
    obtain ⟨G1, a1, s1, t1, _, k1⟩ := ih1 rfl T G S
    obtain ⟨G2, a2, s2, t2, e2, k2⟩ := ih2 (split_tail f) t1 G1 s1
    exact ⟨G2, .segRet a1 a2, s2, t2, e2, k1.trans k2⟩
  | segGen _ _ _ _ => exact fun f => by rw [splitAtGen_gen] at f; cases f
  | segSuspOut q _ ih =>
    intro f T G S
    obtain ⟨G1, a1, s1, t1, e1, k1⟩ := ih rfl T G S
    exact ⟨G1, .segSuspOut q a1, s1, t1, split_app e1 q, k1⟩
  | segSuspGen q _ _ _ _ _ => exact fun f => by rw [q] at f; cases f
theorem wakes_sub {M : Model} {Γ : Ctx} {p : Pos} {g : Nat} {r : Resume} {s s' : Shared} {res : GenResult} (h : Wakes M Γ p g r s res s') (T : Tm s.gens) (G : Array GenState) (S : SubA s.gens G) :
    ∃ G', Wakes M Γ p g r { s with gens := G } res { s' with gens := G' } ∧ SubA s'.gens G' ∧ Tm s'.gens ∧ Kp s.gens s'.gens G G' := by
  unfold Wakes at h ⊢
  cases hx : s.gens[g]? with
  | none => rw [hx] at h; exact h.elim
  | some x =>
    rw [hx] at h
    cases x with
    | fresh c =>
      rw [show ({ s with gens := G } : Shared).gens[g]? = some (.fresh c) from S.at hx nd_fresh]
      cases r with
      | throw e => exact ⟨G.setIfInBounds g .finished, ⟨h.1, by rw [h.2]; rfl⟩, by rw [h.2]; exact S.set _ _, by rw [h.2]; exact T.set _ trivial, by rw [h.2]; exact Kp.set hx nd_fresh _⟩
      | send v =>
        cases v with
        | none =>
          obtain ⟨e1, s1, hr, qt, hq, rfl⟩ := h
          obtain ⟨G1, a1, b1, t1, q1, k1⟩ := runs_sub hr rfl (T.set _ trivial) (G.setIfInBounds g .running) (S.set _ .running)
          exact ⟨G1.setIfInBounds g e1.genState, ⟨e1, _, a1, qt, hq, rfl⟩, b1.set _ _, t1.set _ (end_tame q1), Kp.res hx nd_fresh k1 _⟩
        | _ => exact ⟨G, ⟨h.1, by rw [h.2]⟩, by rw [h.2]; exact S, by rw [h.2]; exact T, by rw [h.2]; exact .refl⟩
    | suspended k0 l0 c0 p0 fs cl =>
      obtain ⟨e1, s1, hr, qt, hq, rfl⟩ := h
      have nk := fun z => no_run hr (w := "") (congrFun (f := _) (g := deadK) z _)
      rw [show ({ s with gens := G } : Shared).gens[g]? = some (.suspended k0 l0 c0 p0 fs cl) from S.at hx (nd_susp nk)]
      obtain ⟨G1, a1, b1, t1, q1, k1⟩ := runs_sub hr ((T _ _ hx).resolve_left nk) (T.set _ trivial) (G.setIfInBounds g .running) (S.set _ .running)
      exact ⟨G1.setIfInBounds g e1.genState, ⟨e1, _, a1, qt, hq, rfl⟩, b1.set _ _, t1.set _ (end_tame q1), Kp.res hx (nd_susp nk) k1 _⟩
    | running =>
      rw [show ({ s with gens := G } : Shared).gens[g]? = some .running from S.at hx nd_running]
      exact ⟨G, ⟨h.1, by rw [h.2]⟩, by rw [h.2]; exact S, by rw [h.2]; exact T, by rw [h.2]; exact .refl⟩
    | finished =>
      rw [show ({ s with gens := G } : Shared).gens[g]? = some .finished from S.at hx nd_finished]
      exact ⟨G, ⟨h.1, by rw [h.2]⟩, by rw [h.2]; exact S, by rw [h.2]; exact T, by rw [h.2]; exact .refl⟩
theorem wp_sub {α : Type} (M : Model) (Γ : Ctx) (t : Sem α) : ∀ (Q : α → Pos → Shared → Prop) (E : Value → Pos → Shared → Prop) (p : Pos) (s : Shared), wp M Γ t Q E p s → Tm s.gens → ∀ G, SubA s.gens G →
    wp M Γ t (fun a p' s' => ∃ g', Q a p' { s' with gens := g' } ∧ SubA g' s'.gens ∧ Kp s.gens g' G s'.gens ∧ Tm g') (fun e p' s' => ∃ g', E e p' { s' with gens := g' } ∧ SubA g' s'.gens ∧ Kp s.gens g' G s'.gens ∧ Tm g') p { s with gens := G } := by
  induction t with
  | pure a => exact fun Q E p s h T G S => ⟨s.gens, h, S, .refl, T⟩
  | raise e => exact fun Q E p s h T G S => ⟨s.gens, h, S, .refl, T⟩
  | unsupported _ => exact fun Q E p s h T G S => h
  | finish _ => exact fun Q E p s h T G S => h
  | rule _ k ih => exact fun Q E p s h T G S => ih () Q E p s h T G S
  | «at» p' k ih => exact fun Q E p s h T G S => ih () Q E p' s h T G S
  | load a _ k ih => exact fun Q E p s h T G S => let ⟨o, ho, h⟩ := h; ⟨o, ho, ih o Q E p s h T G S⟩
  | update a _ f k ih => exact fun Q E p s h T G S => ⟨h.1, ih () Q E p { s with heap := s.heap.update a f } h.2 T G S⟩
  | loadIfAlive a k ih => exact fun Q E p s h T G S => ih _ Q E p s h T G S
  | point _ k ih => exact fun Q E p s h T G S => ih () Q E p s h T G S
  | register _ _ => exact fun Q E p s h T G S => h
  | alloc o k ih => exact fun Q E p s h T G S => ih _ Q E p { s with heap := s.heap.push o } h T G S
  | fresh k ih => exact fun Q E p s h T G S => ih _ Q E p { s with toks := s.toks + 1 } h T G S
  | ask k ih => exact fun Q E p s h T G S => ih _ Q E p s h T G S
  | choose src m k ih => exact fun Q E p s h T G S => ⟨h.1, ih _ Q E p { s with drawn := s.drawn.bump src } h.2 T G S⟩
  | os q _ k ih => exact fun Q E p s h T G S => ih _ Q E p { s with os := (Os.step s.os q).1 } h T G S
  | call c hd _ _ k ih =>
    intro Q E p s h T G S
    obtain ⟨r, s', hr, h⟩ := h
    obtain ⟨G1, a1, b1, t1, _, k1⟩ := runs_sub hr rfl T G S
    refine ⟨r, _, a1, Sem.wp_mono _ _ _ ?_ ?_ _ _ (ih r Q E p s' h t1 G1 b1)⟩
    · rintro a p' s2 ⟨g', x, y, z, t⟩
      exact ⟨g', x, y, k1.trans z, t⟩
    · rintro a p' s2 ⟨g', x, y, z, t⟩
      exact ⟨g', x, y, k1.trans z, t⟩
  | handled own k ih => exact fun Q E p s h T G S => ih _ Q E p s h T G S
  | genState g k ih =>
    intro Q E p s h T G S
    obtain ⟨st, hs, h⟩ := h
    obtain ⟨y, hy, e⟩ := S.seen hs
    refine ⟨y, hy, ?_⟩
    rw [e]
    exact ih _ Q E p s h T G S
  | newGen c k ih =>
    intro Q E p s h T G S
    have z := ih _ Q E p { s with gens := s.gens.push (.fresh c) } h (T.push trivial) (G.push (.fresh c)) (S.push _)
    show wp M Γ (k ({ s with gens := G } : Shared).gens.size) _ _ p _
    rw [show ({ s with gens := G } : Shared).gens.size = s.gens.size from S.sz]
    refine Sem.wp_mono _ _ _ ?_ ?_ _ _ z
    · rintro a p' s2 ⟨g', x, y, w, t⟩
      exact ⟨g', x, y, (Kp.push S _).trans w, t⟩
    · rintro a p' s2 ⟨g', x, y, w, t⟩
      exact ⟨g', x, y, (Kp.push S _).trans w, t⟩
  | resume g r _ k ih =>
    intro Q E p s h T G S
    obtain ⟨res, s', hw, h⟩ := h
    obtain ⟨G1, a1, b1, t1, k1⟩ := wakes_sub hw T G S
    refine ⟨res, _, a1, Sem.wp_mono _ _ _ ?_ ?_ _ _ (ih res Q E p s' h t1 G1 b1)⟩
    · rintro a p' s2 ⟨g', x, y, z, t⟩
      exact ⟨g', x, y, k1.trans z, t⟩
    · rintro a p' s2 ⟨g', x, y, z, t⟩
      exact ⟨g', x, y, k1.trans z, t⟩
  | yield _ _ _ _ => exact fun Q E p s h T G S => h
  | stack k ih => exact fun Q E p s h T G S => ih _ Q E p s h T G S
  | fork _ _ => exact fun Q E p s h T G S => h
  | thread k ih => exact fun Q E p s h T G S => ih _ Q E p s h T G S
  | await _ _ _ _ _ => exact fun Q E p s h T G S => h
/-- the sleeping ones dead -/
def deaden : GenState → GenState
  | .suspended _ l c p fs cl => .suspended deadK l c p fs cl
  | x => x
theorem deaden_sub (x : GenState) : Sub (deaden x) x := by
  cases x with
  | suspended k l c p fs cl => exact .inr ⟨k, l, c, p, fs, cl, rfl, rfl⟩
  | _ => exact .inl rfl
theorem deaden_tame (x : GenState) : tame (deaden x) := by
  cases x with
  | suspended k l c p fs cl => exact .inl rfl
  | _ => exact trivial
theorem deaden_bare {x : GenState} (h : x.bare = true) : (deaden x).bare = true := by
  cases x <;> exact h
/-- THE RULE: what is shown of a run amid dead sleepers holds of the run amid the living ones, and they sleep on -/
theorem wpAny_sleepers {α : Type} {M : Model} {A : Around} {t : Sem α} {Q : α → Shared → Prop} {E : Value → Shared → Prop} {s : Shared} (h : wpAny M A t Q E { s with gens := s.gens.map deaden }) :
    wpAny M A t (fun a s' => ∃ g', Q a { s' with gens := g' } ∧ SubA g' s'.gens ∧ ∀ (i : Nat) k l c p fs cl, s.gens[i]? = some (.suspended k l c p fs cl) → s'.gens[i]? = some (.suspended k l c p fs cl))
      (fun e s' => ∃ g', E e { s' with gens := g' } ∧ SubA g' s'.gens ∧ Tm g') s := by
  intro Γ p hΓ
  have S : SubA (s.gens.map deaden) s.gens := ⟨by rw [Array.size_map], fun i x hx => by
    rw [Array.getElem?_map] at hx
    obtain ⟨y, hy, e⟩ := Option.map_eq_some_iff.mp hx
    exact ⟨y, hy, by rw [← e]; exact deaden_sub y⟩⟩
  have T : Tm (s.gens.map deaden) := fun i x hx => by
    rw [Array.getElem?_map] at hx
    obtain ⟨y, hy, e⟩ := Option.map_eq_some_iff.mp hx
    rw [← e]
    exact deaden_tame y
  refine Sem.wp_mono _ _ _ ?_ ?_ _ _ (wp_sub M Γ t _ _ p { s with gens := s.gens.map deaden } (h Γ p hΓ) T s.gens S)
  · rintro a p' s2 ⟨g', x, y, z, _⟩
    refine ⟨g', x, y, fun i k l c p fs cl hi => ?_⟩
    have hd : (s.gens.map deaden)[i]? = some (.suspended deadK l c p fs cl) := by
      rw [Array.getElem?_map, hi]
      rfl
    rw [(z i _ hd ⟨l, c, p, fs, cl, rfl⟩).2, hi]
  · rintro a p' s2 ⟨g', x, y, _, t⟩
    exact ⟨g', x, y, t⟩
/-- a promise that does not look at the generators -/
theorem wpAny_gens {α : Type} {M : Model} {A : Around} {t : Sem α} {Q : α → Shared → Prop} {E : Value → Shared → Prop} {s : Shared} {g : Array GenState} (h : wpAny M A t Q E { s with gens := g }) (T : Tm g) (S : SubA g s.gens)
    (hQ : ∀ a s' g', Q a { s' with gens := g' } → Tm g' → SubA g' s'.gens → Q a s') (hE : ∀ e s' g', E e { s' with gens := g' } → Tm g' → SubA g' s'.gens → E e s') : wpAny M A t Q E s := by
  intro Γ p hΓ
  refine Sem.wp_mono _ _ _ ?_ ?_ _ _ (wp_sub M Γ t _ _ p { s with gens := g } (h Γ p hΓ) T s.gens S)
  · rintro a p' s2 ⟨g', x, y, _, t⟩
    exact hQ a s2 g' x t y
  · rintro a p' s2 ⟨g', x, y, _, t⟩
    exact hE a s2 g' x t y
theorem sub_bare {x y : GenState} (h : Sub x y) (b : x.bare = true) : y.bare = true := by
  rcases h with e | ⟨k, l, c, p, fs, cl, e, e2⟩
  · rw [← e]; exact b
  · rw [e] at b
    rw [e2]
    exact b
theorem bare_of {g G : Array GenState} (S : SubA g G) (b : PyProof.Rows.AllBare g) : PyProof.Rows.AllBare G := fun y hy => by
  obtain ⟨i, hi, e⟩ := Array.mem_iff_getElem.mp hy
  have hi' : i < g.size := by rw [← S.sz]; exact hi
  obtain ⟨y', h1, s⟩ := S.sub i g[i] (Array.getElem?_eq_getElem hi')
  rw [Array.getElem?_eq_getElem hi, e] at h1
  cases h1
  exact sub_bare s (b _ (Array.getElem_mem hi'))
theorem deaden_all {g : Array GenState} (b : PyProof.Rows.AllBare g) : PyProof.Rows.AllBare (g.map deaden) := fun y hy => by
  obtain ⟨x, hx, e⟩ := Array.mem_map.mp hy
  rw [← e]
  exact deaden_bare (b x hx)
end G48
set_option Elab.async false
set_option linter.all false
set_option maxRecDepth 100000
set_option maxHeartbeats 1000000
/-! G48J: enumerate over a generator, turn by turn. -/
namespace G48
open PySem PySem.Spec PyProof.Rows L2 GenW
section
variable {prog : Program} {w : World} {A : Around} {E : Value → Shared → Prop} {s : Shared}
/-- a generator is woken: it hands out (and sleeps) or ends -/
theorem wpAny_wakeZ {M : Model} {R : GenEnd} {Y : Protocol} {n : Nat} {g : Nat} {gs : GenState} {r : Resume} {l : List Value} {α : Type} {k : GenResult → Sem α} {Q : α → Shared → Prop} (hg : s.gens[g]? = some gs)
    (hgo : gs.Goes M A R Y n r (s.setGen g .running))
    (hR : ∀ x s₁, R n (s.setGen g .running) x s₁ → wpAny M A (k (End.ret x).result) Q E (s₁.setGen g .finished))
    (hY : ∀ v s₁ k₀ l₀ c₀ p₀ fs, g < s₁.gens.size → Y (n - 1) (s.setGen g .running) v s₁ (fun r' s'' => match n with | 0 => False | m + 1 => (GenState.suspended k₀ l₀ c₀ p₀ fs false).Goes M A R Y m r' s'') →
      wpAny M A (k (.yielded v)) Q E (s₁.setGen g (.suspended k₀ l₀ c₀ p₀ fs false))) :
    wpAny M A (.resume g r l k) Q E s := by
  intro Γ p hΓ
  rw [Sem.wp_resume]
  have hgl : g < (s.setGen g .running).gens.size := by
    rw [setGen_size]
    exact (Array.getElem?_eq_some_iff.mp hg).1
  have out : ∀ e₁ s₁, g < s₁.gens.size → SegEnd R Y n (Seg.next M A R Y n) (s.setGen g .running) e₁ s₁ → e₁.quiet = true ∧
      Sem.wp M Γ (k e₁.result) (fun a _ s' => Q a s') (fun e _ s' => E e s') p (s₁.setGen g e₁.genState) := by
    intro e₁ s₁ hz he
    cases e₁ with
    | ret x => exact ⟨rfl, hR x s₁ he Γ p hΓ⟩
    | susp v g₀ l₀ k₀ c₀ p₀ fs₀ =>
      have hq : (g₀ || fs₀.any Frame.guarded) = false := by
        have := he.1
        unfold End.quiet at this
        simpa using this
      refine ⟨he.1, ?_⟩
      show Sem.wp M Γ (k (.yielded v)) _ _ p (s₁.setGen g (.suspended k₀ l₀ c₀ p₀ fs₀ (g₀ || fs₀.any Frame.guarded)))
      rw [hq]
      refine hY v s₁ k₀ l₀ c₀ p₀ fs₀ hz ?_ Γ p hΓ
      cases n with
      | zero => exact he.2
      | succ m => exact he.2
  cases gs with
  | fresh c =>
    obtain ⟨rfl, hs⟩ := hgo
    obtain ⟨e₁, s₁, hr, he⟩ := seg_iff.mp hs (Γ.wake c p) p rfl (hΓ.wake c p)
    obtain ⟨q, h⟩ := out e₁ s₁ (Nat.lt_of_lt_of_le hgl (runs_gsz hr)) he
    exact ⟨_, _, by unfold Wakes; rw [hg]; exact ⟨e₁, s₁, hr, q, rfl, rfl⟩, h⟩
  | suspended k₀ l₀ c₀ p₀ fs₀ cl =>
    obtain ⟨e₁, s₁, hr, he⟩ := seg_iff.mp hgo (Γ.wake c₀ p) p₀ rfl (hΓ.wake c₀ p)
    obtain ⟨q, h⟩ := out e₁ s₁ (Nat.lt_of_lt_of_le hgl (runs_gsz hr)) he
    exact ⟨_, _, by unfold Wakes; rw [hg]; exact ⟨e₁, s₁, hr, q, rfl, rfl⟩, h⟩
  | running => exact hgo.elim
  | finished => exact hgo.elim
/-- the ends of a generator that raises nothing -/
def NoX (F : Nat → Shared → Shared → Prop) : GenEnd := fun n s₀ r s₁ => (r = .ok (.ret .none) ∨ r = .ok .next) ∧ F n s₀ s₁
theorem nextOf_gen {a : Addr} {g n : Nat} {gs : GenState} {F : Nat → Shared → Shared → Prop} {Y : Protocol} {Q : Value → Shared → Prop} (hh : A.handled = none)
    (hl : s.heap.NoLimit) (hroom : A.depth < recursionLimit) (hg : s.heap.IsGen a g) (hgs : s.gens[g]? = some gs) (hgo : gs.Goes (model prog w) A.in1 (NoX F) Y n (.send .none) (s.setGen g .running))
    (hY : ∀ v s₁ k₀ l₀ c₀ p₀ fs, g < s₁.gens.size → Y (n - 1) (s.setGen g .running) v s₁ (fun r' s'' => match n with | 0 => False | m + 1 => (GenState.suspended k₀ l₀ c₀ p₀ fs false).Goes (model prog w) A.in1 (NoX F) Y m r' s'') → Q v (s₁.setGen g (.suspended k₀ l₀ c₀ p₀ fs false)))
    (hP : ∀ s₁, F n (s.setGen g .running) s₁ → ∀ h' e, (∀ b o, s₁.heap.get? b = some o → h'.get? b = some o) → (∃ o, h'.get? e = some o ∧ o.cls = .type "StopIteration") → E (.ref e) { s₁.setGen g .finished with heap := h' }) :
    wpAny (model prog w) A (Builtin.SmallTypes.nextOf (.ref a)) Q E s := by
  unfold Builtin.SmallTypes.nextOf
  refine wpAny_bind (wpAny_callSpecial?_slot (name := Str.ofString "__next__") hg.typeIs slot_gen_next (wpAny_call_entry slot_gen_next hg.typeIs entry_gen_next ?_ (args_gen_next _)))
  show wpAny _ A.in1 (Builtin.Generator.genWake (.ref a) (.send .none)) _ _ s
  unfold Builtin.Generator.genWake
  refine wpAny_bind (wpAny_holding (wpAny_genNumber hg (wpAny_bind (wpAny_genState hgs ?_))))
  cases gs with
  | running => exact hgo.elim
  | finished => exact hgo.elim
  | _ =>
    refine wpAny_bind (wpAny_roomToWake hl hroom ?_)
    show wpAny _ A.in1 (.resume g (.send .none) [] _) _ _ s
    refine wpAny_wakeZ hgs hgo (fun x s₁ hx => ?_) (fun v s₁ k₀ l₀ c₀ p₀ fs hz hv => ?_)
    · obtain ⟨hr, hp⟩ := hx
      have hres : End.result (.ret x) = .returned .none := by
        rcases hr with hr | hr <;> rw [hr] <;> rfl
      first | rw [hres] | simp only [hres]
      show wpAny _ A.in1 (newExc (.type "StopIteration") [] >>= _) _ _ _
      refine wpAny_bind ?_
      simp only [newExc, newTuple]
      refine wpAny_bind (wpAny_newObj_type ?_ (by size_fits))
      refine wpAny_bind (m := firstArgMember _ _) (wpAny_of_eq (a := Value.none) (by first | rfl | (simp only [firstArgMember]; rfl)) ?_)
      refine wpAny_newObj_type ?_ (by size_fits)
      simp only [raiseNew]
      refine wpAny_bind (wpAny_bind (wpAny_handled ?_))
      first | rw [show A.in1.handled = none from hh] | rw [hh]
      refine wpAny_throw ?_
      exact hP s₁ hp _ _ (fun b o hb => Heap.get?_push_of_some _ (Heap.get?_push_of_some _ hb)) ⟨_, Heap.get?_push_size _ rfl, rfl⟩
    · exact wpAny_pure ⟨v, rfl, wpAny_pure (hY v s₁ k₀ l₀ c₀ p₀ fs hz hv)⟩
/-- enumerate(g), g a generator -/
theorem meets_enum_gen (a : Addr) (g : Nat) :
    Meets (Builtin.«enumerate.__new__» ⟨[.type "enumerate", .ref a], []⟩) (fun _ R s => s.heap.IsGen a g ∧
      R (.ok (.ret (.ref s.heap.objs.size))) { s with heap := s.heap.push { cls := .type "enumerate", data := .fields #[.none, .bool false, .ref a, rawInt 0, .none, .none] } }) :=
  .of_wp fun prog w A R s h => by
    obtain ⟨hp, gg, d, tk, os⟩ := s
    obtain ⟨hl, h⟩ := h
    have hsub := sub_enumerate
    have hL : Heap.IsGen (Shared.heap ⟨hp, gg, d, tk, os⟩) a g := hl
    wp_walk
    refine wpAny_stack_any fun st => wpAny_pure ?_
    split
    · rename_i c _ _ _ _ _
      cases (c == Value.type "enumerate")
      · wp_walk using wpAny_pyIter_gen hL
        exact ⟨_, rfl, h⟩
      · wp_walk using wpAny_pyIter_gen hL
        exact ⟨_, rfl, h⟩
    · wp_walk using wpAny_pyIter_gen hL
      exact ⟨_, rfl, h⟩
theorem call_enum_gen {a : Addr} {g : Nat} {Q : Value → Shared → Prop} (hg : s.heap.IsGen a g)
    (h : ∀ h', IsEnum h' s.heap.objs.size a 0 .none → h'.objs.size = s.heap.objs.size + 1 → (∀ b o, s.heap.get? b = some o → h'.get? b = some o) → Q (.ref s.heap.objs.size) { s with heap := h' }) :
    wpAny (model prog w) A (call (.type "enumerate") [.ref a]) Q E s := by
  refine callType_new F.called_enumerate (by decide) (F.typeCall_enumerate_1 _) (F.newCall_enumerate_1 _) (fun obj => F.args_object_init_2 obj _) F.entry_enumerate_new (meets_enum_gen a g) ⟨hg, ?_⟩
  have he : IsEnum (s.heap.push { cls := .type "enumerate", data := .fields #[.none, .bool false, .ref a, rawInt 0, .none, .none] }) s.heap.objs.size a 0 .none := Heap.get?_push_size _ rfl
  exact ⟨⟨_, he, rfl⟩, h _ he (Heap.size_push ..) fun b o x => Heap.get?_push_of_some _ x⟩
end

/-! ### a generator's frame, woken again and again -/
structure ZF where
  P : Program
  w : World
  K : PySem.W.Frag
  mg : Str → Option Value
  base : Heap
  N : List Str
  qual : Str
  scope : Scope
  f : Addr
  cd : Value
  A : Around
  outer : List Env
  /-- its names' object -/
  l : Nat
  /-- the generator, and what counts its turns -/
  go : Addr × Obj
  e : Addr
  /-- the consumer's own condition at a waking -/
  Phi : Nat → Hp → Shared → Prop
  /-- what the consumer may do while it sleeps -/
  Slp : Hp → Hp → Prop
  /-- what is promised of an item -/
  Yd : List V → V → Hp → Prop
  /-- what is promised at the end -/
  Q : List V → Hp → Prop
def trunc (l : Nat) (s : Shared) : Shared := { s with heap := { s.heap with objs := s.heap.objs.extract 0 l } }
theorem trunc_size {l : Nat} {s : Shared} (h : l ≤ s.heap.objs.size) : (trunc l s).heap.objs.size = l := by
  show (s.heap.objs.extract 0 l).size = l
  rw [Array.size_extract]
  omega
theorem trunc_get {l : Nat} {s : Shared} {b : Addr} (hb : b < l) : (trunc l s).heap.get? b = s.heap.get? b := by
  unfold Heap.get? trunc
  dsimp only
  have e : (s.heap.objs.extract 0 l)[b]? = s.heap.objs[b]? := by
    simp only [Array.getElem?_extract]
    simp only [Nat.zero_add, Nat.sub_zero]
    by_cases z : b < min l s.heap.objs.size
    · rw [if_pos z]
    · rw [if_neg z]
      exact (Array.getElem?_eq_none (Nat.le_of_not_lt fun q => z (Nat.lt_min.mpr ⟨hb, q⟩))).symm
  rw [e]
theorem trunc_some {l : Nat} {s : Shared} {b : Addr} {o : Obj} (h : (trunc l s).heap.get? b = some o) : b < l ∧ s.heap.get? b = some o := by
  have := Heap.lt_size h
  have hb : b < l := by
    have h2 : (trunc l s).heap.objs.size ≤ l := by
      show (s.heap.objs.extract 0 l).size ≤ l
      rw [Array.size_extract]
      omega
    exact Nat.lt_of_lt_of_le this h2
  rw [trunc_get hb] at h
  exact ⟨hb, h⟩
abbrev ZF.env (F : ZF) : Env := envOfC F.qual F.scope F.l F.f F.cd
abbrev ZF.ar (F : ZF) : Around := F.A.deeper F.env
/-- the context since it was woken at s with H; oe: what counts the turns stands so -/
def ZF.cx (F : ZF) (s : Shared) (H : Hp) (oe : Obj) : Cx where
  prog := F.P
  w := F.w
  K := F.K
  mg := F.mg
  base := F.base
  A := F.ar
  N := F.N
  s_0 := trunc F.l s
  H_0 := H
  env := F.env
  outer := F.outer
  stack := F.env :: F.outer
  ex := []
  calm := true
  fn := fun _ => true
  pn := [F.go, (F.e, oe)]
  xe := fun _ _ => False
/-- what of it does not hang on the waking -/
structure Core (F : ZF) (σ : L2.St) (s : Shared) : Prop where
  mod : Mod F.K F.mg F.base
  kind : F.scope.kind = .function
  has : ∀ x, (F.env.kindOf x = some .cell ∨ F.env.kindOf x = some .free) → ∃ c, F.env.cells.lookup x = some c
  hd : F.ar.handled = none
  frames : F.ar.frames = some (F.env :: F.outer)
  bsz : F.base.objs.size ≤ F.l
  lt : ∀ b ∈ frs F.outer, b < F.l
  loc : ∃ m, s.heap.Ns F.l m ∧ ∀ (i : Nat) (x : Str) (v : V), F.N[i]? = some x → σ[i]? = some (some v) → Vis F.scope x → ∃ u, RelV v u ∧ Look F.env s.heap m x u
  len : σ.length = F.N.length
/-- the state s' in which it is woken, asleep since s -/
structure WK (F : ZF) (ip : List (Addr × Obj)) (s s' : Shared) (H' : Hp) (oe : Obj) : Prop where
  sz : F.l ≤ s'.heap.objs.size
  bs : ∀ b o, F.base.get? b = some o → s'.heap.get? b = some o ∧ H' b = none
  funs : s'.heap.FunFrames F.base F.outer
  frf : ∀ b ∈ frs F.outer, H' b = none
  hok : HOk F.P F.w H' s'.heap
  bare : AllBare s'.gens
  l : ∀ o, s.heap.get? F.l = some o → s'.heap.get? F.l = some o
  ln : H' F.l = none
  pin : ∀ p ∈ [F.go, (F.e, oe)] ++ ip, s'.heap.get? p.1 = some p.2 ∧ H' p.1 = none ∧ p.1 ≠ F.l ∧ p.1 ∉ frs F.outer ∧ ∀ v, p.2.data ≠ .cell v
theorem funs_trunc {h base : Heap} {L : Nat} : ∀ {l : List Env}, (∀ b ∈ frs l, b < L) → h.FunFrames base l → ({ h with objs := h.objs.extract 0 L } : Heap).FunFrames base l
  | [], _, _ => trivial
  | env :: rest, hb, hf => by
    obtain ⟨hk, ⟨b, o, hfr, hbn, ho, hd⟩, hr⟩ := hf
    have hm : frs (env :: rest) = b :: frs rest := by
      unfold frs
      rw [List.filterMap_cons, hfr]
    have hbl := hb b (by rw [hm]; exact List.mem_cons_self)
    refine ⟨hk, ⟨b, o, hfr, hbn, ?_, hd⟩, funs_trunc (fun c hc => hb c (by rw [hm]; exact List.mem_cons_of_mem _ hc)) hr⟩
    exact (trunc_get (s := { heap := h }) hbl).trans ho
theorem wake {F : ZF} {ip : List (Addr × Obj)} {σ : L2.St} {s s' : Shared} {H' : Hp} {oe : Obj} (C : Core F σ s) (nc : F.env.cells = []) (W : WK F ip s s' H' oe) : Inv (F.cx s' H' oe) ip σ H' s' := by
  have noc : ∀ x c, F.env.cells.lookup x = some c → False := fun x c h => by rw [nc] at h; cases h
  have ts := trunc_size W.sz
  refine ⟨⟨C.mod, C.kind, rfl, rfl, by show (trunc F.l s').heap.objs.size ≤ F.l; omega, fun x y c h => (noc x c h).elim, C.has, fun x c _ h => (noc x c h).elim, fun _ => C.hd, C.frames, .inr ⟨rfl, rfl⟩, fun b hb => absurd (show b ∈ ([] : List Addr) from hb) (by simp), fun b o h => ?_, by show F.base.objs.size ≤ (trunc F.l s').heap.objs.size; rw [ts]; exact C.bsz, fun b _ _ => by show b ∉ ([] : List Addr); simp, fun b hb => absurd (show b ∈ ([] : List Addr) from hb) (by simp), funs_trunc C.lt W.funs, W.frf⟩,
    rfl, W.bare, ⟨fun b o h n _ _ => (trunc_some h).2, fun b o h n _ _ => ⟨o.slots, (trunc_some h).2⟩, fun b o _ n _ => n, fun b o h _ => ⟨o, (trunc_some h).2⟩, fun _ _ h => h, fun _ _ _ h => h, fun b ps h => ⟨#[], by have h : H' b = _ := h; rw [h]; simp⟩⟩, ?_, fun x c h => (noc x c h).elim, W.ln, fun x c h => (noc x c h).elim, W.pin, W.hok, C.len⟩
  · obtain ⟨h1, h2⟩ := W.bs b o h
    exact ⟨(trunc_get (Nat.lt_of_lt_of_le (Heap.lt_size h) C.bsz)).trans h1, h2⟩
  · obtain ⟨m, ⟨o, es, ep, ho, hd, hk, hn⟩, hl⟩ := C.loc
    refine ⟨m, ⟨o, es, ep, W.l o ho, hd, hk, hn⟩, fun i x v h1 h2 h3 => ?_⟩
    obtain ⟨u, r, lk⟩ := hl i x v h1 h2 h3
    refine ⟨u, r, ?_⟩
    rcases lk with y | ⟨_, c, e, _⟩
    · exact .inl y
    · exact (noc x c e).elim
theorem Core.of {F : ZF} {ip : List (Addr × Obj)} {σ : L2.St} {s s' : Shared} {H H' : Hp} {oe : Obj} (hs : F.l ≤ s'.heap.objs.size) (I : Inv (F.cx s' H' oe) ip σ H s) : Core F σ s where
  mod := I.ok.mod
  kind := I.ok.kind
  has := I.ok.has
  hd := I.ok.hd rfl
  frames := I.ok.frames
  bsz := by
    have := I.ok.bsz
    rw [show (F.cx s' H' oe).s_0.heap.objs.size = F.l from trunc_size hs] at this
    exact this
  lt := fun b hb => by
    obtain ⟨_, o, ho, _⟩ := I.ok.funs.mem hb
    exact (trunc_some ho).1
  loc := I.loc
  len := I.len
end G48
set_option Elab.async false
set_option linter.all false
set_option maxRecDepth 100000
set_option maxHeartbeats 1000000
/-! G48K: the statements of a generator that is woken amid a for. -/
namespace G48
open PySem PySem.Spec PyProof.Rows L2 Evl GenW
/-- what is wanted behind a statement: the heap of the last waking, what is out, the names, the heap -/
structure ZEnds where
  nx : Hp → List V → L2.St → Hp → Prop
  rt : Hp → List V → VK
  bk : Hp → List V → L2.St → Hp → Prop := fun _ _ _ _ => False
  ct : Hp → List V → L2.St → Hp → Prop := fun _ _ _ _ => False
abbrev TZ := ZEnds → Hp → List V → L2.St → Hp → Prop
/-- the waking -/
def ZB (F : ZF) (ys : List V) (Hr : Hp) (oe : Obj) (s₀ : Shared) : Prop := F.l ≤ s₀.heap.objs.size ∧ F.Phi ys.length Hr s₀ ∧ s₀.heap.get? F.e = some oe
def ZY (F : ZF) : Protocol := fun n s₀ v s kap =>
  ∃ (Hr : Hp) (ys : List V) (x : V) (ip : List (Addr × Obj)) (oe : Obj) (σ : L2.St) (H : Hp), n + 1 + ys.length = sizeLine ∧ ZB F ys Hr oe s₀ ∧ RelV x v ∧ Inv (F.cx s₀ Hr oe) ip σ H s ∧ Ex Hr H ∧ F.Yd ys x H ∧ (∀ p ∈ ip, p.1 ≠ F.e) ∧
    ∀ s' H' oe', WK F ip s s' H' oe' → F.Phi (ys.length + 1) H' s' → F.Slp H H' → kap (.send .none) s'
def ZE (F : ZF) : GenEnd := NoX fun n s₀ s => ∃ (Hr : Hp) (ys : List V) (ip : List (Addr × Obj)) (oe : Obj) (σ : L2.St) (H : Hp), n + ys.length = sizeLine ∧ ZB F ys Hr oe s₀ ∧ Inv (F.cx s₀ Hr oe) ip σ H s ∧ Ex Hr H ∧ F.Q ys H
structure GZ (F : ZF) (ip : List (Addr × Obj)) (A : Around) (c : Code) (fs : List Frame) (gd : Bool → Bool) : Prop where
  ip : ∀ p ∈ ip, p.1 ≠ F.e
  over : A.over c fs = F.ar
  split : splitAtGen fs = none
  guard : fs.any Frame.guarded = false
  gd : gd false = false
def ZP (F : ZF) (ip : List (Addr × Obj)) (D : ZEnds) (Hr : Hp) (oe : Obj) (s₀ : Shared) (ys : List V) (f : Flow) (s : Shared) : Prop :=
  match f with
  | .next => ∃ σ H, Inv (F.cx s₀ Hr oe) ip σ H s ∧ D.nx Hr ys σ H
  | .brk => ∃ σ H, Inv (F.cx s₀ Hr oe) ip σ H s ∧ D.bk Hr ys σ H
  | .cont => ∃ σ H, Inv (F.cx s₀ Hr oe) ip σ H s ∧ D.ct Hr ys σ H
  | .ret u => ∃ v σ H, Inv (F.cx s₀ Hr oe) ip σ H s ∧ RelV v u ∧ D.rt Hr ys v H
abbrev KZ (F : ZF) (ip : List (Addr × Obj)) (A : Around) (R : GenEnd) (c : Code) (fs : List Frame) (Kf : Flow → Sem PySem.Fin) (D : ZEnds) : Prop :=
  ∀ (n : Nat) (ys : List V) (s₀ s : Shared) (f : Flow) (Hr : Hp) (oe : Obj), n + ys.length = sizeLine → ZB F ys Hr oe s₀ → ZP F ip D Hr oe s₀ ys f s → Seg (model F.P F.w) A R (ZY F) n s₀ c (Kf f) fs s
structure ZS (F : ZF) (st : Stmt) (t : TZ) : Prop where
  run : ∀ (A : Around) (ip : List (Addr × Obj)) (R : GenEnd) (n : Nat) (ys : List V) (s₀ : Shared) (c : Code) (fs : List Frame) (Kf : Flow → Sem PySem.Fin) (J : Value → Sem PySem.Fin) (gd : Bool → Bool) (lv : List Value → List Value) (s : Shared) (σ : L2.St) (H Hr : Hp) (oe : Obj) (D : ZEnds),
    GZ F ip A c fs gd → n + ys.length = sizeLine → ZB F ys Hr oe s₀ → KZ F ip A R c fs Kf D → Inv (F.cx s₀ Hr oe) ip σ H s → t D Hr ys σ H →
    Seg (model F.P F.w) A R (ZY F) n s₀ c ((exec st F.env).wrap Kf J gd lv) fs s
structure ZSs (F : ZF) (st : List Stmt) (t : TZ) : Prop where
  run : ∀ (A : Around) (ip : List (Addr × Obj)) (R : GenEnd) (n : Nat) (ys : List V) (s₀ : Shared) (c : Code) (fs : List Frame) (Kf : Flow → Sem PySem.Fin) (J : Value → Sem PySem.Fin) (gd : Bool → Bool) (lv : List Value → List Value) (s : Shared) (σ : L2.St) (H Hr : Hp) (oe : Obj) (D : ZEnds),
    GZ F ip A c fs gd → n + ys.length = sizeLine → ZB F ys Hr oe s₀ → KZ F ip A R c fs Kf D → Inv (F.cx s₀ Hr oe) ip σ H s → t D Hr ys σ H →
    Seg (model F.P F.w) A R (ZY F) n s₀ c ((execs st F.env).wrap Kf J gd lv) fs s
section
variable {F : ZF} {st : Stmt} {rest : List Stmt}
def tzPlain (t : TS) : TZ := fun D Hr ys σ H => t { nx := D.nx Hr ys, rt := D.rt Hr ys, bk := D.bk Hr ys, ct := D.ct Hr ys } σ H
/-- any waking: readings do not hang on it -/
abbrev Aw (α : Type) : Type := Shared → Hp → Obj → α
def o00 : Obj := { cls := .none, data := .fields #[] }
theorem zs_ps {t : Aw TS} (h : ∀ s H oe, PS (F.cx s H oe) st (t s H oe)) (e : ∀ s H oe, t s H oe = t {} (fun _ => none) o00 := by intros; rfl) : ZS F st (tzPlain (t {} (fun _ => none) o00)) := by
  have h : ∀ s H oe, PS (F.cx s H oe) st (t {} (fun _ => none) o00) := fun s H oe => by rw [← e s H oe]; exact h s H oe
  clear e
  generalize t {} (fun _ => none) o00 = t at h ⊢
  refine ⟨fun A ip R n ys s₀ c fs Kf J gd lv s σ H Hr oe D g hn hb k I ht => seg_wrap ?_⟩
  rw [g.over]
  refine wpAny_mono ((h s₀ Hr oe).run _ s σ H _ I ht) (fun f s' hs => k n ys s₀ s' f Hr oe hn hb ?_) fun x s' hx => False.elim hx
  cases f with
  | next => exact hs
  | brk => exact hs
  | cont => exact hs
  | ret u =>
    obtain ⟨v, σ, H, I, r, q⟩ := hs
    exact ⟨v, σ, H, I, r, q⟩
def tz0 : TZ := fun D Hr ys σ H => D.nx Hr ys σ H
theorem zss_nil : ZSs F [] tz0 :=
  ⟨fun A ip R n ys s₀ c fs Kf J gd lv s σ H Hr oe D g hn hb k I ht => seg_execs_nil (k n ys s₀ s .next Hr oe hn hb ⟨σ, H, I, ht⟩)⟩
def tzThen (t u : TZ) : TZ := fun D Hr ys σ H => t { D with nx := fun Hr' ys' σ' H' => u D Hr' ys' σ' H' } Hr ys σ H
theorem zss_cons {t u : TZ} (a : ZS F st t) (b : ZSs F rest u) : ZSs F (st :: rest) (tzThen t u) := by
  refine ⟨fun A ip R n ys s₀ c fs Kf J gd lv s σ H Hr oe D g hn hb k I ht => seg_execs_cons ?_⟩
  refine a.run A ip R n ys s₀ c fs _ J gd lv s σ H Hr oe _ g hn hb (fun n' ys' s₀' s' f Hr' oe' hn' hb' hs => ?_) I ht
  cases f with
  | next =>
    obtain ⟨σ', H', I', q⟩ := hs
    exact b.run A ip R n' ys' s₀' c fs Kf J gd lv s' σ' H' Hr' oe' D g hn' hb' k I' q
  | brk => exact k n' ys' s₀' s' .brk Hr' oe' hn' hb' hs
  | cont => exact k n' ys' s₀' s' .cont Hr' oe' hn' hb' hs
  | ret u => exact k n' ys' s₀' s' (.ret u) Hr' oe' hn' hb' hs
/-- a loop's code over the frame that it came from -/
theorem gz_loop {ip : List (Addr × Obj)} {A : Around} {c c' : Code} {fs : List Frame} {gd : Bool → Bool} {k : Result → Sem PySem.Fin} {l kp : List Value} {p : Pos} (g : GZ F ip A c fs gd) (hw : c'.weight = 0) (hu : c'.cUnits = 0) : GZ F ip A c' (.ret k none (gd false) l c p kp :: fs) id where
  ip := g.ip
  over := (over_loop hw hu).trans g.over
  split := by
    show (splitAtGen fs).map _ = none
    rw [g.split]
    rfl
  guard := by
    show (gd false || fs.any Frame.guarded) = false
    rw [g.gd, g.guard]
    rfl
  gd := rfl
def tzWhile (c : TT) (tb : TZ) : TZ := fun D Hr ys σ H => ∃ W : Nat → Hp → List V → L2.St → Hp → Prop, (∃ m, W m Hr ys σ H) ∧ ∀ m Hr ys σ H, W m Hr ys σ H →
  c σ H fun b H1 => if b = true then ∃ N : Hp → List V → L2.St → Hp → Prop, (∀ Hr' ys' σ' H', N Hr' ys' σ' H' → ∃ m', m' < m ∧ W m' Hr' ys' σ' H') ∧ tb { D with nx := N, ct := N, bk := D.nx } Hr ys σ H1 else D.nx Hr ys σ H1
theorem zs_while {test : Expr} {body : List Stmt} {pos : Pos} {tc : Aw TT} {tb : TZ} (hc : ∀ s H oe, PT (F.cx s H oe) test (tc s H oe)) (hb : ZSs F body tb) (e : ∀ s H oe, tc s H oe = tc {} (fun _ => none) o00 := by intros; rfl) : ZS F (.While test body [] pos) (tzWhile (tc {} (fun _ => none) o00) tb) := by
  have hc : ∀ s H oe, PT (F.cx s H oe) test (tc {} (fun _ => none) o00) := fun s H oe => by rw [← e s H oe]; exact hc s H oe
  clear e
  generalize tc {} (fun _ => none) o00 = tc at hc ⊢
  refine ⟨fun A ip R n ys s₀ c fs Kf J gd lv s σ H Hr oe D g hn hw k I ht => ?_⟩
  obtain ⟨W, ⟨m0, w0⟩, turn⟩ := ht
  refine seg_While fun p => ?_
  have gl := fun (kk : Result → Sem PySem.Fin) => gz_loop (k := kk) (c' := .whileLoop test body [] F.env) (l := lv []) (kp := []) (p := p) g rfl rfl
  have loop : ∀ (m n : Nat) (ys : List V) (s₀ s : Shared) (σ : L2.St) (H Hr : Hp) (oe : Obj), n + ys.length = sizeLine → ZB F ys Hr oe s₀ → W m Hr ys σ H → Inv (F.cx s₀ Hr oe) ip σ H s →
      Seg (model F.P F.w) A R (ZY F) n s₀ (.whileLoop test body [] F.env) ((model F.P F.w).den (.whileLoop test body [] F.env))
        (.ret (fun r => ((match r with | .ok f => (.pure f : Sem Flow) | .error e => .raise e).onRaise (cameBack F.env)).wrap Kf J gd lv) none (gd false) (lv []) c p [] :: fs) s := by
    intro m
    induction m using Nat.strongRecOn with
    | ind m ih =>
      intro n ys s₀ s σ H Hr oe hn hw w I
      refine seg_whileLoop ?_
      rw [(gl _).over]
      refine wpAny_mono ((hc s₀ Hr oe).run _ s σ H _ I (turn m Hr ys σ H w)) (fun b s' hb' => ?_) fun x s' hx => False.elim hx
      obtain ⟨H2, I2, q2⟩ := hb'
      cases b with
      | true =>
        obtain ⟨N, hN, q2⟩ := q2
        rw [if_pos rfl]
        refine hb.run A ip R n ys s₀ _ _ _ _ id id s' σ H2 Hr oe { D with nx := N, ct := N, bk := D.nx } (gl _) hn hw (fun n' ys' s₀' s3 f Hr' oe' hn' hw' hs => ?_) I2 q2
        cases f with
        | next =>
          obtain ⟨σ3, H3, I3, n3⟩ := hs
          obtain ⟨m', hm, w3⟩ := hN Hr' ys' σ3 H3 n3
          exact seg_again rfl (ih m' hm n' ys' s₀' s3 σ3 H3 Hr' oe' hn' hw' w3 I3)
        | cont =>
          obtain ⟨σ3, H3, I3, n3⟩ := hs
          obtain ⟨m', hm, w3⟩ := hN Hr' ys' σ3 H3 n3
          exact seg_again rfl (ih m' hm n' ys' s₀' s3 σ3 H3 Hr' oe' hn' hw' w3 I3)
        | brk => exact seg_leaf (.ok .next) (k n' ys' s₀' s3 .next Hr' oe' hn' hw' hs)
        | ret v => exact seg_leaf (.ok (.ret v)) (k n' ys' s₀' s3 (.ret v) Hr' oe' hn' hw' hs)
      | false =>
        rw [if_neg Bool.false_ne_true]
        exact seg_execs_nil (seg_leaf (.ok .next) (k n ys s₀ s' .next Hr oe hn hw ⟨σ, H2, I2, q2⟩))
  exact loop m0 n ys s₀ s σ H Hr oe hn hw w0 I
/-- Yd is shown of what is handed out; behind the sleep nothing but Slp is known of the heap -/
def tzYield (F : ZF) (te : TE) : TZ := fun D Hr ys σ H => ys.length < sizeLine ∧ te σ H fun x H1 => Ex Hr H1 ∧ F.Yd ys x H1 ∧ ∀ H2, F.Slp H1 H2 → D.nx H2 (ys ++ [x]) σ H2
theorem zs_yield {e : Expr} {yp pos : Pos} {te : Aw TE} (nc : F.env.cells = []) (he : ∀ s H oe, PE (F.cx s H oe) e (te s H oe)) (ee : ∀ s H oe, te s H oe = te {} (fun _ => none) o00 := by intros; rfl) (hco : F.env.scope.isCoroutine = false := by rfl) (hi : interactive F.env = false := by rfl) : ZS F (.Expr (.Yield (some e) yp) pos) (tzYield F (te {} (fun _ => none) o00)) := by
  have he : ∀ s H oe, PE (F.cx s H oe) e (te {} (fun _ => none) o00) := fun s H oe => by rw [← ee s H oe]; exact he s H oe
  clear ee
  generalize te {} (fun _ => none) o00 = te at he ⊢
  refine ⟨fun A ip R n ys s₀ c fs Kf J gd lv s σ H Hr oe D g hn hw k I ht => ?_⟩
  obtain ⟨hlt, ht⟩ := ht
  obtain ⟨n, rfl⟩ : ∃ m, n = m + 1 := ⟨n - 1, by omega⟩
  refine seg_Expr_Yield g.split g.gd g.guard ?_ hco hi
  rw [g.over]
  refine wpAny_mono ((he s₀ Hr oe).run _ s σ H _ I ht) (fun v s' hv => ?_) fun x s' hx => False.elim hx
  obtain ⟨x, H1, I1, rv, hx1, hx2, q⟩ := hv
  intro kap hk
  refine ⟨Hr, ys, x, ip, oe, σ, H1, hn, hw, rv, I1, hx1, hx2, g.ip, fun s'' H'' oe' wk hP hS => hk .none s'' ?_⟩
  have el : (ys ++ [x]).length = ys.length + 1 := by rw [List.length_append]; rfl
  exact k n (ys ++ [x]) s'' s'' .next H'' oe' (by rw [el]; omega) ⟨wk.sz, by rw [el]; exact hP, (wk.pin (F.e, oe') (List.mem_append_left _ (List.mem_cons_of_mem _ List.mem_cons_self))).1⟩ ⟨σ, H'', wake (Core.of hw.1 I1) nc wk, q H'' hS⟩
def tzFor (wi : TI) (g : TG) (tb : TZ) : TZ := fun D Hr ys σ H => wi σ H fun J H1 => ∃ W : Nat → Nat → Hp → List V → L2.St → Hp → Prop, (∃ m, W 0 m Hr ys σ H1) ∧ ∀ i m Hr ys σ H, W i m Hr ys σ H →
  (J.stop i H ∧ D.nx Hr ys σ H) ∨ (J.go i H ∧ ∃ N : Hp → List V → L2.St → Hp → Prop, (∀ Hr' ys' σ' H', N Hr' ys' σ' H' → ∃ m', m' < m ∧ W (i + 1) m' Hr' ys' σ' H') ∧ ∀ x H', J.yld i H x H' → g x σ H' fun σ2 H2 => tb { D with nx := N, ct := N, bk := D.nx } Hr ys σ2 H2)
theorem zs_for {tg iter : Expr} {body : List Stmt} {wi : Aw TI} {g : Aw TG} {tb : TZ} {pos : Pos} (hi : ∀ s H oe, PI (F.cx s H oe) tg iter (wi s H oe)) (hg : ∀ s H oe, PG (F.cx s H oe) tg (g s H oe)) (hb : ZSs F body tb) (e1 : ∀ s H oe, wi s H oe = wi {} (fun _ => none) o00 := by intros; rfl) (e2 : ∀ s H oe, g s H oe = g {} (fun _ => none) o00 := by intros; rfl)
    (hs : ∀ x, foldedSetIterable iter F.env x = pure x := by intro _; rfl) : ZS F (.For tg iter body [] pos) (tzFor (wi {} (fun _ => none) o00) (g {} (fun _ => none) o00) tb) := by
  have hi : ∀ s H oe, PI (F.cx s H oe) tg iter (wi {} (fun _ => none) o00) := fun s H oe => by rw [← e1 s H oe]; exact hi s H oe
  have hg : ∀ s H oe, PG (F.cx s H oe) tg (g {} (fun _ => none) o00) := fun s H oe => by rw [← e2 s H oe]; exact hg s H oe
  clear e1 e2
  generalize wi {} (fun _ => none) o00 = wi at hi ⊢
  generalize g {} (fun _ => none) o00 = g at hg ⊢
  refine ⟨fun A ip R n ys s₀ c fs Kf J gd lv s σ H Hr oe D gz hn hw k I ht => ?_⟩
  rw [exec_For]
  refine seg_bind_wrap (wpAny_standAt ?_)
  refine seg_bind_wrap ?_
  rw [gz.over]
  refine wpAny_mono ((hi s₀ Hr oe).run _ s σ H _ I ht) (fun v s1 h1 => ?_) fun x s' hx => False.elim hx
  refine seg_bind_wrap (wpAny_of_eq (hs v) ?_)
  refine seg_bind_wrap (wpAny_standAt ?_)
  refine seg_bind_wrap (wpAny_holding ?_)
  rw [gz.over]
  refine wpAny_mono h1 (fun itv s2 h2 => ?_) fun x s' hx => False.elim hx
  obtain ⟨it, fp, tn, It, H2, e, I2, T, st2, f2, W, ⟨m0, w0⟩, turn⟩ := h2
  have fne : ∀ b ∈ fp, b ≠ F.e := fun b hb => Ne.symm ((f2 b hb).2.2.2.2.2 (F.e, oe) (List.mem_append_left _ (List.mem_cons_of_mem _ List.mem_cons_self)))
  subst e
  refine seg_call fun p => ?_
  have gl := fun (kk : Result → Sem PySem.Fin) => gz_loop (k := kk) (c' := .forLoop tg (.ref it) body [] F.env) (l := lv []) (kp := []) (p := p) gz rfl rfl
  have stat : ∀ {s₀' : Shared} {Hr' H' : Hp} {oe' : Obj}, F.l ≤ s₀'.heap.objs.size → (∀ b ∈ fp, H' b = none) → ∀ b ∈ fp, FpOk (F.cx s₀' Hr' oe') ip H' b := fun {s₀' Hr' H' oe'} hs' hn b hb => by
    obtain ⟨q0, q1, q2, q3, q4, q5⟩ := f2 b hb
    refine ⟨hn b hb, q1, q2, .inr ?_, q4, fun p hp => ?_⟩
    · rcases q3 with z | z
      · exact absurd (show b ∈ ([] : List Addr) from z) (by simp)
      · show (trunc F.l s₀').heap.objs.size ≤ b
        rw [trunc_size hs']
        rw [show (F.cx s₀ Hr oe).s_0.heap.objs.size = F.l from trunc_size hw.1] at z
        exact z
    · rcases List.mem_append.mp hp with z | z
      · rcases List.mem_cons.mp z with z | z
        · rw [z]; exact q5 F.go (List.mem_append_left _ List.mem_cons_self)
        · rw [List.mem_singleton.mp z]; exact q5 (F.e, oe) (List.mem_append_left _ (List.mem_cons_of_mem _ List.mem_cons_self))
      · exact q5 p (List.mem_append_right _ z)
  have loop : ∀ (m i n : Nat) (ys : List V) (s₀ s : Shared) (σ : L2.St) (H Hr : Hp) (oe : Obj), n + ys.length = sizeLine → ZB F ys Hr oe s₀ → W i m Hr ys σ H → Inv (F.cx s₀ Hr oe) ip σ H s → tn i s.heap → (∀ b ∈ fp, H b = none) →
      Seg (model F.P F.w) A R (ZY F) n s₀ (.forLoop tg (.ref it) body [] F.env) ((model F.P F.w).den (.forLoop tg (.ref it) body [] F.env))
        (.ret (fun r => ((match r with | .ok f => (.pure f : Sem Flow) | .error e => .raise e).onRaise (cameBack F.env)).wrap Kf J gd lv) none (gd false) (lv []) c p [] :: fs) s := by
    intro m
    induction m using Nat.strongRecOn with
    | ind m ih =>
      intro i n ys s₀ s σ H Hr oe hn hw w I st3 fr3
      refine seg_forLoopG ?_
      rw [(gl _).over]
      rcases turn i m Hr ys σ H w with ⟨stop, qn⟩ | ⟨go, N, hN, step⟩
      · refine wpAny_mono (T.done (F.cx s₀ Hr oe) rfl rfl rfl rfl i _ s σ H (fun _ _ => False) I (stat hw.1 fr3) st3 stop) (fun r0 s4 ⟨hr, I4⟩ => ?_) fun x s' hx => False.elim hx
        subst hr
        refine seg_again rfl ?_
        show Seg _ _ _ _ n s₀ _ ((execs [] F.env).onRaise _ >>= fun f => (pure (.done f) : Sem PySem.Fin)) _ _
        exact seg_leaf (.ok .next) (k n ys s₀ s4 .next Hr oe hn hw ⟨σ, H, I4, qn⟩)
      · refine wpAny_mono (T.item (F.cx s₀ Hr oe) rfl rfl rfl rfl i _ s σ H (fun _ _ => False) I (stat hw.1 fr3) st3 go) (fun r0 s4 ⟨u, hr, h4⟩ => ?_) fun x s' hx => False.elim hx
        subst hr
        refine wpAny_mono h4 (fun _ s5 ⟨x, H5, I5, r5, y5, st5, fr5⟩ => ?_) fun x s' hx => False.elim hx
        have I5' := I5.pinned (stat hw.1 fr5) (T.obj _ _ st5)
        refine wpAny_mono ((hg s₀ Hr oe).run _ s5 σ H5 x u _ I5' r5 (step x H5 y5)) (fun _ s6 ⟨σ6, H6, I6, q6⟩ => ?_) fun x s' hx => False.elim hx
        have gl' := gl fun r => ((match r with | .ok f => (.pure f : Sem Flow) | .error e => .raise e).onRaise (cameBack F.env)).wrap Kf J gd lv
        have gC : GZ F (ip ++ pinsAt fp s5.heap) A (.forLoop tg (.ref it) body [] F.env) (.ret (fun r => ((match r with | .ok f => (.pure f : Sem Flow) | .error e => .raise e).onRaise (cameBack F.env)).wrap Kf J gd lv) none (gd false) (lv []) c p [] :: fs) id :=
          ⟨fun q hq => (List.mem_append.mp hq).elim (fun z => gz.ip q z) fun z => fne q.1 (of_pinsAt z).1, gl'.over, gl'.split, gl'.guard, gl'.gd⟩
        refine hb.run A (ip ++ pinsAt fp s5.heap) R n ys s₀ _ _ _ _ id id s6 σ6 H6 Hr oe { D with nx := N, ct := N, bk := D.nx } gC hn hw (fun n' ys' s₀' s7 f Hr' oe' hn' hw' hs => ?_) I6 q6
        have again : ∀ {σ7 : L2.St} {H7 : Hp}, Inv (F.cx s₀' Hr' oe') (ip ++ pinsAt fp s5.heap) σ7 H7 s7 → N Hr' ys' σ7 H7 → Seg (model F.P F.w) A R (ZY F) n' s₀' (.forLoop tg (.ref it) body [] F.env) (.pure (.again (.forLoop tg (.ref it) body [] F.env)))
            (.ret (fun r => ((match r with | .ok f => (.pure f : Sem Flow) | .error e => .raise e).onRaise (cameBack F.env)).wrap Kf J gd lv) none (gd false) (lv []) c p [] :: fs) s7 := fun {σ7 H7} I7 n7 => by
          obtain ⟨m', hm, w7⟩ := hN Hr' ys' σ7 H7 n7
          refine seg_again rfl (ih m' hm (i + 1) n' ys' s₀' s7 σ7 H7 Hr' oe' hn' hw' w7 I7.unpinned ?_ ?_)
          · exact T.keep _ _ _ st5 fun b hb o e => (I7.pin (b, o) (List.mem_append_right _ (List.mem_append_right _ (mem_pinsAt hb e)))).1
          · intro b hb
            obtain ⟨o, e, d⟩ := T.obj _ _ st5 b hb
            exact (I7.pin (b, o) (List.mem_append_right _ (List.mem_append_right _ (mem_pinsAt hb e)))).2.1
        cases f with
        | next => obtain ⟨σ7, H7, I7, n7⟩ := hs; exact again I7 n7
        | cont => obtain ⟨σ7, H7, I7, n7⟩ := hs; exact again I7 n7
        | brk => obtain ⟨σ7, H7, I7, q7⟩ := hs; exact seg_leaf (.ok .next) (k n' ys' s₀' s7 .next Hr' oe' hn' hw' ⟨σ7, H7, I7.unpinned, q7⟩)
        | ret v => obtain ⟨x7, σ7, H7, I7, r7, q7⟩ := hs; exact seg_leaf (.ok (.ret v)) (k n' ys' s₀' s7 (.ret v) Hr' oe' hn' hw' ⟨x7, σ7, H7, I7.unpinned, r7, q7⟩)
  exact loop m0 0 n ys s₀ s2 σ H2 Hr oe hn hw w0 I2 st2 fun b hb => (f2 b hb).1
end
end G48
set_option Elab.async false
set_option linter.all false
set_option maxRecDepth 100000
set_option maxHeartbeats 1000000
/-! G48F: for index, item in enumerate(f(..)), f a generator def. -/
namespace G48
open PySem PySem.Spec PyProof.Rows L2 Evl GenW
section
variable {prog : Program} {w : World} {A : Around} {E : Value → Shared → Prop} {s : Shared}
/-- enumerate's next over a generator -/
theorem next_enum_gen {e a : Addr} {g n : Nat} {gs : GenState} {i : Int} {old : Value} {Fe : Nat → Shared → Shared → Prop} {Y : Protocol} {Q : Option Value → Shared → Prop} (hh : A.handled = none) (hl : s.heap.NoLimit) (hroom : A.depth < recursionLimit)
    (he : IsEnum s.heap e a i old) (hg : s.heap.IsGen a g) (hgs : s.gens[g]? = some gs) (hgo : gs.Goes (model prog w) A.in1.in1 (NoX Fe) Y n (.send .none) (s.setGen g .running))
    (hY : ∀ v s₁ k₀ l₀ c₀ p₀ fs, g < s₁.gens.size → Y (n - 1) (s.setGen g .running) v s₁ (fun r' s'' => match n with | 0 => False | m + 1 => (GenState.suspended k₀ l₀ c₀ p₀ fs false).Goes (model prog w) A.in1.in1 (NoX Fe) Y m r' s'') → IsEnum s₁.heap e a i old ∧
      ∀ h', IsEnumOut h' e a (i + 1) v s₁.heap.objs.size → h'.get? s₁.heap.objs.size = some { cls := .type "tuple", data := .seq #[.int i s₁.toks, v] } → (∀ b o, b ≠ e → s₁.heap.get? b = some o → h'.get? b = some o) →
        Q (some (.ref s₁.heap.objs.size)) { s₁.setGen g (.suspended k₀ l₀ c₀ p₀ fs false) with heap := h', toks := s₁.toks + 1 })
    (hP : ∀ s₁, Fe n (s.setGen g .running) s₁ → ∀ h', (∀ b o, s₁.heap.get? b = some o → h'.get? b = some o) → Q none { s₁.setGen g .finished with heap := h' }) :
    wpAny (model prog w) A (pyNext (.ref e)) Q E s := by
  have hT : s.TypeIs (.ref e) "enumerate" := ⟨_, he, rfl⟩
  unfold pyNext
  refine wpAny_bind (wpAny_attempt (wpAny_callSpecial?_slot (name := Str.ofString "__next__") hT F.slot_enumerate_next (wpAny_call_entry F.slot_enumerate_next hT F.entry_enumerate_next ?_ (F.args_enumerate_next_1 _))))
  show wpAny _ _ (field (.ref e) 2 >>= _) _ _ _
  refine wpAny_bind (wpAny_field he rfl (x := .ref a) rfl ?_)
  refine wpAny_bind (nextOf_gen (A := A.in1) hh hl hroom hg hgs hgo (fun v s₁ k₀ l₀ c₀ p₀ fs hz hv => ?_) fun s₁ hp h' e' hk hx => ?_)
  · obtain ⟨he1, hQ⟩ := hY v s₁ k₀ l₀ c₀ p₀ fs hz hv
    obtain ⟨h1, g1, d1, tk, os1⟩ := s₁
    have he1 : IsEnum h1 e a i old := he1
    show wpAny _ _ (field (.ref e) 3 >>= _) _ _ ⟨h1, _, d1, tk, os1⟩
    refine wpAny_bind (wpAny_field he1 rfl (x := rawInt i) rfl ?_)
    show wpAny _ _ (field (.ref e) 4 >>= _) _ _ ⟨h1, _, d1, tk, os1⟩
    refine wpAny_bind (wpAny_field he1 rfl (x := .none) rfl ?_)
    show wpAny _ _ (mkInt i >>= _) _ _ ⟨h1, _, d1, tk, os1⟩
    refine wpAny_bind (wpAny_mkInt ?_)
    show wpAny _ _ (setField (.ref e) 3 (rawInt (i + 1)) >>= _) _ _ ⟨h1, _, d1, tk + 1, os1⟩
    refine wpAny_bind (wpAny_setField_rec he1 (by simp) fun h2 he2 s2 => ?_)
    have s2 : Heap.SameBut e h1 h2 := s2
    have he2 : IsEnum h2 e a (i + 1) old := he2
    show wpAny _ _ (setField (.ref e) 4 .none >>= _) _ _ ⟨h2, _, d1, tk + 1, os1⟩
    refine wpAny_bind (wpAny_setField_rec he2 (by simp) fun h3 he3 s3 => ?_)
    have s3 : Heap.SameBut e h2 h3 := s3
    have he3 : IsEnum h3 e a (i + 1) old := he3
    show wpAny _ _ (newTuple [.int i tk, v] >>= _) _ _ ⟨h3, _, d1, tk + 1, os1⟩
    refine wpAny_bind (wpAny_newTuple ?_)
    have z3 : h3.objs.size = h1.objs.size := by rw [s3.1, s2.1]
    have e1 : e < h1.objs.size := Heap.lt_size he1
    have k3 : ∀ b o, b ≠ e → h1.get? b = some o → (h3.push { cls := .type "tuple", data := .seq #[.int i tk, v] }).get? b = some o := fun b o hb x => Heap.get?_push_of_some _ (s3.extBut b o hb (s2.extBut b o hb x))
    have t3 : (h3.push { cls := .type "tuple", data := .seq #[.int i tk, v] }).get? h1.objs.size = some { cls := .type "tuple", data := .seq #[.int i tk, v] } := by rw [← z3]; exact Heap.get?_push_size _ rfl
    have he4 : IsEnum (h3.push { cls := .type "tuple", data := .seq #[.int i tk, v] }) e a (i + 1) old := Heap.get?_push_of_some _ he3
    show wpAny _ _ (Builtin.SmallTypes.ownedTupleIsFree (.ref e) >>= _) _ _ ⟨h3.push _, _, d1, tk + 1, os1⟩
    rw [z3]
    generalize h3.push { cls := .type "tuple", data := .seq #[.int i tk, v] } = h4 at k3 t3 he4
    refine wpAny_bind ?_
    unfold Builtin.SmallTypes.ownedTupleIsFree
    refine wpAny_bind (wpAny_field he4 rfl (x := .none) rfl (wpAny_pure ?_))
    simp only [if_true]
    refine wpAny_bind (wpAny_rule ?_)
    refine wpAny_bind (wpAny_field he4 rfl (x := old) rfl ?_)
    refine wpAny_bind (wpAny_setField_rec he4 (by simp) fun h5 he5 s5 => ?_)
    have s5 : Heap.SameBut e h4 h5 := s5
    have he5 : IsEnum h5 e a (i + 1) v := he5
    show wpAny _ _ (Builtin.SmallTypes.ownedTupleHandOut (.ref e) (.ref h1.objs.size) >>= _) _ _ ⟨h5, _, d1, tk + 1, os1⟩
    refine wpAny_bind ?_
    unfold Builtin.SmallTypes.ownedTupleHandOut
    refine wpAny_bind (wpAny_setField_rec he5 (by simp) fun h6 he6 s6 => ?_)
    have s6 : Heap.SameBut e h5 h6 := s6
    have he6 : IsEnumOut h6 e a (i + 1) v h1.objs.size := he6
    refine wpAny_setField_rec he6 (by simp) fun h7 he7 s7 => ?_
    have s7 : Heap.SameBut e h6 h7 := s7
    have he7 : IsEnumOut h7 e a (i + 1) v h1.objs.size := he7
    have k7 : ∀ b o, b ≠ e → h4.get? b = some o → h7.get? b = some o := fun b o hb x => s7.extBut b o hb (s6.extBut b o hb (s5.extBut b o hb x))
    exact wpAny_bind (wpAny_letGo (wpAny_pure ⟨_, rfl, wpAny_pure (hQ h7 he7 (k7 _ _ (Nat.ne_of_gt e1) t3) fun b o hb x => k7 b o hb (k3 b o hb x))⟩))
  · obtain ⟨o, ho, hc⟩ := hx
    refine wpAny_bind (wpAny_isInstance (T := "StopIteration") (b := true) ⟨o, ho, hc⟩ isSubtype_stop ?_)
    exact wpAny_pure (hP s₁ hp h' hk)
end
section
variable {X : Cx} {pins : List (Addr × Obj)} {σ : L2.St} {H : Hp} {s : Shared}
theorem Inv.gens' {G : Array GenState} (I : Inv X pins σ H s) (b : AllBare G) : Inv X pins σ H { s with gens := G } :=
  ⟨I.ok, I.os, b, I.base, I.loc, I.cell, I.free, I.freeC, I.pin, I.hok, I.len⟩
/-- the consumer's own condition behind a run of the generator: sc: the generator was called there -/
theorem back {F : ZF} {ip : List (Addr × Obj)} {σg : L2.St} {Hr H1 Hc : Hp} {oe : Obj} {s₀ s₁ sc : Shared} {σc : L2.St} (Ic : Inv X pins σc Hc sc) (hl : sc.heap.objs.size = F.l) (hP : F.P = X.prog) (hw : F.w = X.w) (ho : F.outer = X.stack)
    (I : Inv X pins σ Hr s₀) (hz : F.l ≤ s₀.heap.objs.size) (Ig : Inv (F.cx s₀ Hr oe) ip σg H1 s₁) : Inv X pins σ H1 s₁ := by
  have u : Un (frs F.outer) [] Hr H1 (trunc F.l s₀).heap s₁.heap := Ig.base
  rw [ho] at u
  have tg : ∀ {b : Addr} {o : Obj}, b < F.l → s₀.heap.get? b = some o → (trunc F.l s₀).heap.get? b = some o := fun hb h => (trunc_get hb).trans h
  have ltc : ∀ {b : Addr} {o : Obj}, sc.heap.get? b = some o → b < F.l := fun h => by rw [← hl]; exact Heap.lt_size h
  have lt0 : ∀ {b : Addr} {o : Obj}, X.s_0.heap.get? b = some o → b < F.l := fun h => by
    rw [← hl]
    exact Nat.lt_of_lt_of_le (Heap.lt_size h) Ic.sz
  have locL : X.env.locals < F.l := by rw [← hl]; exact Ic.lt
  have ne : ∀ b : Addr, b ∉ ([] : List Addr) := fun b => by simp
  have fsub : ∀ {b : Addr}, b ∈ frs X.stack → b ∈ X.fs ∨ b = X.env.locals := fun {b} hb => by
    rcases I.ok.stk with e | ⟨e, e2⟩
    · rw [e] at hb; exact .inl hb
    · rw [e] at hb
      unfold frs at hb
      rw [List.filterMap_cons, e2] at hb
      rcases List.mem_cons.mp hb with z | z
      · exact .inr z
      · exact .inl z
  have fsup : ∀ {b : Addr}, b ∈ X.fs → b ∈ frs X.stack := fun {b} hb => by
    rcases I.ok.stk with e | ⟨e, e2⟩
    · rw [e]; exact hb
    · rw [e]
      unfold frs
      rw [List.filterMap_cons, e2]
      exact List.mem_cons_of_mem _ hb
  have any : ∀ {b : Addr} {o : Obj}, b < F.l → s₀.heap.get? b = some o → Hr b = none → ∃ sl, s₁.heap.get? b = some { o with slots := sl } := fun hb h n => u.any (tg hb h) n (ne _)
  have cellL : ∀ {x : Str} {c : Addr} {v : Option Value}, X.env.cells.lookup x = some c → s₀.heap.IsCell c v → s₁.heap.IsCell c v := fun {x c v} e ⟨o, hoc, hd⟩ => by
    obtain ⟨v', q⟩ := Ic.cell x c e
    obtain ⟨o', ho', _⟩ := q
    obtain ⟨sl, q⟩ := any (ltc ho') hoc (I.freeC x c e)
    exact ⟨_, q, hd⟩
  refine ⟨I.ok, ?_, Ig.bare, ⟨fun b o h n hf hx => ?_, fun b o h n hf hx => ?_, fun b o h n hx => ?_, fun b o h hx => ?_, fun b xs h => u.tups b xs (I.base.tups b xs h), fun b o x h => u.frzs b o x (I.base.frzs b o x h), fun b ps h => ?_⟩, ?_, fun x c e => ?_, ?_, fun x c e => ?_, fun p hp => ?_, ?_, I.len⟩
  · have h1 : s₁.os = s₀.os := Ig.os
    rw [h1]
    exact I.os
  · have neL : b ≠ X.env.locals := Nat.ne_of_lt (Nat.lt_of_lt_of_le (Heap.lt_size h) I.ok.above)
    exact u.keep b o (tg (lt0 h) (I.base.keep b o h n hf hx)) (I.base.free b o h n hx) (fun z => (fsub z).elim hf neL) (ne b)
  · obtain ⟨sl, h1⟩ := I.base.slot b o h n hf hx
    obtain ⟨sl2, h2⟩ := any (lt0 h) h1 (I.base.free b o h n hx)
    exact ⟨sl2, h2⟩
  · obtain ⟨o', h1⟩ := I.base.there b o h hx
    exact u.free b o' (tg (lt0 h) h1) (I.base.free b o h n hx) (ne b)
  · obtain ⟨o', h1⟩ := I.base.there b o h hx
    exact u.there b o' (tg (lt0 h) h1) (ne b)
  · obtain ⟨m1, h1⟩ := I.base.tbls b ps h
    obtain ⟨m2, h2⟩ := u.tbls b _ h1
    exact ⟨m1 ++ m2, by rw [h2, Array.append_assoc]⟩
  · obtain ⟨m, ⟨o, es, ep, hob, hd, hk, hn⟩, hlk⟩ := I.loc
    obtain ⟨sl, q⟩ := any locL hob I.free
    refine ⟨m, ⟨_, es, ep, q, hd, hk, hn⟩, fun i x v h1 h2 h3 => ?_⟩
    obtain ⟨u', r, lk⟩ := hlk i x v h1 h2 h3
    refine ⟨u', r, ?_⟩
    rcases lk with y | ⟨y, c, e, z⟩
    · exact .inl y
    · exact .inr ⟨y, c, e, cellL e z⟩
  · obtain ⟨v, q⟩ := I.cell x c e
    exact ⟨v, cellL e q⟩
  · obtain ⟨m, ⟨o, es, ep, hob, _⟩, _⟩ := I.loc
    exact u.free _ o (tg locL hob) I.free (ne _)
  · obtain ⟨v, o, q, _⟩ := I.cell x c e
    obtain ⟨v', o', q', _⟩ := Ic.cell x c e
    exact u.free c o (tg (ltc q') q) (I.freeC x c e) (ne _)
  · obtain ⟨h1, h2, h3, h4, h5⟩ := I.pin p hp
    have hlt := ltc (Ic.pin p hp).1
    exact ⟨u.keep _ _ (tg hlt h1) h2 (fun z => (fsub z).elim h4 h3) (ne _), u.free _ _ (tg hlt h1) h2 (ne _), h3, h4, h5⟩
  · have h := Ig.hok
    have : HOk F.P F.w H1 s₁.heap := h
    rw [hP, hw] at this
    exact this
end

/-! ### a generator def's promise -/
/-- the arguments, the heap, what its consumer may do while it sleeps, what is wanted of an item and of the end -/
abbrev SpZ := List V → Hp → (Hp → Hp → Prop) → (List V → V → Hp → Prop) → (List V → Hp → Prop) → Prop
/-- a call gives a generator that has not begun -/
def ZMade (P : Program) (w : World) (K : PySem.W.Frag) (mg : Str → Option Value) (base : Heap) (k : Nat) (outer : List Env) (H : Hp) (s : Shared) (S : Hp → Hp → Prop) (Yd : List V → V → Hp → Prop) (Q : List V → Hp → Prop) (u : Value) (s' : Shared) : Prop :=
  ∃ (N : List Str) (qual : Str) (scope : Scope) (f : Addr) (cd : Value) (a : Addr) (g : Nat) (c : Code) (go : Obj), u = .ref a ∧ s.heap.objs.size < a ∧ s'.heap.get? a = some go ∧ (∀ h : Heap, h.get? a = some go → h.IsGen a g) ∧ (∀ v, go.data ≠ .cell v) ∧ s'.gens[g]? = some (.fresh c) ∧
    s'.os = s.os ∧ AllBare s'.gens ∧ (∀ b o, s.heap.get? b = some o → s'.heap.get? b = some o) ∧ (∃ ol, s'.heap.get? s.heap.objs.size = some ol ∧ ∀ v, ol.data ≠ .cell v) ∧
    ∀ (A : Around) (e : Addr) (Phi : Nat → Hp → Shared → Prop), Room k A → A.frames = some outer → ∀ s2 oe, WK ⟨P, w, K, mg, base, N, qual, scope, f, cd, A, outer, s.heap.objs.size, (a, go), e, Phi, S, Yd, Q⟩ [] s' s2 H oe → Phi 0 H s2 →
      Seg (model P w) A (ZE ⟨P, w, K, mg, base, N, qual, scope, f, cd, A, outer, s.heap.objs.size, (a, go), e, Phi, S, Yd, Q⟩) (ZY ⟨P, w, K, mg, base, N, qual, scope, f, cd, A, outer, s.heap.objs.size, (a, go), e, Phi, S, Yd, Q⟩) sizeLine s2 c ((model P w).den c) [] s2
structure ZFn (P : Program) (w : World) (K : PySem.W.Frag) (mg : Str → Option Value) (base : Heap) (k : Nat) (f : Addr) (fd : FuncData) (ps : List Str) (sp : SpZ) : Prop where
  len : ∀ vs H S Yd Q, sp vs H S Yd Q → vs.length = ps.length
  run : ∀ (A : Around) (outer : List Env) (s : Shared) (H : Hp) (args : Args) (us : List Value) (vs : List V) (S : Hp → Hp → Prop) (Yd : List V → V → Hp → Prop) (Q : List V → Hp → Prop), Room k A → Env0 P w K mg base A outer s H → BindsTo s fd args (ps.zip us) → Vals vs us → sp vs H S Yd Q →
    codeAny (model P w) A (.call (.ref f) args) (fun r s' => match r with | .ok (.ret u) => ZMade P w K mg base k outer H s S Yd Q u s' | _ => False) s
/-- THE RULE: a generator def that is woken amid a for, by its body -/
theorem zfn_of {P : Program} {w : World} {K : PySem.W.Frag} {mg : Str → Option Value} {base : Heap} {k : Nat} {f : Addr} {name qual : Str} {params : Arguments} {body : List Stmt} {scope : Scope} {dV kV doc pm cdv ct oc : Value} {an od : Option Addr}
    {osl : Array (Option Value)} {N ps : List Str} {sp : SpZ} (lk : K.lookup f = some ⟨oc, od, .func (PySem.W.fnOf name qual params body scope dV kV doc pm an cdv ct), osl⟩) (hcd : PySem.W.codeIn K cdv qual = true) (S : GScope N ps scope) (nc : ∀ n, cellsFrom n scope.names [] = [])
    (len : ∀ vs H S Yd Q, sp vs H S Yd Q → vs.length = ps.length)
    (hbody : ∀ (A : Around) (outer : List Env) (l : Nat) (go : Addr × Obj) (e : Addr) (Phi : Nat → Hp → Shared → Prop) (H : Hp) (vs : List V) (Sl : Hp → Hp → Prop) (Yd : List V → V → Hp → Prop) (Q : List V → Hp → Prop), Room k (A.deeper (envOfC qual scope l f cdv)) → sp vs H Sl Yd Q →
      ∃ t, ZSs ⟨P, w, K, mg, base, N, qual, scope, f, cdv, A, outer, l, go, e, Phi, Sl, Yd, Q⟩ body t ∧ t { nx := fun Hr ys _ H' => Ex Hr H' ∧ Q ys H', rt := fun Hr ys v H' => v = .non ∧ Ex Hr H' ∧ Q ys H' } H [] (start N vs) H) :
    ZFn P w K mg base (k + 1) f (PySem.W.fnOf name qual params body scope dV kV doc pm an cdv ct) ps sp := by
  refine ⟨len, fun A outer s H args us vs Sl Yd Q hr e0 hb r hsp => ?_⟩
  have hl := len _ _ _ _ _ hsp
  have KX : K.In s.heap := e0.mod.kin.keeps fun b o e => (e0.bs b o e).1
  have lim : s.heap.NoLimit := e0.mod.nolimit.keeps fun b o e => (e0.bs b o e).1
  have hkind : ∀ y ∈ ps.zip us, scope.names.lookup y.1 = some .local ∨ (scope.names.lookup y.1 = some .cell ∧ ((cellsFrom (s.heap.objs.size + 1) scope.names []).lookup y.1).isSome = true) := fun ⟨n, v⟩ hy => by
    rcases S.par n (List.of_mem_zip hy).1 with q | q
    · exact .inl q
    · exact .inr ⟨q, PySem.W.cellsFrom_some _ _ _ (.inl q)⟩
  refine codeAny_call_generator hr.depth (KX _ _ lk) rfl S.co S.gen rfl (PySem.W.codeRec_of KX hcd) (hb _ _ _ _ ?_)
  refine wpAny_newFunctionEnv_cells S.kind hkind fun env he s1 x => ?_
  subst he
  refine ⟨lim.keeps x.toInCall.keep, ?_⟩
  have I1 : Inv (gcxOf P w K mg base N qual scope f cdv A outer s H L2.E0 []) [] (start N vs) H s1 := inv_startG S hr.hd e0 hl r x
  obtain ⟨h1, tk, es1, hk1⟩ := x.done
  have os1 : s1.os = s.os := by rw [es1]
  have gen1 : s1.gens = s.gens := by rw [es1]
  have lt1 : s.heap.objs.size < s1.heap.objs.size := x.toInCall.ns.lt
  have kp1 : ∀ b o, s.heap.get? b = some o → s1.heap.get? b = some o := x.toInCall.keep
  have main : ∀ (go : Obj) (nm qn : Value) (tk2 : Nat), go.cls = .type "generator" → go.data = .fields #[.int s1.gens.size 0, nm, qn] → go.slots = #[] → (∀ h : Heap, (h.push go).get? h.objs.size = some go) →
      ZMade P w K mg base (k + 1) outer H s Sl Yd Q (.ref s1.heap.objs.size) { s1 with gens := s1.gens.push (.fresh (.func body (envOfC qual scope s.heap.objs.size f cdv))), toks := tk2, heap := s1.heap.push go } := by
    intro go nm qn tk2 hgc hgd0 hgs hgp
    refine ⟨N, qual, scope, f, cdv, s1.heap.objs.size, s1.gens.size, _, go, rfl, lt1, hgp _, fun h e => ⟨go, nm, qn, e, hgc, hgd0, hgs⟩, fun v q => (by rw [hgd0] at q; cases q), Array.getElem?_push_size .., os1, AllBare.push (by rw [gen1]; exact e0.bare) rfl, fun b o e => Heap.get?_push_of_some _ (kp1 b o e), ?_, ?_⟩
    · obtain ⟨m, ⟨o, es, ep, ho, hd, _⟩, _⟩ := I1.loc
      exact ⟨o, Heap.get?_push_of_some _ ho, fun v q => by rw [hd] at q; cases q⟩
    · intro Aw e Phi hrw hfr s2 oe W hphi
      obtain ⟨t, ht, hq⟩ := hbody Aw outer s.heap.objs.size (s1.heap.objs.size, go) e Phi H vs Sl Yd Q (hrw.deeper _) hsp
      have core : Core ⟨P, w, K, mg, base, N, qual, scope, f, cdv, Aw, outer, s.heap.objs.size, (s1.heap.objs.size, go), e, Phi, Sl, Yd, Q⟩ (start N vs) { s1 with gens := s1.gens.push (.fresh (.func body (envOfC qual scope s.heap.objs.size f cdv))), toks := tk2, heap := s1.heap.push go } :=
        ⟨e0.mod, S.kind, I1.ok.has, hrw.hd, Around.frames_deeper hfr, e0.bsz, fun b hb => by
          obtain ⟨_, o, ho, _⟩ := e0.funs.mem hb
          exact Heap.lt_size ho, by
          obtain ⟨m, hn, hlk⟩ := I1.loc
          refine ⟨m, hn.push _, fun i y v q1 q2 q3 => ?_⟩
          obtain ⟨u, r, lk⟩ := hlk i y v q1 q2 q3
          refine ⟨u, r, lk.imp id fun ⟨z, c, q4, o, q5, q6⟩ => ⟨z, c, q4, o, Heap.get?_push_of_some _ q5, q6⟩⟩, I1.len⟩
      have I2 := wake core (nc _) W
      refine seg_func ?_
      refine ht.run Aw [] _ sizeLine [] s2 _ [] _ _ id id s2 (start N vs) H H oe _ ⟨fun p hp => (by simp at hp), over_func, rfl, rfl, rfl⟩ (Nat.add_zero _) ⟨W.sz, hphi, (W.pin (e, oe) (List.mem_append_left _ (List.mem_cons_of_mem _ List.mem_cons_self))).1⟩ (fun n ys s₀ s' fl Hr oe' hn hb hs => ?_) I2 hq
      cases fl with
      | next =>
        obtain ⟨σ', H', I', ex, hQ⟩ := hs
        exact seg_end (.ok (.ret .none)) ⟨.inl rfl, Hr, ys, [], oe', σ', H', hn, hb, I', ex, hQ⟩
      | brk => obtain ⟨_, _, _, q⟩ := hs; exact False.elim q
      | cont => obtain ⟨_, _, _, q⟩ := hs; exact False.elim q
      | ret u =>
        obtain ⟨v, σ', H', I', rv, ev, ex, hQ⟩ := hs
        subst ev
        have eu : u = Value.none := rv
        subst eu
        exact seg_end (.ok (.ret .none)) ⟨.inl rfl, Hr, ys, [], oe', σ', H', hn, hb, I', ex, hQ⟩
  exact main _ _ _ _ rfl rfl rfl fun h => Heap.get?_push_size _ rfl
structure Zf (P : Program) (w : World) (K : PySem.W.Frag) (mg : Str → Option Value) (base : Heap) (k : Nat) (x : Str) (ps : List Str) (sp : SpZ) : Prop where
  ex : ∃ f fd, mg x = some (.ref f) ∧ PySem.W.keepIn K (.ref f) = true ∧ Binds K fd ps [] ∧ ZFn P w K mg base k f fd ps sp

theorem Zf.of {P : Program} {w : World} {K : PySem.W.Frag} {mg : Str → Option Value} {base : Heap} {x : Str} {st : Stmt} {N ps : List Str} {k : Nat} {sp : SpZ} (G : GFun K mg x st) (S : GScope N ps (defScope st)) (nc : ∀ n, cellsFrom n (defScope st).names [] = []) (hb : BindL x x st ps)
    (len : ∀ vs H S Yd Q, sp vs H S Yd Q → vs.length = ps.length)
    (body : ∀ (f : Addr) (cdv : Value) (A : Around) (outer : List Env) (l : Nat) (go : Addr × Obj) (e : Addr) (Phi : Nat → Hp → Shared → Prop) (H : Hp) (vs : List V) (Sl : Hp → Hp → Prop) (Yd : List V → V → Hp → Prop) (Q : List V → Hp → Prop), Room k (A.deeper (envOfC x (defScope st) l f cdv)) → sp vs H Sl Yd Q →
      ∃ t, ZSs ⟨P, w, K, mg, base, N, x, defScope st, f, cdv, A, outer, l, go, e, Phi, Sl, Yd, Q⟩ (defBody st) t ∧ t { nx := fun Hr ys _ H' => Ex Hr H' ∧ Q ys H', rt := fun Hr ys v H' => v = .non ∧ Ex Hr H' ∧ Q ys H' } H [] (start N vs) H) :
    Zf P w K mg base (k + 1) x ps sp := by
  obtain ⟨f, fd, hg, F⟩ := G.ex
  obtain ⟨oc, od, kV, doc, pm, an, cdv, ct, osl, e, lk, hcd⟩ := F.ex
  refine ⟨f, fd, hg, F.kp, F.binds hb, ?_⟩
  subst e
  exact zfn_of lk hcd S nc len fun A outer l go e Phi H vs Sl Yd Q hr hsp => body f cdv A outer l go e Phi H vs Sl Yd Q hr hsp
/-! ### the for -/
def tForZ (sp : SpZ) (t : TA) (g : TG) (tb : TS) : TS := fun D σ H => t σ H fun vs H1 => ∃ (S : Hp → Hp → Prop) (Yd : List V → V → Hp → Prop) (Q : List V → Hp → Prop) (W : Nat → L2.St → Hp → Prop), sp vs H1 S Yd Q ∧ W 0 σ H1 ∧
  (∀ (i : Nat) (σ : L2.St) (Hr : Hp) (ys : List V) (x : V) (H : Hp) (T : Addr), W i σ Hr → Ex Hr H → ys.length = i → Yd ys x H → H T = none → g (.ref T) σ (upd H T (.tup [.int (i : Nat), x])) fun σ2 H2 => tb { D with nx := fun σ3 H3 => W (i + 1) σ3 H3 ∧ S H H3, ct := fun σ3 H3 => W (i + 1) σ3 H3 ∧ S H H3, bk := D.nx } σ2 H2) ∧
  ∀ (i : Nat) (σ : L2.St) (Hr : Hp) (ys : List V) (H : Hp), W i σ Hr → Ex Hr H → ys.length = i → Q ys H → D.nx σ H
/-- an exception's promise does not look at the generators -/
def Blind (X : Cx) : Prop := ∀ e s' g', X.xe e { s' with gens := g' } → Tm g' → SubA g' s'.gens → X.xe e s'
theorem blind_cx {P : Program} {w : World} {K : PySem.W.Frag} {mg : Str → Option Value} {base : Heap} {N : List Str} {qual : Str} {scope : Scope} {f : Addr} {cd : Value} {A : Around} {outer : List Env} {s : Shared} {H : Hp} {E : XK} : Blind (cxOf (L2.CX P w) P w K mg base N qual scope f cd A outer s H E) := by
  have cx : ∀ e s' g', L2.CX P w outer H s E e { s' with gens := g' } → Tm g' → SubA g' s'.gens → L2.CX P w outer H s E e s' := fun e s' g' h _ S => by
    obtain ⟨a, B, H', cls, d, h1, h2, h3, h4, h5, h6, h7, h8⟩ := h
    exact ⟨a, B, H', cls, d, h1, h2, h3, h4, h5, h6, bare_of S h7, h8⟩
  intro e s' g' h T S
  exact wpAny_gens (g := g') h T S (fun _ s2 g2 h T S => cx e s2 g2 h T S) fun e' s2 g2 h T S => cx e' s2 g2 h T S
theorem Inv.real {X : Cx} {pins : List (Addr × Obj)} {σ : L2.St} {H : Hp} {s : Shared} {g : Array GenState} (I : Inv X pins σ H { s with gens := g }) (S : SubA g s.gens) : Inv X pins σ H s :=
  ⟨I.ok, I.os, bare_of S I.bare, I.base, I.loc, I.cell, I.free, I.freeC, I.pin, I.hok, I.len⟩
theorem rawInt_inj {i j : Nat} (h : rawInt (i : Int) = rawInt (j : Int)) : i = j := by
  unfold rawInt at h
  injection h with h
  omega
section
variable {X : Cx} {k j : Nat} {x : Str} {ps : List Str} {sp : SpZ}
set_option maxHeartbeats 4000000 in
theorem ps_forZ {elts : List Expr} {kk : Nat} {p p2 pos pos2 pos3 tpos : Pos} {e : Expr} {es : List Expr} {t : TA} {body : List Stmt} {g : TG} {tb : TS} (D : Zf X.prog X.w X.K X.mg X.base k x ps sp) (hr : Room j X.A) (hp : PassesOwn (model X.prog X.w) X.A X.env X.xe) (hc : X.calm = true) (hst : X.stack = X.env :: X.outer) (hfr : X.env.frame = some X.env.locals) (hxe : Blind X)
    (ha : PA X (e :: es) t) (hme : X.mg "enumerate" = none) (hg : PG X (.Tuple elts kk tpos) g) (hb : PSs X body tb) (hk : k + 3 ≤ j := by decide) (hge : Gl X "enumerate" := by rfl) (hgx : Gl X x := by rfl)
    (hd : (x == ("__debug__" : Str)) = false := by decide) (he : starEach (e :: es) X.env = (false, eval e X.env) :: starEach es X.env := by rfl) (hpl : (backTo pos (starEach es X.env)).any (·.1) = false := by rfl)
    (he2 : starEach [.Call (.Name x p) (e :: es) [] pos] X.env = (false, eval (.Call (.Name x p) (e :: es) [] pos) X.env) :: starEach [] X.env := by rfl) (hs : ∀ y, foldedSetIterable (.Call (.Name "enumerate" p2) [.Call (.Name x p) (e :: es) [] pos] [] pos2) X.env y = pure y := by intro _; rfl) :
    PS X (.For (.Tuple elts kk tpos) (.Call (.Name "enumerate" p2) [.Call (.Name x p) (e :: es) [] pos] [] pos2) body [] pos3) (tForZ sp t g tb) := by
  refine ⟨fun pins s σ H D' I h => ?_⟩
  obtain ⟨f, fd, hm, kp, b, Fn⟩ := D.ex
  have hh : X.A.handled = none := I.ok.hd hc
  refine wpAny_For ?_ hs
  refine wpAny_Call_Name_kw (ld_blt I hge hme boot_enumerate ?_)
  refine PyProof.Rows.callWith_type1 ?_ he2 rfl
  rw [he2]
  show wpAny _ _ (spliced ((false, eval (.Call (.Name x p) (e :: es) [] pos) X.env) :: backTo pos2 (starEach [] X.env))) _ _ s
  refine Calls.spliced_cons ?_
  refine wpAny_Call_Name_kw (ld_glob I hgx hm ?_ hd)
  refine PySem.W.callWith_K (h₀ := X.base) I.ok.mod.kin kp (thn (ha.run pos pins s σ H _ I h) fun us s1 ⟨vs, H1, I1, r, q⟩ => ⟨I1.kIn, ?_⟩) he hpl
  obtain ⟨Sl, Yd, Q, W, hsp, w0, step, done⟩ := q
  have hl2 : us.length = ps.length := by rw [← r.length]; exact Fn.len _ _ _ _ _ hsp
  refine wpAny_call (codeAny_mono (Fn.run X.A X.stack s1 H1 ⟨us, []⟩ us vs Sl Yd Q (hr.mono (by omega)) I1.env0 (by simpa using b s1 us I1.kIn (by simpa using hl2)) r hsp) fun r s2 hq => ?_)
  cases r with
  | error e => exact False.elim hq
  | ok fl =>
    cases fl with
    | next => exact False.elim hq
    | brk => exact False.elim hq
    | cont => exact False.elim hq
    | ret u =>
      obtain ⟨N, qual, scope, f', cd, a, gn, c, go, rfl, hla, hgo, hgen, hgc, hgs, os2, hb2, kp2, ⟨ol, hol, holc⟩, run⟩ := hq
      refine Calls.spliced_nil ?_
      refine call_enum_gen (hgen _ hgo) fun h3 he3 hz3 kp3 => wpAny_pyIter_enum he3 ?_
      have hl : s1.heap.objs.size = s1.heap.objs.size := rfl
      have ea : a < s2.heap.objs.size := Heap.lt_size hgo
      generalize hE : s2.heap.objs.size = ea0 at he3 hz3 ea ⊢
      have kp3' : ∀ b o, s1.heap.get? b = some o → h3.get? b = some o := fun b o q => kp3 b o (kp2 b o q)
      have I3 : Inv X pins σ H1 { s2 with heap := h3 } := I1.call' (ch := []) os2 (Un.kept kp3') (I1.hok.kept kp3') hb2 fun b z => by simp at z
      let Phi : Nat → Hp → Shared → Prop := fun i Hr s' => ∃ (σ' : L2.St) (old : Value), W i σ' Hr ∧ Inv X pins σ' Hr s' ∧ IsEnum s'.heap ea0 a (i : Int) old
      let F : ZF := ⟨X.prog, X.w, X.K, X.mg, X.base, N, qual, scope, f', cd, X.A.in1.in1, X.stack, s1.heap.objs.size, (a, go), ea0, Phi, Sl, Yd, Q⟩
      have hrA : Room k X.A.in1.in1 := Room.in1 (Room.in1 (hr.mono (by omega)))
      -- addresses of the generator: none of the consumer's
      have far : ∀ {b : Addr}, s1.heap.objs.size ≤ b → b ≠ X.env.locals ∧ b ∉ X.fs := fun {b} hb => ⟨Nat.ne_of_gt (Nat.lt_of_lt_of_le I1.lt hb), I1.nofs hb⟩
      have offs : ∀ {b : Addr}, b ∉ frs X.stack → b ≠ X.env.locals ∧ b ∉ X.fs := fun {b} hb => by
        rw [hst] at hb
        unfold frs at hb
        rw [List.filterMap_cons, hfr] at hb
        exact ⟨fun z => hb (by rw [z]; exact List.mem_cons_self), fun z => hb (List.mem_cons_of_mem _ z)⟩
      have stk : ∀ {b : Addr}, s1.heap.objs.size ≤ b → b ∉ frs X.stack := fun {b} hb z => by
        obtain ⟨_, o, ho, _⟩ := I1.stack.mem z
        exact absurd (Nat.lt_of_lt_of_le (Heap.lt_size ho) hb) (Nat.lt_irrefl _)
      let LI : Nat → Shared → Prop := fun n s' => ∃ (i : Nat) (σ' : L2.St) (Hr : Hp) (old : Value) (gs : GenState), n + i = sizeLine ∧ W i σ' Hr ∧ Inv X pins σ' Hr s' ∧ IsEnum s'.heap ea0 a (i : Int) old ∧ s'.heap.get? a = some go ∧ s'.gens[gn]? = some gs ∧
        gs.Goes (model X.prog X.w) X.A.in1.in1 (ZE F) (ZY F) n (.send .none) (s'.setGen gn .running)
      have bareR : ∀ {s' : Shared} {y : GenState}, AllBare s'.gens → y.bare = true → AllBare (s'.setGen gn y).gens := fun h hy => allBare_setGen h hy
      refine codeAny_forLoop_any LI ?_ sizeLine ?_
      · rintro n s4 ⟨i, σ4, Hr, old, gs, hn, w4, I4, he4, hg4, hgs4, goes⟩
        refine wpAny_passesOwn hp (next_enum_gen (i := (i : Int)) (old := old) hh I4.nolimit (by have := hr.dp; show X.A.depth < _; omega) he4 (hgen _ hg4) hgs4 goes (fun v s5 k₀ l₀ c₀ p₀ fs₀ hz5 hv => ?_) fun s5 hv h' hk' => ?_)
        · obtain ⟨Hr', ys, xv, ip, oe, σg, H5, hn5, ⟨hzz, ⟨σ5, old5, w5, I5, he5⟩, hoe⟩, rv, Ig, hex, hyd, hip, kap⟩ := hv
          have ei : ys.length = i := by
            have h1 : IsEnum s4.heap ea0 a (ys.length : Int) old5 := he5
            unfold IsEnum at h1 he4
            rw [he4] at h1
            injection h1 with h1
            injection h1 with _ _ h1 _
            injection h1 with h1
            have h2 := congrArg (fun z : Array Value => z[3]?) h1
            exact (rawInt_inj (Option.some.inj h2)).symm
          subst ei
          cases n with
          | zero => omega
          | succ m =>
            have Ib : Inv X pins σ5 H5 s5 := back (F := F) I1 rfl rfl rfl rfl I5 hzz Ig
            have pe := Ig.pin (ea0, oe) (List.mem_append_left _ (List.mem_cons_of_mem _ List.mem_cons_self))
            have pa := Ig.pin (a, go) (List.mem_append_left _ List.mem_cons_self)
            have eoe : IsEnum s5.heap ea0 a (ys.length : Int) old := by
              have h1 : s4.heap.get? ea0 = some oe := hoe
              have h2 : IsEnum s4.heap ea0 a (ys.length : Int) old := he4
              unfold IsEnum at h2 ⊢
              rw [h1] at h2
              rw [← h2]
              exact pe.1
            have nl5 : ∀ p ∈ ip ++ [(a, go)], p.1 ≠ ea0 := fun p hp => by
              rcases List.mem_append.mp hp with z | z
              · exact hip p z
              · rw [List.mem_singleton.mp z]
                exact Nat.ne_of_lt ea
            refine ⟨eoe, fun h' ho hT hk' => ?_⟩
            refine wpAny_passesOwn hp (wpAny_letOwnedTupleGo_enum ho fun h6 he6 sb => ?_)
            have lT : ea0 < s5.heap.objs.size := Heap.lt_size eoe
            have eT : h6.get? s5.heap.objs.size = some { cls := .type "tuple", data := .seq #[.int (ys.length : Int) s5.toks, v] } := (sb.2 _ (Nat.ne_of_gt lT)).trans hT
            have k6 : ∀ b o, b ≠ ea0 → s5.heap.get? b = some o → h6.get? b = some o := fun b o hb q => (sb.2 b hb).trans (hk' b o hb q)
            have lea : s1.heap.objs.size ≤ ea0 := Nat.le_of_lt (Nat.lt_trans hla ea)
            have Ig' : Inv X pins σ5 H5 (s5.setGen gn (.suspended k₀ l₀ c₀ p₀ fs₀ false)) := Inv.gens' Ib (bareR Ib.bare rfl)
            have new : ObjOk X.prog X.w (upd H5 s5.heap.objs.size (.tup [.int (ys.length : Nat), xv])) h6 s5.heap.objs.size (.tup [.int (ys.length : Nat), xv]) :=
              ⟨by show 2 ≤ sizeLine; decide, [.int (ys.length : Int) s5.toks, v], .cons ⟨_, rfl⟩ (.cons rv .nil), ⟨_, eT, rfl, _, rfl⟩⟩
            have I6 : Inv X pins σ5 (upd H5 s5.heap.objs.size (.tup [.int (ys.length : Nat), xv])) { s5.setGen gn (.suspended k₀ l₀ c₀ p₀ fs₀ false) with heap := h6, toks := s5.toks + 1 } :=
              Ig'.turnedNew (t' := s5.toks + 1) (ch := [ea0]) (fun b ob hb q => k6 b ob (fun z => hb (by rw [z]; exact List.mem_singleton.mpr rfl)) q) (fun b hb => by
                rw [List.mem_singleton.mp hb]
                exact I1.fpOk lea pe.2.1) (Nat.le_refl _) new
            obtain ⟨mm, ⟨ol5, es5, ep5, hol5, hold, _⟩, _⟩ := id Ig.loc
            have hol5 : s5.heap.get? s1.heap.objs.size = some ol5 := hol5
            obtain ⟨oe6, hoe6, hoc6⟩ : ∃ o, h6.get? ea0 = some o ∧ ∀ v, o.data ≠ .cell v := ⟨_, he6, fun v q => by cases q⟩
            have pinOk : ∀ {b : Addr} {o : Obj}, s5.heap.get? b = some o → b ≠ ea0 → H5 b = none → b ∉ frs X.stack → (∀ v, o.data ≠ .cell v) → h6.get? b = some o ∧ (upd H5 s5.heap.objs.size (.tup [.int (ys.length : Nat), xv])) b = none ∧ b ≠ X.env.locals ∧ b ∉ X.fs ∧ ∀ v, o.data ≠ .cell v := fun {b o} q ne n hb hc =>
              ⟨k6 b o ne q, by rw [upd_ne (Nat.ne_of_lt (Heap.lt_size q))]; exact n, (offs hb).1, (offs hb).2, hc⟩
            let Pn : List (Addr × Obj) := (s1.heap.objs.size, ol5) :: (ea0, oe6) :: (ip ++ [(a, go)])
            have I6P : Inv X (pins ++ Pn) σ5 (upd H5 s5.heap.objs.size (.tup [.int (ys.length : Nat), xv])) { s5.setGen gn (.suspended k₀ l₀ c₀ p₀ fs₀ false) with heap := h6, toks := s5.toks + 1 } :=
              I6.pins_of fun p hp => by
                rcases List.mem_append.mp hp with z | z
                · exact I6.pin p (List.mem_append_right _ z)
                · rcases List.mem_cons.mp z with z | z
                  · rw [z]
                    exact pinOk hol5 (Nat.ne_of_lt (Nat.lt_trans hla ea)) Ig.free (stk (Nat.le_refl _)) fun v q => by rw [hold] at q; cases q
                  · rcases List.mem_cons.mp z with z | z
                    · rw [z]
                      exact ⟨hoe6, by show upd _ _ _ ea0 = none; rw [upd_ne (Nat.ne_of_lt lT)]; exact pe.2.1, (far lea).1, (far lea).2, hoc6⟩
                    · have h1 := nl5 p z
                      rcases List.mem_append.mp z with z | z
                      · obtain ⟨q1, q2, q3, q4, q5⟩ := Ig.pin p (List.mem_append_right _ z)
                        exact pinOk q1 h1 q2 q4 q5
                      · rw [List.mem_singleton.mp z]
                        exact pinOk pa.1 (Nat.ne_of_lt ea) pa.2.1 (stk (Nat.le_of_lt hla)) hgc
            have hsus : ({ s5.setGen gn (.suspended k₀ l₀ c₀ p₀ fs₀ false) with heap := h6, toks := s5.toks + 1 } : Shared).gens[gn]? = some (.suspended k₀ l₀ c₀ p₀ fs₀ false) := setGen_at hz5
            have nT : H5 s5.heap.objs.size = none := Ib.hok.fresh (Nat.le_refl _)
            refine wpAny_passesOwn hp (wpAny_mono (wpAny_sleepers (hg.run (pins ++ Pn) _ σ5 _ (.ref s5.heap.objs.size) (.ref s5.heap.objs.size) _ (Inv.gens' I6P (deaden_all I6P.bare)) rfl (step ys.length σ5 Hr' ys xv H5 s5.heap.objs.size w5 hex rfl hyd nT)))
              (fun _ s7 ⟨g7, ⟨σ7, H7, I7, q7⟩, S7, kp7⟩ => ?_) fun y s' ⟨g', hx, S', T'⟩ => hxe y s' g' hx T' S')
            have I7' := Inv.real I7 S7
            refine wpAny_passesOwn hp (wpAny_mono (wpAny_sleepers (hb.run (pins ++ Pn) _ σ7 H7 _ (Inv.gens' I7' (deaden_all I7'.bare)) q7)) (fun fl s8 ⟨g8, q8, S8, kp8⟩ => ?_) fun y s' ⟨g', hx, S', T'⟩ => hxe y s' g' hx T' S')
            have again : ∀ {σ8 : L2.St} {H8 : Hp}, Inv X (pins ++ Pn) σ8 H8 s8 → W (ys.length + 1) σ8 H8 ∧ Sl H5 H8 → ∃ m', m' < m + 1 ∧ LI m' s8 := fun {σ8 H8} I8 w8 => by
              have pinP : ∀ p ∈ Pn, s8.heap.get? p.1 = some p.2 ∧ H8 p.1 = none := fun p hp => let q := I8.pin p (List.mem_append_right _ (List.mem_append_right _ hp)); ⟨q.1, q.2.1⟩
              have ple := pinP (s1.heap.objs.size, ol5) List.mem_cons_self
              have pee := pinP (ea0, oe6) (List.mem_cons_of_mem _ List.mem_cons_self)
              have paa := pinP (a, go) (List.mem_cons_of_mem _ (List.mem_cons_of_mem _ (List.mem_append_right _ (List.mem_singleton.mpr rfl))))
              have I8' : Inv X pins σ8 H8 s8 := I8.unpinned
              have he8 : IsEnum s8.heap ea0 a ((ys.length + 1 : Nat) : Int) v := by
                have h1 : h6.get? ea0 = some _ := he6
                rw [hoe6] at h1
                unfold IsEnum
                rw [show ((ys.length + 1 : Nat) : Int) = (ys.length : Int) + 1 by omega, ← h1]
                exact pee.1
              have hs8 : s8.gens[gn]? = some (.suspended k₀ l₀ c₀ p₀ fs₀ false) := kp8 gn _ _ _ _ _ _ (kp7 gn _ _ _ _ _ _ hsus)
              refine ⟨m, Nat.lt_succ_self m, ys.length + 1, σ8, H8, v, _, by omega, w8.1, I8', he8, paa.1, hs8, ?_⟩
              refine kap (s8.setGen gn .running) H8 oe6 ⟨Nat.le_of_lt (Heap.lt_size ple.1), I8'.bs, I8'.stack, I8'.stkFree, I8'.hok, bareR I8'.bare rfl, fun o ho8 => ?_, ple.2, fun p hp => ?_⟩ ⟨σ8, v, w8.1, Inv.gens' I8' (bareR I8'.bare rfl), he8⟩ w8.2
              · have ho8 : s5.heap.get? s1.heap.objs.size = some o := ho8
                rw [hol5] at ho8
                cases ho8
                exact ple.1
              · rcases List.mem_append.mp hp with z | z
                · rcases List.mem_cons.mp z with z | z
                  · rw [z]
                    exact ⟨paa.1, paa.2, pa.2.2.1, pa.2.2.2.1, hgc⟩
                  · rw [List.mem_singleton.mp z]
                    exact ⟨pee.1, pee.2, pe.2.2.1, pe.2.2.2.1, hoc6⟩
                · obtain ⟨q1, q2, q3, q4, q5⟩ := Ig.pin p (List.mem_append_right _ z)
                  obtain ⟨r1, r2⟩ := pinP p (List.mem_cons_of_mem _ (List.mem_cons_of_mem _ (List.mem_append_left _ z)))
                  exact ⟨r1, r2, q3, q4, q5⟩
            cases fl with
            | next => obtain ⟨σ8, H8, I8, n8⟩ := q8; exact again (Inv.real I8 S8) n8
            | cont => obtain ⟨σ8, H8, I8, n8⟩ := q8; exact again (Inv.real I8 S8) n8
            | brk => obtain ⟨σ8, H8, I8, q9⟩ := q8; exact ⟨σ8, H8, (Inv.real I8 S8).unpinned, q9⟩
            | ret u => obtain ⟨x8, σ8, H8, I8, r8, q9⟩ := q8; exact ⟨x8, σ8, H8, (Inv.real I8 S8).unpinned, r8, q9⟩
        · obtain ⟨Hr', ys, ip, oe, σg, H5, hn5, ⟨hzz, ⟨σ5, old5, w5, I5, he5⟩, hoe⟩, Ig, hex, hQ⟩ := hv
          have ei : ys.length = i := by
            have h1 : IsEnum s4.heap ea0 a (ys.length : Int) old5 := he5
            unfold IsEnum at h1 he4
            rw [he4] at h1
            injection h1 with h1
            injection h1 with _ _ h1 _
            injection h1 with h1
            have h2 := congrArg (fun z : Array Value => z[3]?) h1
            exact (rawInt_inj (Option.some.inj h2)).symm
          subst ei
          have Ib : Inv X pins σ5 H5 s5 := back (F := F) I1 rfl rfl rfl rfl I5 hzz Ig
          have If : Inv X pins σ5 H5 { s5.setGen gn .finished with heap := h' } := Ib.call' (ch := []) rfl (Un.kept hk') (Ib.hok.kept hk') (bareR Ib.bare rfl) fun b z => by simp at z
          exact wpAny_execs_nil ⟨σ5, H5, If, done ys.length σ5 Hr' ys H5 w5 hex rfl hQ⟩
      · refine ⟨0, σ, H1, .none, .fresh c, rfl, w0, I3, he3, kp3 _ _ hgo, hgs, rfl, ?_⟩
        obtain ⟨oe3, hoe3, hoc3⟩ : ∃ o, h3.get? ea0 = some o ∧ ∀ v, o.data ≠ .cell v := ⟨_, he3, fun v q => by cases q⟩
        refine run X.A.in1.in1 ea0 Phi hrA I1.ok.frames (({ s2 with heap := h3 } : Shared).setGen gn .running) oe3 ⟨?_, I3.bs, I3.stack, I3.stkFree, I3.hok, bareR I3.bare rfl, fun o ho => kp3 _ _ ho, I1.hok.fresh (Nat.le_refl _), fun p hp => ?_⟩ ⟨σ, .none, w0, Inv.gens' I3 (bareR I3.bare rfl), he3⟩
        · show s1.heap.objs.size ≤ h3.objs.size
          rw [hz3]
          exact Nat.le_of_lt (Nat.lt_succ_of_lt (Nat.lt_trans hla ea))
        · rcases List.mem_append.mp hp with z | z
          · rcases List.mem_cons.mp z with z | z
            · rw [z]
              exact ⟨kp3 _ _ hgo, I1.hok.fresh (Nat.le_of_lt hla), Nat.ne_of_gt hla, stk (Nat.le_of_lt hla), hgc⟩
            · rw [List.mem_singleton.mp z]
              have lea : s1.heap.objs.size < ea0 := Nat.lt_trans hla ea
              exact ⟨hoe3, I1.hok.fresh (Nat.le_of_lt lea), Nat.ne_of_gt lea, stk (Nat.le_of_lt lea), hoc3⟩
          · cases z
end
section
variable {σ : L2.St} {H Hr : Hp} {D : ZEnds} {De : Ends} {ys : List V} {t u : TZ} {tp ts : TS} {te : TE} {tr : TA} {sp : SpZ} {F : ZF} {K : PySem.W.Frag} {g : TG} {a : Addr} {xs : List V}
theorem g_zThen (q : t { D with nx := fun Hr' ys' σ' H' => u D Hr' ys' σ' H' } Hr ys σ H) : tzThen t u D Hr ys σ H := q
theorem g_zPlain (q : tp { nx := D.nx Hr ys, rt := D.rt Hr ys, bk := D.bk Hr ys, ct := D.ct Hr ys } σ H) : tzPlain tp D Hr ys σ H := q
theorem g_z0 (q : D.nx Hr ys σ H) : tz0 D Hr ys σ H := q
theorem g_zYield (h : ys.length < sizeLine) (q : te σ H fun x H1 => Ex Hr H1 ∧ F.Yd ys x H1 ∧ ∀ H2, F.Slp H1 H2 → D.nx H2 (ys ++ [x]) σ H2) : tzYield F te D Hr ys σ H := ⟨h, q⟩
def kZWh (W : Nat → Hp → List V → L2.St → Hp → Prop) (tb : TZ) (D : ZEnds) (m : Nat) (Hr : Hp) (ys : List V) (σ : L2.St) (b : Bool) (H1 : Hp) : Prop :=
  if b = true then ∃ N : Hp → List V → L2.St → Hp → Prop, (∀ Hr' ys' σ' H', N Hr' ys' σ' H' → ∃ m', m' < m ∧ W m' Hr' ys' σ' H') ∧ tb { D with nx := N, ct := N, bk := D.nx } Hr ys σ H1 else D.nx Hr ys σ H1
theorem g_zWh {c : TT} (W : Nat → Hp → List V → L2.St → Hp → Prop) (m0 : Nat) (h0 : W m0 Hr ys σ H) (hs : ∀ m Hr ys σ H, W m Hr ys σ H → c σ H (kZWh W t D m Hr ys σ)) : tzWhile c t D Hr ys σ H := ⟨W, ⟨m0, h0⟩, hs⟩
theorem g_kZWh {W : Nat → Hp → List V → L2.St → Hp → Prop} {m : Nat} {b : Bool} (h1 : b = true → t { D with nx := fun Hr' ys' σ' H' => ∃ m', m' < m ∧ W m' Hr' ys' σ' H', ct := fun Hr' ys' σ' H' => ∃ m', m' < m ∧ W m' Hr' ys' σ' H', bk := D.nx } Hr ys σ H) (h2 : b = false → D.nx Hr ys σ H) : kZWh W t D m Hr ys σ b H := by
  cases b with
  | true => exact ⟨_, fun _ _ _ _ h => h, h1 rfl⟩
  | false => exact h2 rfl
def kZForL (K : PySem.W.Frag) (g : TG) (tb : TZ) (D : ZEnds) (Hr : Hp) (ys : List V) (σ : L2.St) : VK := fun x H1 => tzFor (iList K (tC x)) g tb D Hr ys σ H1
theorem g_zForL (q : te σ H (kZForL K g t D Hr ys σ)) : tzFor (iList K te) g t D Hr ys σ H := q
/-- over a list that the body leaves as it is -/
theorem g_kZForL (h : SqL K H a xs) (Pv : Nat → Hp → List V → L2.St → Hp → Prop) (h0 : Pv 0 Hr ys σ H) (hl : ∀ i Hr ys σ H, i ≤ xs.length → Pv i Hr ys σ H → SqL K H a xs)
    (hs : ∀ i x Hr ys σ H, xs[i]? = some x → Pv i Hr ys σ H → g x σ H fun σ2 H2 => t { D with nx := Pv (i + 1), ct := Pv (i + 1), bk := D.nx } Hr ys σ2 H2) (hd : ∀ Hr ys σ H, Pv xs.length Hr ys σ H → D.nx Hr ys σ H) : kZForL K g t D Hr ys σ (.ref a) H := by
  refine ⟨a, rfl, ⟨xs, h⟩, fun i m Hr ys σ H => m = xs.length - i ∧ i ≤ xs.length ∧ Pv i Hr ys σ H, ⟨xs.length, by simp, Nat.zero_le _, h0⟩, ?_⟩
  rintro i m Hr ys σ H ⟨rfl, hi, p⟩
  have q := hl i Hr ys σ H hi p
  by_cases hlt : i < xs.length
  · refine .inr ⟨⟨xs, xs[i], q, by simp [hlt]⟩, Pv (i + 1), fun Hr' ys' σ' H' p' => ⟨xs.length - (i + 1), by omega, rfl, hlt, p'⟩, fun x H' y => ?_⟩
    obtain ⟨e, y⟩ := y
    subst e
    exact hs i x Hr ys σ _ (y xs q) p
  · have e : i = xs.length := by omega
    subst e
    exact .inl ⟨⟨xs, q, Nat.le_refl _⟩, hd Hr ys σ H p⟩
def kForZ (sp : SpZ) (g : TG) (tb : TS) (D : Ends) (σ : L2.St) (vs : List V) (H1 : Hp) : Prop := ∃ (S : Hp → Hp → Prop) (Yd : List V → V → Hp → Prop) (Q : List V → Hp → Prop) (W : Nat → L2.St → Hp → Prop), sp vs H1 S Yd Q ∧ W 0 σ H1 ∧
  (∀ (i : Nat) (σ : L2.St) (Hr : Hp) (ys : List V) (x : V) (H : Hp) (T : Addr), W i σ Hr → Ex Hr H → ys.length = i → Yd ys x H → H T = none → g (.ref T) σ (upd H T (.tup [.int (i : Nat), x])) fun σ2 H2 => tb { D with nx := fun σ3 H3 => W (i + 1) σ3 H3 ∧ S H H3, ct := fun σ3 H3 => W (i + 1) σ3 H3 ∧ S H H3, bk := D.nx } σ2 H2) ∧
  ∀ (i : Nat) (σ : L2.St) (Hr : Hp) (ys : List V) (H : Hp), W i σ Hr → Ex Hr H → ys.length = i → Q ys H → D.nx σ H
theorem g_forZ (q : tr σ H (kForZ sp g ts De σ)) : tForZ sp tr g ts De σ H := q
end
end G48
namespace G48
open PySem PySem.Spec PyProof.Rows L2 Evl
/-! ### errors with fields, told among n names -/
structure ErrN (K : PySem.W.Frag) (D : Addr) (nm : Nat → Str) (n j : Nat) (fs : List Str) : Prop where
  ox : OexC K D
  c : ExcC K D
  is_ : ∀ i, i < n → PySem.W.kitOne K (.ref D) (.ref (He.ga K (nm i))) = some (decide (i = j))
  ve : PySem.W.kitOne K (.ref D) (.type "ValueError") = some true
  re : PySem.W.exmOne K (.ref D) (.ref (He.ga K "ReadingError")) = some true
  no : ∀ f ∈ fs, PySem.W.findIn K (.ref D) f = some none
def errNB (K : PySem.W.Frag) (D : Addr) (nm : Nat → Str) (n j : Nat) (fs : List Str) : Bool := oexB K D && (He.eqO (PySem.W.findIn K (.ref D) "__setattr__") (some (some (.builtin "object.__setattr__"))) && (PySem.W.keepIn K (.ref D) && (decide (PySem.W.typeIn K (.ref D) = some (.type "type")) && (excCB K D &&
  ((List.range n).all (fun i => decide (PySem.W.kitOne K (.ref D) (.ref (He.ga K (nm i))) = some (decide (i = j)))) && (decide (PySem.W.kitOne K (.ref D) (.type "ValueError") = some true) && (decide (PySem.W.exmOne K (.ref D) (.ref (He.ga K "ReadingError")) = some true) && fs.all fun f => He.eqO (PySem.W.findIn K (.ref D) f) (some none))))))))
theorem errN_ok {K : PySem.W.Frag} {D : Addr} {nm : Nat → Str} {n j : Nat} {fs : List Str} (h : errNB K D nm n j fs = true) : ErrN K D nm n j fs := by
  obtain ⟨b1, h⟩ := He.ba h
  obtain ⟨b2, h⟩ := He.ba h
  obtain ⟨b3, h⟩ := He.ba h
  obtain ⟨b4, h⟩ := He.ba h
  obtain ⟨b5, h⟩ := He.ba h
  obtain ⟨b6, h⟩ := He.ba h
  obtain ⟨b7, h⟩ := He.ba h
  obtain ⟨b8, b9⟩ := He.ba h
  have c := excC_ok b5
  exact ⟨⟨oexB_ok b1, He.eqO_ok b2, c.hs, of_decide_eq_true b4, b3⟩, c, fun i hi => of_decide_eq_true (List.all_eq_true.mp b6 i (List.mem_range.mpr hi)), of_decide_eq_true b7, of_decide_eq_true b8, fun f hf => He.eqO_ok (List.all_eq_true.mp b9 f hf)⟩
section
variable {X : Cx} {k j : Nat} {x : Str} {ps : List Str} {sp : SpG} {p pos p2 pos2 : Pos} {e : Expr} {es : List Expr} {t : TA} {E : XK}
/-- list(f(e, ..)), f a generator def that may raise -/
theorem pgLX (D : Gf X.prog X.w X.K X.mg X.base k x ps sp) (hr : Room j X.A) (ha : PA X (e :: es) t) (hmg : X.mg "list" = none) (hx : Passes (L2.CX X.prog X.w) X E) (hns : NoStop X.K E) (hk : k + 3 ≤ j := by decide) (hgl : Gl X "list" := by rfl) (hg : Gl X x := by rfl)
    (hd : (x == ("__debug__" : Str)) = false := by decide) (he : starEach (e :: es) X.env = (false, eval e X.env) :: starEach es X.env := by rfl) (hpl : (backTo pos (starEach es X.env)).any (·.1) = false := by rfl)
    (he2 : starEach [.Call (.Name x p) (e :: es) [] pos] X.env = (false, eval (.Call (.Name x p) (e :: es) [] pos) X.env) :: starEach [] X.env := by rfl) :
    PE X (.Call (.Name "list" p2) [.Call (.Name x p) (e :: es) [] pos] [] pos2) (tListG (tCallG sp [] E t)) := by
  obtain ⟨f, fd, hm, kp, b, F⟩ := D.ex
  exact pe_listG (pgen_call F (hr.mono (Nat.le_trans (Nat.le_add_right _ _) hk)) hg hm kp b .nil ha hd he hpl) hx hns (hr.mono hk) hgl hmg (by decide +kernel) (by decide) (by decide) he2
/-- .. and raises a class of errors that is no StopIteration -/
theorem pgLD {Dx : Addr} (D : Gf X.prog X.w X.K X.mg X.base k x ps sp) (hr : Room j X.A) (ha : PA X (e :: es) t) (hmg : X.mg "list" = none) (hx : Passes (L2.CX X.prog X.w) X E) (hn : PySem.W.subIn X.K (.ref Dx) (.type "StopIteration") = some false) (hk : k + 3 ≤ j := by decide) (hgl : Gl X "list" := by rfl) (hg : Gl X x := by rfl)
    (hd : (x == ("__debug__" : Str)) = false := by decide) (he : starEach (e :: es) X.env = (false, eval e X.env) :: starEach es X.env := by rfl) (hpl : (backTo pos (starEach es X.env)).any (·.1) = false := by rfl)
    (he2 : starEach [.Call (.Name x p) (e :: es) [] pos] X.env = (false, eval (.Call (.Name x p) (e :: es) [] pos) X.env) :: starEach [] X.env := by rfl) :
    PE X (.Call (.Name "list" p2) [.Call (.Name x p) (e :: es) [] pos] [] pos2) (tListG (tCallG sp [] (fun cls d H => cls = .ref Dx ∧ E cls d H) t)) :=
  pgLX D hr ha hmg (fun pins σ H s u s' I c => hx pins σ H s u s' I (by
    obtain ⟨a, B, H', cls, d, h1, h2, h3, h4, h5, h6, h7, h8⟩ := c
    exact ⟨a, B, H', cls, d, h1, h2, h3, h4, h5, h6, h7, h8.2⟩)) (fun cls d H h => by rw [h.1]; exact hn) hk hgl hg hd he hpl he2
end
end G48
namespace G48
open PySem PySem.Spec PyProof.Rows L2 Evl
theorem gs_never {X : Cx} {st : Stmt} : GS X st (fun _ _ _ _ => False) := ⟨fun _ _ _ _ _ _ _ _ _ _ _ _ _ _ _ _ _ _ _ _ _ ht => ht.elim⟩
end G48
namespace G48
open PySem PySem.Spec PyProof.Rows L2 Evl
def top (i : Nat) : Stmt := PySem.Challenge.pw_readingring_k51_whole_diaries.main.body.getD i (.Pass ⟨0, 0, 0, 0⟩)

end G48
namespace G48
open PySem PySem.Spec PyProof.Rows L2 Evl
def gd (x : Str) (st : Stmt) : He5.DefA := ⟨fun K => He.ga K x, x, x, defArgs st, defBody st, defScope st, [], []⟩
def md (C x q : Str) (st : Stmt) : He5.DefA := ⟨fun K => He.ma K (He.ga K C) x, x, q, defArgs st, defBody st, defScope st, [], []⟩
def prd (C x q : Str) (st : Stmt) : He5.DefA := ⟨fun K => Gp.pga K (He.ga K C) x, x, q, defArgs st, defBody st, defScope st, [], []⟩
abbrev s_is_integer : Stmt := top 17
abbrev s_check_number : Stmt := top 18
abbrev s_check_days : Stmt := top 19
abbrev s_check_starts : Stmt := top 20
abbrev s_Ring___init__ : Stmt := inClass (top 21) 0
abbrev s_Ring_books : Stmt := inClass (top 21) 4
abbrev s_Ring___len__ : Stmt := inClass (top 21) 6
abbrev s_Ring_need_reader : Stmt := inClass (top 21) 12
abbrev s__law_taken : Stmt := top 36
abbrev s__law_parts : Stmt := top 37
abbrev s_Scene___init__ : Stmt := inClass (top 25) 0
abbrev s_Scene_begun : Stmt := inClass (top 25) 1
abbrev s_Scene_following : Stmt := inClass (top 25) 2
abbrev s_first_scene : Stmt := top 26
abbrev s__law_begin : Stmt := top 38
abbrev s__law_first : Stmt := top 39
abbrev s__law_day : Stmt := top 40
abbrev s_diary_of : Stmt := top 31
abbrev s_DiaryError___init__ : Stmt := inClass (top 10) 0
abbrev s_is_alike : Stmt := top 32
abbrev s_fits : Stmt := top 33
abbrev s_mended : Stmt := top 34
abbrev s__law_raised : Stmt := top 42
abbrev s_LiveRing___init__ : Stmt := inClass (top 27) 0
abbrev s_LiveRing_enter : Stmt := inClass (top 27) 11
abbrev s_LiveRing_pass_days : Stmt := inClass (top 27) 12
abbrev s__law_diary : Stmt := top 41
abbrev s_law : Stmt := top 43
def fnL : List He5.DefA := [gd "is_integer" s_is_integer, gd "check_number" s_check_number, gd "check_days" s_check_days, gd "check_starts" s_check_starts, md "Ring" "__init__" "Ring.__init__" s_Ring___init__, prd "Ring" "books" "Ring.books" s_Ring_books, md "Ring" "__len__" "Ring.__len__" s_Ring___len__, md "Ring" "need_reader" "Ring.need_reader" s_Ring_need_reader, gd "_law_taken" s__law_taken, gd "_law_parts" s__law_parts, md "Scene" "__init__" "Scene.__init__" s_Scene___init__, md "Scene" "begun" "Scene.begun" s_Scene_begun, md "Scene" "following" "Scene.following" s_Scene_following, gd "first_scene" s_first_scene, gd "_law_begin" s__law_begin, gd "_law_first" s__law_first, gd "_law_day" s__law_day, gd "diary_of" s_diary_of, md "DiaryError" "__init__" "DiaryError.__init__" s_DiaryError___init__, gd "is_alike" s_is_alike, gd "fits" s_fits, gd "mended" s_mended, gd "_law_raised" s__law_raised, md "LiveRing" "__init__" "LiveRing.__init__" s_LiveRing___init__, md "LiveRing" "enter" "LiveRing.enter" s_LiveRing_enter, md "LiveRing" "pass_days" "LiveRing.pass_days" s_LiveRing_pass_days, gd "_law_diary" s__law_diary, gd "law" s_law]
def fasL : List Gp.FB := [fun K => (He.Fa.free "len").ok K,
  fun K => (He.Fa.free "isinstance").ok K,
  fun K => (He.Fa.free "int").ok K,
  fun K => (He.Fa.free "bool").ok K,
  fun K => (He.Fa.free "tuple").ok K,
  fun K => (He.Fa.free "list").ok K,
  fun K => (He.Fa.free "max").ok K,
  fun K => (He.Fa.free "min").ok K,
  fun K => (He.Fa.free "sum").ok K,
  fun K => (He.Fa.free "range").ok K,
  fun K => (He.Fa.free "enumerate").ok K,
  fun K => (He.Fa.free "zip").ok K,
  fun K => (He.Fa.free "all").ok K,
  fun K => (He.Fa.free "any").ok K,
  fun K => (He.Fa.free "sorted").ok K,
  fun K => (He.Fa.free "str").ok K,
  fun K => (He.Fa.free "set").ok K,
  fun K => (He.Fa.free "abs").ok K,
  fun K => (He.Fa.free "divmod").ok K,
  fun K => (He.Fa.free "bytes").ok K,
  fun K => (He.Fa.free "dict").ok K,
  fun K => (He.Fa.free "ValueError").ok K,
  fun K => (He.Fa.glo "is_integer").ok K,
  fun K => (He.Fa.glo "check_number").ok K,
  fun K => (He.Fa.glo "check_days").ok K,
  fun K => (He.Fa.glo "check_starts").ok K,
  fun K => (He.Fa.mkr "Ring").ok K,
  fun K => (He.Fa.glo "Ring").ok K,
  fun K => Gp.ppB K (He.ga K "Ring") "books",
  fun K => (He.Fa.meth "Ring" "__len__").ok K,
  fun K => (He.Fa.meth "Ring" "need_reader").ok K,
  fun K => (He.Fa.glo "_law_taken").ok K,
  fun K => (He.Fa.glo "_law_parts").ok K,
  fun K => (He.Fa.mkr "Scene").ok K,
  fun K => (He.Fa.glo "Scene").ok K,
  fun K => (He.Fa.meth "Scene" "begun").ok K,
  fun K => (He.Fa.meth "Scene" "following").ok K,
  fun K => (He.Fa.glo "first_scene").ok K,
  fun K => (He.Fa.glo "_law_begin").ok K,
  fun K => (He.Fa.glo "_law_first").ok K,
  fun K => (He.Fa.glo "_law_day").ok K,
  fun K => (He.Fa.glo "diary_of").ok K,
  fun K => (He.Fa.meth "DiaryError" "__init__").ok K,
  fun K => (He.Fa.glo "is_alike").ok K,
  fun K => (He.Fa.glo "fits").ok K,
  fun K => (He.Fa.glo "mended").ok K,
  fun K => (He.Fa.glo "_law_raised").ok K,
  fun K => (He.Fa.mkr "LiveRing").ok K,
  fun K => (He.Fa.glo "LiveRing").ok K,
  fun K => (He.Fa.meth "LiveRing" "enter").ok K,
  fun K => (He.Fa.meth "LiveRing" "pass_days").ok K,
  fun K => (He.Fa.glo "_law_diary").ok K,
  fun K => (He.Fa.glo "law").ok K,
  fun K => (He.Fa.cls "Ring").ok K,
  fun K => (He.Fa.noat "Ring" "spans").ok K,
  fun K => (He.Fa.noat "Ring" "heaps").ok K,
  fun K => (He.Fa.noat "Ring" "total").ok K,
  fun K => (He.Fa.cls "Scene").ok K,
  fun K => (He.Fa.noat "Scene" "day").ok K,
  fun K => (He.Fa.noat "Scene" "stacks").ok K,
  fun K => (He.Fa.noat "Scene" "ends").ok K,
  fun K => (He.Fa.noat "Scene" "spans_now").ok K,
  fun K => (He.Fa.noat "Scene" "number").ok K,
  fun K => (He.Fa.cls "LiveRing").ok K,
  fun K => (He.Fa.noat "LiveRing" "ring_at_first").ok K,
  fun K => (He.Fa.noat "LiveRing" "scene").ok K,
  fun K => (He.Fa.noat "LiveRing" "done").ok K,
  fun K => (He.Fa.noat "LiveRing" "undone").ok K,
  fun K => (He.Fa.noat "LiveRing" "is_open").ok K,
  fun K => (He.Fa.noat "LiveRing" "kept_scene").ok K,
  fun K => (He.Fa.noat "LiveRing" "kept_done").ok K,
  fun K => (He.Fa.noat "LiveRing" "kept_undone").ok K,
  fun K => (He.Fa.int "MAX_READERS" 8).ok K,
  fun K => (He.Fa.int "MAX_DAYS" 30).ok K,
  fun K => (He.Fa.int "MAX_BOOKS" 12).ok K,
  fun K => (He.Fa.int "MAX_ENTRIES" 500).ok K,
  fun K => errNB K (He.ga K "DiaryError") erNm 6 5 ["entry"],
  fun K => rinB K (He.ga K "ReadingError"),
  fun K => (He.Fa.glo "ReadingError").ok K,
  fun K => (He.Fa.glo "DiaryError").ok K,
  fun K => (He.Fa.int "WORDS" 3).ok K,
  fun K => (He.Fa.glo "BeingRead").ok K,
  fun K => (He.Fa.glo "InvalidNumber").ok K,
  fun K => (He.Fa.glo "UnknownBook").ok K,
  fun K => (He.Fa.glo "Contradiction").ok K,
  fun K => (He.Fa.glo "InvalidOperation").ok K,
  fun K => (He.Fa.int "MAX_PASSED" 400).ok K]
abbrev RW := PySem.Challenge.rw_readingring_k51_whole_diaries
abbrev hk : PySem.W.Hook := hookL 6 fasL fnL
def ob (s : PySem.W.SharedT) : AlL := obsL 6 fasL fnL (HandSHeadRun.getT s)
theorem ob_eq (s : PySem.W.SharedT) : ob s = hk.obs s.abs := obsL_eq (HandSHeadRun.getT_eq s)
abbrev RR : PySem.W.OpenRow := PySem.W.OpenLaw.row RW
def loose : List Str := [("_wall" : Str), ("ReadingError" : Str), ("InvalidRing" : Str), ("UnknownReader" : Str), ("UnknownBook" : Str), ("InvalidNumber" : Str), ("BeingRead" : Str), ("AlreadyOpen" : Str), ("InvalidOperation" : Str), ("DiaryError" : Str), ("Contradiction" : Str), ("MAX_READERS" : Str), ("MAX_DAYS" : Str), ("MAX_BOOKS" : Str), ("MAX_NUMBER" : Str), ("is_integer" : Str), ("check_number" : Str), ("check_days" : Str), ("check_starts" : Str), ("Ring" : Str), ("Course" : Str), ("MAX_PASSED" : Str), ("Scene" : Str), ("first_scene" : Str), ("LiveRing" : Str), ("MAX_ENTRIES" : Str), ("WORDS" : Str), ("diary_of" : Str), ("is_alike" : Str), ("fits" : Str), ("mended" : Str), ("_law_taken" : Str), ("_law_parts" : Str), ("_law_begin" : Str), ("_law_first" : Str), ("_law_day" : Str), ("_law_diary" : Str), ("_law_raised" : Str)]
set_option maxHeartbeats 0 in
theorem run (w : World) : HandSHeadRun.RunEq RR (PySem.W.view RR.prog [43]) hk ob 40000 loose w := by
  intro os
  kernel_rfl
end G48
namespace G48
open PySem PySem.Spec PyProof.Rows L2 Evl
abbrev N_is_integer : List Str := ["value", "low", "high"]
theorem sc_is_integer : FnScope N_is_integer ["value", "low", "high"] (defScope s_is_integer) := ⟨rfl, rfl, rfl, by decide +kernel, rfl, by decide +kernel, by decide +kernel⟩
theorem b_is_integer : BindL "is_integer" "is_integer" s_is_integer ["value", "low", "high"] := fun _ _ _ _ _ _ us hl => match us, hl with | [_, _, _], _ => rfl
abbrev N_check_number : List Str := ["number", "low", "high"]
theorem sc_check_number : FnScope N_check_number ["number", "low", "high"] (defScope s_check_number) := ⟨rfl, rfl, rfl, by decide +kernel, rfl, by decide +kernel, by decide +kernel⟩
theorem b_check_number : BindL "check_number" "check_number" s_check_number ["number", "low", "high"] := fun _ _ _ _ _ _ us hl => match us, hl with | [_, _, _], _ => rfl
abbrev N_check_days : List Str := ["days", "index", "number"]
theorem sc_check_days : FnScope N_check_days ["days"] (defScope s_check_days) := ⟨rfl, rfl, rfl, by decide +kernel, rfl, by decide +kernel, by decide +kernel⟩
theorem b_check_days : BindL "check_days" "check_days" s_check_days ["days"] := fun _ _ _ _ _ _ us hl => match us, hl with | [_], _ => rfl
abbrev N_check_starts : List Str := ["days", "starts", "index", "number"]
theorem sc_check_starts : FnScope N_check_starts ["days", "starts"] (defScope s_check_starts) := ⟨rfl, rfl, rfl, by decide +kernel, rfl, by decide +kernel, by decide +kernel⟩
theorem b_check_starts : BindL "check_starts" "check_starts" s_check_starts ["days", "starts"] := fun _ _ _ _ _ _ us hl => match us, hl with | [_, _], _ => rfl
abbrev N_Ring___init__ : List Str := ["self", "days", "starts"]
theorem sc_Ring___init__ : FnScope N_Ring___init__ ["self", "days", "starts"] (defScope s_Ring___init__) := ⟨rfl, rfl, rfl, by decide +kernel, rfl, by decide +kernel, by decide +kernel⟩
theorem b_Ring___init__ : BindL "Ring.__init__" "__init__" s_Ring___init__ ["self", "days", "starts"] := fun _ _ _ _ _ _ us hl => match us, hl with | [_, _, _], _ => rfl
abbrev N_Ring_books : List Str := ["self"]
theorem sc_Ring_books : FnScope N_Ring_books ["self"] (defScope s_Ring_books) := ⟨rfl, rfl, rfl, by decide +kernel, rfl, by decide +kernel, by decide +kernel⟩
theorem b_Ring_books : BindL "Ring.books" "books" s_Ring_books ["self"] := fun _ _ _ _ _ _ us hl => match us, hl with | [_], _ => rfl
abbrev N_Ring___len__ : List Str := ["self"]
theorem sc_Ring___len__ : FnScope N_Ring___len__ ["self"] (defScope s_Ring___len__) := ⟨rfl, rfl, rfl, by decide +kernel, rfl, by decide +kernel, by decide +kernel⟩
theorem b_Ring___len__ : BindL "Ring.__len__" "__len__" s_Ring___len__ ["self"] := fun _ _ _ _ _ _ us hl => match us, hl with | [_], _ => rfl
abbrev N_Ring_need_reader : List Str := ["self", "reader"]
theorem sc_Ring_need_reader : FnScope N_Ring_need_reader ["self", "reader"] (defScope s_Ring_need_reader) := ⟨rfl, rfl, rfl, by decide +kernel, rfl, by decide +kernel, by decide +kernel⟩
theorem b_Ring_need_reader : BindL "Ring.need_reader" "need_reader" s_Ring_need_reader ["self", "reader"] := fun _ _ _ _ _ _ us hl => match us, hl with | [_, _], _ => rfl
end G48
/-! the ring's own defs -/
namespace G48
open PySem PySem.Spec PyProof.Rows L2 Evl
/-! the steps -/
local macro_rules | `(tactic| walk_at "as") => `(tactic| with_reducible assumption)
local macro_rules | `(tactic| walk_at "hp") => `(tactic| first
  | with_reducible assumption
  | ((with_reducible apply SqT.of); walk_at "as")
  | ((with_reducible apply SqL.of); walk_at "as")
  | ((with_reducible apply ex_at); (focus walk_at "as"); walk_at "hp")
  | ((with_reducible apply ex_t); (focus walk_at "as"); walk_at "hp")
  | ((with_reducible apply ex_l); (focus walk_at "as"); walk_at "hp")
  | ((with_reducible apply exb_ins); (focus walk_at "as"); (focus walk_at "hp"); walk_at "hp")
  | ((with_reducible apply exb_t); (focus walk_at "as"); (focus walk_at "hp"); walk_at "hp")
  | ((with_reducible apply exb_at); (focus walk_at "as"); (focus walk_at "ne"); walk_at "hp")
  | ((with_reducible apply exb_l); (focus walk_at "as"); (focus walk_at "ne"); walk_at "hp"))
local macro_rules | `(tactic| walk_at "ne") => `(tactic| first
  | with_reducible assumption
  | exact Ne.symm (by with_reducible assumption)
  | exact ne_of_none (by with_reducible assumption) (by with_reducible assumption)
  | exact Ne.symm (ne_of_none (by with_reducible assumption) (by with_reducible assumption)))
local macro_rules | `(tactic| walk_at "tr") => `(tactic| first
  | rfl
  | with_reducible assumption
  | exact decide_eq_true (by first | with_reducible assumption | omega)
  | exact decide_eq_false (by first | with_reducible assumption | omega)
  | (rw [Bool.not_eq_true']; exact decide_eq_false (by first | with_reducible assumption | omega))
  | (rw [Bool.not_eq_false']; exact decide_eq_true (by first | with_reducible assumption | omega)))
local macro_rules | `(tactic| walk_at "nn") => `(tactic| first | with_reducible assumption | (exact List.cons_ne_nil _ _))
local macro_rules | `(tactic| walk_at "sz") => `(tactic| first | (exact sz1000 (Nat.le_of_ble_eq_true rfl)) | (refine sz1000 ?_; simp only [List.length_map, List.length_cons, List.length_nil, List.length_append]; omega) | with_reducible assumption)
local macro_rules | `(tactic| walk_at "sl") => `(tactic| first | with_reducible assumption | (refine lt1000 ?_; simp only [List.length_map, List.length_cons, List.length_nil, List.length_append]; omega) | (refine lt1000 ?_; omega))
local macro_rules | `(tactic| walk_at "ix") => `(tactic| first | rfl | with_reducible assumption)
local macro_rules | `(tactic| walk_at "rg") => `(tactic| exact RgOk.of_le (by omega) (by omega) (by omega) (by omega))
local macro_rules | `(tactic| walk_at "sp") => `(tactic| fail "sp")
local macro_rules | `(tactic| walk_at "cl") => `(tactic| with_reducible assumption)
local macro_rules | `(tactic| walk_at "lk") => `(tactic| with_reducible assumption)
local macro_rules | `(tactic| walk_at "it") => `(tactic| first | rfl | with_reducible assumption | exact atI_nat (by with_reducible assumption))
local macro_rules | `(tactic| walk_at "g1") => `(tactic| first
  | (with_reducible apply g_var); (focus rfl)
  | with_reducible apply g_c
  | with_reducible apply g_seq
  | with_reducible apply g_asg
  | with_reducible apply gg_name
  | with_reducible apply g_op
  | with_reducible apply g_cons
  | with_reducible apply g_nil
  | with_reducible apply g_cb
  | with_reducible apply g_fld
  | ((with_reducible apply g_kFld); (focus walk_at "hp"); (focus walk_at "cl"); (focus walk_at "cl"); (focus walk_at "lk"))
  | with_reducible apply g_call
  | walk_at "sp"
  | with_reducible apply g_ret
  | with_reducible apply g_drop
  | with_reducible apply g_test
  | with_reducible apply g_B
  | with_reducible apply g_kTest
  | with_reducible apply g_ifS
  | with_reducible apply g_kIfST
  | with_reducible apply g_kIfSF
  | with_reducible apply g_add
  | with_reducible apply g_sub
  | with_reducible apply g_lt
  | with_reducible apply g_le
  | with_reducible apply g_gt
  | with_reducible apply g_ge
  | with_reducible apply g_eqI
  | with_reducible apply g_neI
  | ((with_reducible apply g_mod); (focus first | decide | omega))
  | ((with_reducible apply g_mul); (focus first | (left; constructor <;> omega) | (right; constructor <;> omega)))
  | ((with_reducible apply g_fdiv); (focus (constructor <;> omega)))
  | ((with_reducible apply g_ixT); (focus walk_at "hp"); (focus walk_at "it"))
  | ((with_reducible apply g_ixL); (focus walk_at "hp"); (focus walk_at "it"))
  | with_reducible apply g_and
  | with_reducible apply g_or
  | with_reducible apply g_not
  | with_reducible apply g_kNotT
  | with_reducible apply g_kNotF
  | with_reducible apply g_if
  | with_reducible apply g_kAndT
  | with_reducible apply g_kAndF
  | with_reducible apply g_kOrT
  | with_reducible apply g_kOrF
  | with_reducible apply g_kIfT
  | with_reducible apply g_kIfF
  | with_reducible apply g_next
  | with_reducible apply g_andV
  | with_reducible apply g_orV
  | with_reducible apply g_notV
  | with_reducible apply g_kNotV
  | with_reducible apply g_kAndVT
  | with_reducible apply g_kAndVF
  | with_reducible apply g_chain
  | with_reducible apply g_kChainT
  | with_reducible apply g_kChainF
  | with_reducible apply g_tup
  | with_reducible apply g_lst
  | ((with_reducible apply g_kT); (focus walk_at "sz"); intro _ _ _ _ _)
  | ((with_reducible apply g_kL); (focus walk_at "sz"); intro _ _ _ _ _)
  | with_reducible apply g_un
  | with_reducible apply g_neg
  | with_reducible apply g_meth
  | ((with_reducible apply g_kMeth); (focus walk_at "hp"); (focus walk_at "lk"))
  | with_reducible apply g_prop
  | ((with_reducible apply g_kProp); (focus walk_at "hp"))
  | with_reducible apply g_make
  | with_reducible apply g_par
  | with_reducible apply g_kPar
  | ((with_reducible apply g_lenLM); (focus walk_at "hp"))
  | ((with_reducible apply g_lenTM); (focus walk_at "hp"))
  | ((with_reducible apply g_lenL); (focus walk_at "hp"))
  | ((with_reducible apply g_lenT); (focus walk_at "hp"))
  | with_reducible apply g_int1
  | with_reducible apply g_max2
  | with_reducible apply g_min2
  | ((with_reducible apply g_listL); (focus walk_at "hp"); intro _ _ _ _ _)
  | ((with_reducible apply g_listT); (focus walk_at "hp"); intro _ _ _ _ _)
  | ((with_reducible apply g_tupL); (focus walk_at "hp"); intro _ _ _ _ _)
  | ((with_reducible apply g_sum); (focus walk_at "hp"))
  | with_reducible apply g_sfld
  | with_reducible apply g_sl
  | with_reducible apply g_nopart
  | with_reducible apply g_part
  | with_reducible apply g_kPart
  | with_reducible apply g_lstRg
  | with_reducible apply g_rg1
  | with_reducible apply g_kRg1
  | with_reducible apply g_bm
  | with_reducible apply gg_sub
  | ((with_reducible apply gg_tup); (focus walk_at "hp"); (focus rfl))
  | with_reducible apply gg_cons
  | with_reducible apply gg_nil
  | with_reducible apply g_forL
  | with_reducible apply g_forT
  | with_reducible apply g_forR1
  | with_reducible apply g_forR2
  | with_reducible apply g_forE
  | with_reducible apply g_forEL
  | ((with_reducible apply g_maxT); (focus walk_at "hp"); (focus walk_at "nn"))
  | ((with_reducible apply g_maxL); (focus walk_at "hp"); (focus walk_at "nn"))
  | ((with_reducible apply g_catA); (focus walk_at "hp"); (focus walk_at "hp"); (focus walk_at "sz"); intro _ _ _ _)
  | ((with_reducible apply g_slA); (focus walk_at "hp"); intro _ _ _ _)
  | ((with_reducible apply g_tupD); (focus walk_at "hp"); intro _ _ _ _ _)
  | ((with_reducible apply g_setL); (focus walk_at "hp"); (focus walk_at "ix"); intro _ _ _)
  | ((with_reducible apply g_append); (focus walk_at "hp"); (focus walk_at "sl"); intro _ _ _)
  | ((with_reducible apply g_aug); (focus rfl))
  | with_reducible apply g_ipI
  | with_reducible apply g_retN
  | with_reducible apply g_lcR1
  | with_reducible apply g_lcR2
  | with_reducible apply g_lcL
  | with_reducible apply g_lcU
  | with_reducible apply g_lcN
  | ((with_reducible apply g_kLcG); (focus rfl))
  | with_reducible apply g_yes
  | with_reducible apply g_kLcTT
  | with_reducible apply g_kLcTF
  | ((with_reducible apply g_kLcE); (focus walk_at "hp"); (focus walk_at "sl"); intro _ _ _)
  | ((with_reducible apply g_pow); (focus (constructor <;> (try constructor) <;> decide)))
  | ((with_reducible apply g_kLRg); (focus walk_at "rg"); intro _ _ _ _ _)
  | ((with_reducible apply g_cat); (focus walk_at "hp"); (focus walk_at "hp"); (focus walk_at "sz"); intro _ _ _ _ _)
  | ((with_reducible apply g_slL); (focus walk_at "hp"); intro _ _ _ _ _)
  | with_reducible apply g_bmT
  | with_reducible apply g_break
  | with_reducible apply g_cont)
local macro_rules | `(tactic| walk_at "g0") => `(tactic| try dsimp only [L2.cxOf, L2.Cx.nox, L2.Cx.wish])
local macro_rules | `(tactic| walk_at "yn") => `(tactic| first
  | ((with_reducible apply y_kIfS); (focus walk_at "tr"))
  | ((with_reducible apply n_kIfS); (focus walk_at "tr"))
  | ((with_reducible apply y_kOr); (focus walk_at "tr"))
  | ((with_reducible apply n_kOr); (focus walk_at "tr"))
  | ((with_reducible apply y_kAnd); (focus walk_at "tr"))
  | ((with_reducible apply n_kAnd); (focus walk_at "tr"))
  | ((with_reducible apply y_kNot); (focus walk_at "tr"))
  | ((with_reducible apply n_kNot); (focus walk_at "tr"))
  | ((with_reducible apply y_kIf); (focus walk_at "tr"))
  | ((with_reducible apply n_kIf); (focus walk_at "tr"))
  | ((with_reducible apply y_kAndV); (focus walk_at "tr"))
  | ((with_reducible apply n_kAndV); (focus walk_at "tr"))
  | ((with_reducible apply y_kOrV); (focus walk_at "tr"))
  | ((with_reducible apply n_kOrV); (focus walk_at "tr"))
  | ((with_reducible apply y_kChain); (focus walk_at "tr"))
  | ((with_reducible apply n_kChain); (focus walk_at "tr"))
  | ((with_reducible apply y_kLcT); (focus walk_at "tr"))
  | ((with_reducible apply n_kLcT); (focus walk_at "tr"))
  | ((with_reducible apply y_kWh); (focus walk_at "tr"))
  | ((with_reducible apply n_kWh); (focus walk_at "tr")))
local macro_rules | `(tactic| walk_at "go") => `(tactic| repeat (first | walk_at "g1" | walk_at "yn"))

/-! ### rings as data -/
structure RingOk (ds hs : List Int) : Prop where
  two : 2 ≤ ds.length
  eight : ds.length ≤ 8
  len : hs.length = ds.length
  dd : ∀ d ∈ ds, 1 ≤ d ∧ d ≤ 30
  hh : ∀ h ∈ hs, 0 ≤ h ∧ h ≤ 12
  one : 1 ≤ hs.sum
  twelve : hs.sum ≤ 12
def rf (a b : Addr) (B : Int) : List (Str × V) := [("spans", .ref a), ("heaps", .ref b), ("total", .int B)]
theorem s_sh : ¬ ("spans" : Str) = "heaps" := by decide +kernel
theorem s_st : ¬ ("spans" : Str) = "total" := by decide +kernel
theorem s_ht : ¬ ("heaps" : Str) = "total" := by decide +kernel
theorem s_hs : ¬ ("heaps" : Str) = "spans" := by decide +kernel
theorem rf_eq (a b : Addr) (B : Int) : putF "total" (.int B) (putF "heaps" (.ref b) (putF "spans" (.ref a) [])) = rf a b B := by
  show (if ("spans" : Str) = "total" then _ else _) = _
  unfold rf
  have e1 : putF "heaps" (.ref b) [(("spans" : Str), V.ref a)] = [(("spans" : Str), V.ref a), (("heaps" : Str), V.ref b)] := by
    show (if ("spans" : Str) = "heaps" then _ else _) = _
    rw [if_neg s_sh]
    rfl
  show putF "total" (.int B) (putF "heaps" (.ref b) [(("spans" : Str), V.ref a)]) = _
  rw [e1]
  show (if ("spans" : Str) = "total" then _ else (("spans" : Str), V.ref a) :: (if ("heaps" : Str) = "total" then _ else _)) = _
  rw [if_neg s_st, if_neg s_ht]
  rfl
theorem rf_look (a b : Addr) (B : Int) (f : Str) : (rf a b B).lookup f = if f = "total" then some (.int B) else if f = "heaps" then some (.ref b) else if f = "spans" then some (.ref a) else none := by
  rw [← rf_eq, lookup_putF, lookup_putF, lookup_putF]
  rfl
theorem rf_spans {a b : Addr} {B : Int} : (rf a b B).lookup ("spans" : Str) = some (.ref a) := by rw [rf_look, if_neg s_st, if_neg s_sh, if_pos rfl]
theorem rf_heaps {a b : Addr} {B : Int} : (rf a b B).lookup ("heaps" : Str) = some (.ref b) := by rw [rf_look, if_neg s_ht, if_pos rfl]
theorem rf_total {a b : Addr} {B : Int} : (rf a b B).lookup ("total" : Str) = some (.int B) := by rw [rf_look, if_pos rfl]
theorem rf_no {a b : Addr} {B : Int} {f : Str} (h1 : ¬ f = "total") (h2 : ¬ f = "heaps") (h3 : ¬ f = "spans") : (rf a b B).lookup f = none := by rw [rf_look, if_neg h1, if_neg h2, if_neg h3]
theorem rf_nr {a b : Addr} {B : Int} : (rf a b B).lookup ("need_reader" : Str) = none := rf_no (by decide +kernel) (by decide +kernel) (by decide +kernel)
theorem rf_wd {a b : Addr} {B : Int} : (rf a b B).lookup ("with_days" : Str) = none := rf_no (by decide +kernel) (by decide +kernel) (by decide +kernel)
structure RingC (K : PySem.W.Frag) (C : Addr) : Prop where
  cl : Cls K C
  nS : NoAttr K C "spans"
  nH : NoAttr K C "heaps"
  nT : NoAttr K C "total"
/-- the ring at r -/
structure RingIn (K : PySem.W.Frag) (C : Addr) (H : Hp) (r a b : Addr) (ds hs : List Int) : Prop where
  obj : ∃ dx, H r = some (.ins C dx (rf a b hs.sum))
  sp : SqT K H a (ds.map V.int)
  hp : SqT K H b (hs.map V.int)
  ok : RingOk ds hs
def RingAt (K : PySem.W.Frag) (C : Addr) (H : Hp) (r : Addr) (ds hs : List Int) : Prop := ∃ a b, RingIn K C H r a b ds hs
section
variable {K : PySem.W.Frag} {C : Addr} {H H' : Hp} {r a b l : Addr} {ds hs : List Int} {ys : List V}
theorem RingIn.ex (e : Ex H H') (R : RingIn K C H r a b ds hs) : RingIn K C H' r a b ds hs :=
  ⟨let ⟨dx, h⟩ := R.obj; ⟨dx, e _ _ h⟩, ex_t e R.sp, ex_t e R.hp, R.ok⟩
theorem RingIn.exb (e : Exb l H H') (hl : H l = some (.lst ys)) (R : RingIn K C H r a b ds hs) : RingIn K C H' r a b ds hs :=
  ⟨let ⟨dx, h⟩ := R.obj; ⟨dx, exb_ins e hl h⟩, exb_t e hl R.sp, exb_t e hl R.hp, R.ok⟩
theorem RingAt.ex (e : Ex H H') (R : RingAt K C H r ds hs) : RingAt K C H' r ds hs := let ⟨a, b, R⟩ := R; ⟨a, b, R.ex e⟩
theorem RingAt.exb (e : Exb l H H') (hl : H l = some (.lst ys)) (R : RingAt K C H r ds hs) : RingAt K C H' r ds hs := let ⟨a, b, R⟩ := R; ⟨a, b, R.exb e hl⟩
end
local macro_rules | `(tactic| walk_at "hp") => `(tactic| first
  | ((with_reducible apply RingIn.ex); (focus walk_at "as"); walk_at "hp")
  | ((with_reducible apply RingAt.ex); (focus walk_at "as"); walk_at "hp")
  | ((with_reducible apply RingIn.exb); (focus walk_at "as"); (focus walk_at "hp"); walk_at "hp")
  | ((with_reducible apply RingAt.exb); (focus walk_at "as"); (focus walk_at "hp"); walk_at "hp"))
local macro_rules | `(tactic| walk_at "lk") => `(tactic| first | with_reducible exact rf_spans | with_reducible exact rf_heaps | with_reducible exact rf_total | with_reducible exact rf_nr | with_reducible exact rf_wd)
/-! ### what isinstance says of plain values -/
def isI : V → Bool
  | .int _ => true
  | .bl _ => true
  | _ => false
def isB : V → Bool
  | .bl _ => true
  | _ => false
def inB (lo hi : Int) : V → Bool
  | .int i => decide (lo ≤ i) && decide (i ≤ hi)
  | _ => false
inductive Pl (K : PySem.W.Frag) (H : Hp) : V → Prop where
  | non : Pl K H .non
  | bl (b : Bool) : Pl K H (.bl b)
  | int (i : Int) : Pl K H (.int i)
  | str (x : Str) : Pl K H (.str x)
  | lst {a : Addr} {xs : List V} (h : H a = some (.lst xs)) : Pl K H (.ref a)
  | tup {a : Addr} {xs : List V} (h : H a = some (.tup xs)) : Pl K H (.ref a)
theorem kit_ii : kitB "int" "int" = some true := by decide +kernel
theorem kit_ib : kitB "int" "bool" = some false := by decide +kernel
theorem kit_bi : kitB "bool" "int" = some true := by decide +kernel
theorem kit_bb : kitB "bool" "bool" = some true := by decide +kernel
theorem kit_si : kitB "str" "int" = some false := by decide +kernel
theorem kit_sb : kitB "str" "bool" = some false := by decide +kernel
theorem kit_ni : kitB "NoneType" "int" = some false := by decide +kernel
theorem kit_nb : kitB "NoneType" "bool" = some false := by decide +kernel
theorem kit_li : kitB "list" "int" = some false := by decide +kernel
theorem kit_lb : kitB "list" "bool" = some false := by decide +kernel
theorem kit_ti : kitB "tuple" "int" = some false := by decide +kernel
theorem kit_tb : kitB "tuple" "bool" = some false := by decide +kernel
theorem kit_tt : kitB "tuple" "tuple" = some true := by decide +kernel
theorem kit_ll : kitB "list" "list" = some true := by decide +kernel
theorem Pl.ty {K : PySem.W.Frag} {H : Hp} {v : V} (h : Pl K H v) : ∃ u, TyX K H v u ∧ PySem.W.kitOne K u (.type "int") = some (isI v) ∧ PySem.W.kitOne K u (.type "bool") = some (isB v) := by
  cases h with
  | non => exact ⟨_, .base .non, kit_ty kit_ni, kit_ty kit_nb⟩
  | bl b => exact ⟨_, .base (.bl b), kit_ty kit_bi, kit_ty kit_bb⟩
  | int i => exact ⟨_, .base (.int i), kit_ty kit_ii, kit_ty kit_ib⟩
  | str x => exact ⟨_, .base (.str x), kit_ty kit_si, kit_ty kit_sb⟩
  | lst h => exact ⟨_, .base (.lst h), kit_ty kit_li, kit_ty kit_lb⟩
  | tup h => exact ⟨_, .base (.tup h), kit_ty kit_ti, kit_ty kit_tb⟩
theorem sqT_ty {K : PySem.W.Frag} {H : Hp} {a : Addr} {xs : List V} (h : SqT K H a xs) : TyX K H (.ref a) (.type "tuple") := by
  rcases h with (h | ⟨o, h⟩) | ⟨o, its, n, h, hc, _⟩
  · exact .base (.tup h)
  · exact .fTuple h
  · exact .kTuple h hc
theorem sqL_ty {K : PySem.W.Frag} {H : Hp} {a : Addr} {xs : List V} (h : SqL K H a xs) : TyX K H (.ref a) (.type "list") := by
  rcases h with (h | ⟨o, h⟩) | ⟨o, its, n, h, hc, _⟩
  · exact .base (.lst h)
  · exact .base (.frz h)
  · exact .kList h hc
theorem g_isiTup {K : PySem.W.Frag} {H : Hp} {a : Addr} {xs : List V} {Q : VK} (h : SqT K H a xs) (q : Q (.bl true) H) : rIsi K [.ref a, .ty "tuple"] H Q := g_isi (.ty _) (sqT_ty h) (kit_ty kit_tt) q
theorem g_isiLst {K : PySem.W.Frag} {H : Hp} {a : Addr} {xs : List V} {Q : VK} (h : SqL K H a xs) (q : Q (.bl true) H) : rIsi K [.ref a, .ty "list"] H Q := g_isi (.ty _) (sqL_ty h) (kit_ty kit_ll) q
local macro_rules | `(tactic| walk_at "sp") => `(tactic| first
  | ((with_reducible apply g_isiTup); (focus walk_at "hp"))
  | ((with_reducible apply g_isiLst); (focus walk_at "hp")))
section
variable {P : Program} {w : World} {K : PySem.W.Frag} {mg : Str → Option Value} {base : Heap} {C : Addr}
/-! ### is_integer, check_number -/
def sp_is_integer (K : PySem.W.Frag) : Sp := fun vs H Q _ => ∃ v lo hi, vs = [v, .int lo, .int hi] ∧ Pl K H v ∧ Q (.bl (inB lo hi v)) H
theorem ok_is_integer (Z : Blt mg) (G : GFun K mg "is_integer" s_is_integer) : Df P w K mg base 1 "is_integer" ["value", "low", "high"] (sp_is_integer K) := by
  refine Df.of G sc_is_integer b_is_integer (fun vs H Q E h => ?_) (fun f cdv A outer s H vs Q E hr h => ?_)
  · obtain ⟨v, lo, hi, rfl, _⟩ := h
    rfl
  · obtain ⟨v, lo, hi, rfl, hp, q⟩ := h
    obtain ⟨u, ty, k1, k2⟩ := hp.ty
    refine ⟨_, PSs.nox (pss_one (ps_ret (pe_and (pe_callB call_isi (by rfl) Z.zisinstance (by decide +kernel) (pa_cons (pv 0) (pa_cons (pe_bltn rfl Z.zint (v := .ty "int") (by decide +kernel) rfl) pa_nil))) (pe_and (pe_not (pe_callB call_isi (by rfl) Z.zisinstance (by decide +kernel) (pa_cons (pv 0) (pa_cons (pe_bltn rfl Z.zbool (v := .ty "bool") (by decide +kernel) rfl) pa_nil)))) (pe_one (pe_chain op_le op_le (pv 1) (pv 0) (pv 2))))))), ?_⟩
    walk_at "g0"
    walk_at "go"
    refine g_isi (.ty _) ty k1 ?_
    cases v with
    | int i =>
      refine g_kAndVT ?_
      walk_at "go"
      refine g_isi (.ty _) ty k2 ?_
      walk_at "go"
      refine g_kChain (fun h2 => ?_) (fun h2 => ?_)
      · walk_at "go"
        show Q _ _
        have e : inB lo hi (.int i) = decide (i ≤ hi) := by simp [inB, h2]
        rw [e] at q
        exact q
      · have e : inB lo hi (.int i) = false := by simp [inB, h2]
        rw [e] at q
        exact q
    | bl b =>
      refine g_kAndVT ?_
      walk_at "go"
      refine g_isi (.ty _) ty k2 ?_
      walk_at "go"
      exact q
    | _ => exact g_kAndVF q
theorem g_isint {H : Hp} {Q : VK} {E : XK} {i lo hi : Int} (h1 : lo ≤ i) (h2 : i ≤ hi) (q : Q (.bl true) H) : sp_is_integer K [.int i, .int lo, .int hi] H Q E :=
  ⟨_, lo, hi, rfl, .int i, by
    show Q (.bl (decide (lo ≤ i) && decide (i ≤ hi))) H
    rw [decide_eq_true h1, decide_eq_true h2]
    exact q⟩
local macro_rules | `(tactic| walk_at "sp") => `(tactic| ((with_reducible apply g_isint); (focus omega); (focus omega)))
def sp_check_number : Sp := fun vs H Q _ => ∃ i lo hi, vs = [.int i, .int lo, .int hi] ∧ (lo ≤ i ∧ i ≤ hi) ∧ Q .non H
theorem ok_check_number (Z : Blt mg) (D_is_integer : Df P w K mg base 1 "is_integer" ["value", "low", "high"] (sp_is_integer K)) (G : GFun K mg "check_number" s_check_number) : Df P w K mg base 2 "check_number" ["number", "low", "high"] sp_check_number := by
  refine Df.of G sc_check_number b_check_number (fun vs H Q E h => ?_) (fun f cdv A outer s H vs Q E hr h => ?_)
  · obtain ⟨i, lo, hi, rfl, _⟩ := h
    rfl
  · obtain ⟨i, lo, hi, rfl, ⟨h1, h2⟩, q⟩ := h
    refine ⟨_, PSs.nox (pss_one (ps_if (pt_not (pt_val (pg D_is_integer hr (pa_cons (pv 0) (pa_cons (pv 1) (pa_cons (pv 2) pa_nil)))))) (pss_one ps_never) pss_nil)), ?_⟩
    walk_at "g0"
    walk_at "go"
    exact q
theorem g_checkn {H : Hp} {Q : VK} {E : XK} {i lo hi : Int} (h1 : lo ≤ i) (h2 : i ≤ hi) (q : Q .non H) : sp_check_number [.int i, .int lo, .int hi] H Q E := ⟨i, lo, hi, rfl, ⟨h1, h2⟩, q⟩
local macro_rules | `(tactic| walk_at "sp") => `(tactic| ((with_reducible apply g_checkn); (focus omega); (focus omega)))
/-! ### check_days, check_starts -/
def sp_check_days (K : PySem.W.Frag) : Sp := fun vs H Q _ => ∃ (a : Addr) (ds : List Int), vs = [.ref a] ∧ SqT K H a (ds.map V.int) ∧ (2 ≤ ds.length ∧ ds.length ≤ 8) ∧ (∀ d ∈ ds, 1 ≤ d ∧ d ≤ 30) ∧ ∀ H', Ex H H' → Q .non H'
theorem at_int {ns : List Int} {i : Nat} {x : V} (h : (ns.map V.int)[i]? = some x) : ∃ n, x = .int n ∧ ns[i]? = some n ∧ n ∈ ns ∧ i < ns.length := by
  rw [List.getElem?_map] at h
  cases e : ns[i]? with
  | none => rw [e] at h; cases h
  | some n =>
    rw [e] at h
    exact ⟨n, (Option.some.inj h).symm, rfl, List.mem_of_getElem? e, (List.getElem?_eq_some_iff.mp e).1⟩
theorem ok_check_days (Z : Blt mg) (c_MAX_READERS : ∃ t, mg "MAX_READERS" = some (.int 8 t)) (c_MAX_DAYS : ∃ t, mg "MAX_DAYS" = some (.int 30 t))
    (D_is_integer : Df P w K mg base 1 "is_integer" ["value", "low", "high"] (sp_is_integer K)) (G : GFun K mg "check_days" s_check_days) : Df P w K mg base 2 "check_days" ["days"] (sp_check_days K) := by
  refine Df.of G sc_check_days b_check_days (fun vs H Q E h => ?_) (fun f cdv A outer s H vs Q E hr h => ?_)
  · obtain ⟨a, ds, rfl, _⟩ := h
    rfl
  · obtain ⟨a, ds, rfl, hS, ⟨h2, h8⟩, hd, q⟩ := h
    refine ⟨_, PSs.nox (pss_cons (ps_if (pt_not (pt_val (pe_callB call_isi (by rfl) Z.zisinstance (by decide +kernel) (pa_cons (pv 0) (pa_cons (pe_bltn rfl Z.ztuple (v := .ty "tuple") (by decide +kernel) rfl) pa_nil))))) (pss_one ps_never) pss_nil)
      (pss_cons (ps_for PassesOwn.never rfl (pi_enumT (by rfl) Z.zenumerate (pa_cons (pv 0) pa_nil)) (pg_tup (by rfl) (pgs_cons (pg_name (i := 1) sc_check_days.nd rfl (by first | exact Or.inl rfl | exact Or.inr rfl)) (pgs_cons (pg_name (i := 2) sc_check_days.nd rfl (by first | exact Or.inl rfl | exact Or.inr rfl)) pgs_nil))) (pss_one (ps_if (PW.pt (pw_or (pt_cmpR op_eq (pv 1) (pint c_MAX_READERS) (nomark _)) (pw_or1 (pt_not (pt_val (pg D_is_integer hr (pa_cons (pv 2) (pa_cons pe_int (pa_cons (pint c_MAX_DAYS) pa_nil))))))))) (pss_one ps_never) pss_nil)))
      (pss_one (ps_if (pt_cmpR op_lt (pe_callB c_len (by rfl) Z.zlen PySem.boot_len (pa_cons (pv 0) pa_nil)) pe_int (nomark _)) (pss_one ps_never) pss_nil)))), ?_⟩
    walk_at "g0"
    walk_at "go"
    refine g_kForE hS (fun i σ H' => ∃ v1 v2, σ = [some (.ref a), v1, v2] ∧ Ex H H') ⟨none, none, rfl, Ex.refl _⟩ (fun i σ H' _ ⟨_, _, _, e⟩ => ex_t e hS) ?_ ?_
    · rintro i x σ H' T H2 hx ⟨v1, v2, rfl, e1⟩ e2 nT hT
      obtain ⟨n, rfl, hn, hm, hi⟩ := at_int hx
      have := hd n hm
      walk_at "go"
      exact ⟨_, _, rfl, e1.trans e2⟩
    · rintro σ H' ⟨v1, v2, rfl, e1⟩
      walk_at "go"
      exact q _ e1
theorem g_checkd {H : Hp} {Q : VK} {E : XK} {a : Addr} {ds : List Int} (h : SqT K H a (ds.map V.int)) (h2 : 2 ≤ ds.length) (h8 : ds.length ≤ 8) (hd : ∀ d ∈ ds, 1 ≤ d ∧ d ≤ 30) (q : ∀ H', Ex H H' → Q .non H') : sp_check_days K [.ref a] H Q E := ⟨a, ds, rfl, h, ⟨h2, h8⟩, hd, q⟩
def sp_check_starts (K : PySem.W.Frag) : Sp := fun vs H Q _ => ∃ (a b : Addr) (ds hs : List Int), vs = [.ref a, .ref b] ∧ SqT K H a (ds.map V.int) ∧ SqT K H b (hs.map V.int) ∧ RingOk ds hs ∧ ∀ H', Ex H H' → Q .non H'
theorem ok_check_starts (Z : Blt mg) (c_MAX_BOOKS : ∃ t, mg "MAX_BOOKS" = some (.int 12 t))
    (D_is_integer : Df P w K mg base 1 "is_integer" ["value", "low", "high"] (sp_is_integer K)) (G : GFun K mg "check_starts" s_check_starts) : Df P w K mg base 2 "check_starts" ["days", "starts"] (sp_check_starts K) := by
  refine Df.of G sc_check_starts b_check_starts (fun vs H Q E h => ?_) (fun f cdv A outer s H vs Q E hr h => ?_)
  · obtain ⟨a, b, ds, hs, rfl, _⟩ := h
    rfl
  · obtain ⟨a, b, ds, hs, rfl, hS, hT, R, q⟩ := h
    have r1 := R.len
    have r2 := R.one
    have r3 := R.twelve
    refine ⟨_, PSs.nox (pss_cons (ps_if (pt_not (pt_val (pe_callB call_isi (by rfl) Z.zisinstance (by decide +kernel) (pa_cons (pv 1) (pa_cons (pe_bltn rfl Z.ztuple (v := .ty "tuple") (by decide +kernel) rfl) pa_nil))))) (pss_one ps_never) pss_nil)
      (pss_cons (ps_for PassesOwn.never rfl (pi_enumT (by rfl) Z.zenumerate (pa_cons (pv 1) pa_nil)) (pg_tup (by rfl) (pgs_cons (pg_name (i := 2) sc_check_starts.nd rfl (by first | exact Or.inl rfl | exact Or.inr rfl)) (pgs_cons (pg_name (i := 3) sc_check_starts.nd rfl (by first | exact Or.inl rfl | exact Or.inr rfl)) pgs_nil))) (pss_one (ps_if (PW.pt (pw_or (pt_cmpR op_eq (pv 2) (pe_callB c_len (by rfl) Z.zlen PySem.boot_len (pa_cons (pv 0) pa_nil)) (nomark _)) (pw_or1 (pt_not (pt_val (pg D_is_integer hr (pa_cons (pv 3) (pa_cons pe_int (pa_cons (pint c_MAX_BOOKS) pa_nil))))))))) (pss_one ps_never) pss_nil)))
      (pss_cons (ps_if (pt_cmpR op_lt (pe_callB c_len (by rfl) Z.zlen PySem.boot_len (pa_cons (pv 1) pa_nil)) (pe_callB c_len (by rfl) Z.zlen PySem.boot_len (pa_cons (pv 0) pa_nil)) (nomark _)) (pss_one ps_never) pss_nil)
      (pss_one (ps_if (pt_not (pt_chain op_le op_le pe_int (pe_callB (cr_sum rfl) (by rfl) Z.zsum (by decide +kernel) (pa_cons (pe_callTy c_list_of (by rfl) Z.zlist (by decide +kernel) (pa_cons (pv 1) pa_nil)) pa_nil)) (pint c_MAX_BOOKS))) (pss_one ps_never) pss_nil))))), ?_⟩
    walk_at "g0"
    walk_at "go"
    refine g_kForE hT (fun i σ H' => ∃ v1 v2, σ = [some (.ref a), some (.ref b), v1, v2] ∧ Ex H H') ⟨none, none, rfl, Ex.refl _⟩ (fun i σ H' _ ⟨_, _, _, e⟩ => ex_t e hT) ?_ ?_
    · rintro i x σ H' T H2 hx ⟨v1, v2, rfl, e1⟩ e2 nT hT2
      obtain ⟨n, rfl, hn, hm, hi⟩ := at_int hx
      have := R.hh n hm
      walk_at "go"
      exact ⟨_, _, rfl, e1.trans e2⟩
    · rintro σ H' ⟨v1, v2, rfl, e1⟩
      walk_at "go"
      rename_i e3 _
      exact q _ (e1.trans e3)
theorem g_checks {H : Hp} {Q : VK} {E : XK} {a b : Addr} {ds hs : List Int} (h : SqT K H a (ds.map V.int)) (h2 : SqT K H b (hs.map V.int)) (R : RingOk ds hs) (q : ∀ H', Ex H H' → Q .non H') : sp_check_starts K [.ref a, .ref b] H Q E := ⟨a, b, ds, hs, rfl, h, h2, R, q⟩
/-! ### lowest_terms, pace_of -/
/-- a fraction in lowest terms -/
def low (a b : Int) : Int × Int := (a / (Int.gcd a b : Int), b / (Int.gcd a b : Int))
def RTup (K : PySem.W.Frag) (H : Hp) (xs : List V) (Q : VK) : Prop := ∀ p H', Ex H H' → SqT K H' p xs → Q (.ref p) H'
def sp_lowest_terms (K : PySem.W.Frag) : Sp := fun vs H Q _ => ∃ a b : Int, vs = [.int a, .int b] ∧ (0 < a ∧ 0 < b ∧ b < 1073741824) ∧ RTup K H [.int (low a b).1, .int (low a b).2] Q
theorem gcd_step (a b : Int) : Int.gcd b (a % b) = Int.gcd a b := by
  rw [Int.gcd_comm a b, Int.emod_def, Int.gcd_sub_mul_left_right]
theorem g_lowest {H : Hp} {Q : VK} {E : XK} {a b : Int} (h1 : 0 < a) (h2 : 0 < b) (h3 : b < 1073741824) (q : RTup K H [.int (low a b).1, .int (low a b).2] Q) : sp_lowest_terms K [.int a, .int b] H Q E := ⟨a, b, rfl, ⟨h1, h2, h3⟩, q⟩
/-- the pace -/
def paceN (ds : List Int) (B : Int) : Int × Int := if ds.sum ≤ mx ds * B then (mx ds, 1) else low ds.sum B
def PaceV (ds : List Int) (B : Int) : List V := [.int (paceN ds B).1, .int (paceN ds B).2]
structure DaysOk (ds : List Int) : Prop where
  two : 2 ≤ ds.length
  eight : ds.length ≤ 8
  dd : ∀ d ∈ ds, 1 ≤ d ∧ d ≤ 30
theorem DaysOk.ne {ds : List Int} (h : DaysOk ds) : ds ≠ [] := fun e => by
  have := h.two
  rw [e] at this
  simp at this
theorem DaysOk.mx {ds : List Int} (h : DaysOk ds) : 1 ≤ mx ds ∧ mx ds ≤ 30 := h.dd _ (mx_mem h.ne)
theorem sum_le {ds : List Int} {lo hi : Int} (h : ∀ d ∈ ds, lo ≤ d ∧ d ≤ hi) : lo * ds.length ≤ ds.sum ∧ ds.sum ≤ hi * ds.length := by
  induction ds with
  | nil => simp
  | cons x r ih =>
    have h1 := h x List.mem_cons_self
    have h2 := ih fun d hd => h d (List.mem_cons_of_mem _ hd)
    rw [List.sum_cons, List.length_cons]
    have e1 : lo * ((r.length + 1 : Nat) : Int) = lo * r.length + lo := by
      rw [Int.natCast_add, Int.mul_add]
      simp
    have e2 : hi * ((r.length + 1 : Nat) : Int) = hi * r.length + hi := by
      rw [Int.natCast_add, Int.mul_add]
      simp
    omega
theorem DaysOk.sum {ds : List Int} (h : DaysOk ds) : 2 ≤ ds.sum ∧ ds.sum ≤ 240 := by
  have h1 := sum_le h.dd
  have h2 := h.two
  have h3 := h.eight
  omega
theorem RingOk.days {ds hs : List Int} (h : RingOk ds hs) : DaysOk ds := ⟨h.two, h.eight, h.dd⟩
def sp_pace_of (K : PySem.W.Frag) : Sp := fun vs H Q _ => ∃ (a : Addr) (ds : List Int) (B : Int), vs = [.ref a, .int B] ∧ SqT K H a (ds.map V.int) ∧ DaysOk ds ∧ (1 ≤ B ∧ B ≤ 1000) ∧ RTup K H (PaceV ds B) Q
theorem g_paceof {H : Hp} {Q : VK} {E : XK} {a : Addr} {ds : List Int} {B : Int} (h : SqT K H a (ds.map V.int)) (hd : DaysOk ds) (hb : 1 ≤ B ∧ B ≤ 1000) (q : ∀ p H', Ex H H' → SqT K H' p (PaceV ds B) → Q (.ref p) H') : sp_pace_of K [.ref a, .int B] H Q E := ⟨a, ds, B, rfl, h, hd, hb, q⟩
/-! ### Ring -/
def sp_Ring_init (K : PySem.W.Frag) (C : Addr) : Sp := fun vs H Q _ => ∃ (x a b dx : Addr) (ds hs : List Int), vs = [.ref x, .ref a, .ref b] ∧ H x = some (.ins C dx []) ∧ SqT K H a (ds.map V.int) ∧ SqT K H b (hs.map V.int) ∧ RingOk ds hs ∧
  ∀ H', Exb x H H' → RingIn K C H' x a b ds hs → Q .non H'
theorem exb_ti {K : PySem.W.Frag} {H H' : Hp} {l a C dx : Addr} {xs : List V} {fs : List (Str × V)} (e : Exb l H H') (hl : H l = some (.ins C dx fs)) (h : SqT K H a xs) : SqT K H' a xs := by
  rcases h with (h | ⟨o, h⟩) | h
  · exact .inl (.inl (e _ _ (ne_of h hl (by intro z; cases z)) h))
  · exact .inl (.inr ⟨o, e _ _ (ne_of h hl (by intro z; cases z)) h⟩)
  · exact .inr h
theorem ok_Ring_init (Z : Blt mg) (R : RingC K C) (D_check_days : Df P w K mg base 2 "check_days" ["days"] (sp_check_days K)) (D_check_starts : Df P w K mg base 2 "check_starts" ["days", "starts"] (sp_check_starts K))
    (G : IFun K mg "Ring" C "Ring.__init__" s_Ring___init__) : If P w K mg base "Ring" C 3 ["self", "days", "starts"] (sp_Ring_init K C) := by
  refine If.of G sc_Ring___init__ b_Ring___init__ (fun vs H Q E h => ?_) (fun f cdv A outer s H vs Q E hr h => ?_)
  · obtain ⟨x, a, b, dx, ds, hs, rfl, _⟩ := h
    rfl
  · obtain ⟨x, a, b, dx, ds, hs, rfl, hx, hS, hT, O, q⟩ := h
    obtain ⟨cl_Ring, nS, nH, nT⟩ := R
    refine ⟨_, PSs.nox (pss_cons (ps_expr (pg D_check_days hr (pa_cons (pv 1) pa_nil)))
      (pss_cons (ps_expr (pg D_check_starts hr (pa_cons (pv 1) (pa_cons (pv 2) pa_nil))))
      (pss_cons (ps_fld (pv 0) (pv 1) rfl)
      (pss_cons (ps_fld (pv 0) (pv 2) rfl)
      (pss_one (ps_fld (pv 0) (pe_callB (cr_sum rfl) (by rfl) Z.zsum (by decide +kernel) (pa_cons (pe_callTy c_list_of (by rfl) Z.zlist (by decide +kernel) (pa_cons (pv 2) pa_nil)) pa_nil)) rfl)))))), ?_⟩
    walk_at "g0"
    walk_at "go"
    refine g_checkd hS O.two O.eight O.dd fun H1 e1 => ?_
    walk_at "go"
    refine g_checks (ex_t e1 hS) (ex_t e1 hT) O fun H2 e2 => ?_
    have hx2 : H2 x = some (.ins C dx []) := e2 _ _ (e1 _ _ hx)
    have hS2 := ex_t (e1.trans e2) hS
    have hT2 := ex_t (e1.trans e2) hT
    walk_at "go"
    refine g_kSFld hx2 cl_Ring nS (by decide) fun H3 e3 hx3 => ?_
    have hS3 := exb_ti e3 hx2 hS2
    have hT3 := exb_ti e3 hx2 hT2
    walk_at "go"
    refine g_kSFld hx3 cl_Ring nH (Nat.lt_of_le_of_lt (length_putF _ _ _) (by decide)) fun H4 e4 hx4 => ?_
    have hS4 := exb_ti e4 hx3 hS3
    have hT4 := exb_ti e4 hx3 hT3
    walk_at "go"
    rename_i l H5 _ e5 hl
    refine g_kSFld (e5 _ _ hx4) cl_Ring nT (Nat.lt_of_le_of_lt (length_putF _ _ _) (Nat.lt_of_le_of_lt (Nat.succ_le_succ (length_putF _ _ _)) (by decide))) fun H6 e6 hx6 => ?_
    have hS6 := exb_ti e6 (e5 _ _ hx4) (ex_t e5 hS4)
    have hT6 := exb_ti e6 (e5 _ _ hx4) (ex_t e5 hT4)
    refine q H6 ?_ ⟨⟨dx, by rw [hx6, ← rf_eq]⟩, hS6, hT6, O⟩
    exact ((((Exb.of (e1.trans e2)).trans e3).trans e4).trans (Exb.of e5)).trans e6
/-- Ring(a, b) -/
theorem g_mkRing {H : Hp} {Q : VK} {E : XK} {a b : Addr} {ds hs : List Int} (hS : SqT K H a (ds.map V.int)) (hT : SqT K H b (hs.map V.int)) (O : RingOk ds hs) (q : ∀ r H', H r = none → Ex H H' → RingIn K C H' r a b ds hs → Q (.ref r) H') :
    kMake C (sp_Ring_init K C) E Q [.ref a, .ref b] H := by
  intro x dx nx ndx ne
  have e1 : Ex H (upd (upd H dx (.own x)) x (.ins C dx [])) := fun c o h => by
    rw [upd_ne (ne_of_none h nx), upd_ne (ne_of_none h ndx)]
    exact h
  exact ⟨x, a, b, dx, ds, hs, rfl, upd_same, ex_t e1 hS, ex_t e1 hT, O, fun H' e2 R => ⟨rfl, q x H' nx (Exb.ex nx e1 e2) R⟩⟩
/-- properties -/
def sp_Ring_days (K : PySem.W.Frag) (C : Addr) : Sp := fun vs H Q _ => ∃ (r a b : Addr) (ds hs : List Int), vs = [.ref r] ∧ RingIn K C H r a b ds hs ∧ Q (.ref a) H
def sp_Ring_starts (K : PySem.W.Frag) (C : Addr) : Sp := fun vs H Q _ => ∃ (r a b : Addr) (ds hs : List Int), vs = [.ref r] ∧ RingIn K C H r a b ds hs ∧ Q (.ref b) H
def sp_Ring_books (K : PySem.W.Frag) (C : Addr) : Sp := fun vs H Q _ => ∃ (r a b : Addr) (ds hs : List Int), vs = [.ref r] ∧ RingIn K C H r a b ds hs ∧ Q (.int hs.sum) H
def sp_Ring_pace (K : PySem.W.Frag) (C : Addr) : Sp := fun vs H Q _ => ∃ (r a b : Addr) (ds hs : List Int), vs = [.ref r] ∧ RingIn K C H r a b ds hs ∧ RTup K H (PaceV ds hs.sum) Q
def sp_Ring_len (K : PySem.W.Frag) (C : Addr) : Sp := fun vs H Q _ => ∃ (r a b : Addr) (ds hs : List Int), vs = [.ref r] ∧ RingIn K C H r a b ds hs ∧ Q (.int (ds.length : Int)) H
theorem ok_Ring_books (Z : Blt mg) (R : RingC K C) (G : PFun K C "books" "Ring.books" s_Ring_books) : Pf P w K mg base C 1 "books" ["self"] (sp_Ring_books K C) := by
  refine Pf.of G sc_Ring_books b_Ring_books (fun vs H Q E h => ?_) (fun f cdv A outer s H vs Q E hr h => ?_)
  · obtain ⟨r, a, b, ds, hs, rfl, _⟩ := h
    rfl
  · obtain ⟨r, a, b, ds, hs, rfl, ⟨⟨dx, ho⟩, hS, hT, O⟩, q⟩ := h
    obtain ⟨cl_Ring, nS, nH, nT⟩ := R
    refine ⟨_, PSs.nox (pss_one (ps_ret (pe_fld (pv 0) rfl))), ?_⟩
    walk_at "g0"
    walk_at "go"
    exact q
theorem ok_Ring_len (Z : Blt mg) (R : RingC K C) (G : CFun K C "__len__" "Ring.__len__" s_Ring___len__) : Mf P w K mg base C 1 "__len__" ["self"] (sp_Ring_len K C) := by
  refine Mf.of G sc_Ring___len__ b_Ring___len__ (fun vs H Q E h => ?_) (fun f cdv A outer s H vs Q E hr h => ?_)
  · obtain ⟨r, a, b, ds, hs, rfl, _⟩ := h
    rfl
  · obtain ⟨r, a, b, ds, hs, rfl, ⟨⟨dx, ho⟩, hS, hT, O⟩, q⟩ := h
    obtain ⟨cl_Ring, nS, nH, nT⟩ := R
    refine ⟨_, PSs.nox (pss_one (ps_ret (pe_callB c_len (by rfl) Z.zlen PySem.boot_len (pa_cons (pe_fld (pv 0) rfl) pa_nil)))), ?_⟩
    walk_at "g0"
    walk_at "go"
    exact q
def sp_Ring_need (K : PySem.W.Frag) (C : Addr) : Sp := fun vs H Q _ => ∃ (r a b : Addr) (ds hs : List Int) (k : Nat), vs = [.ref r, .int (k : Int)] ∧ RingIn K C H r a b ds hs ∧ k < ds.length ∧ Q .non H
theorem ok_Ring_need (Z : Blt mg) (R : RingC K C) (D_is_integer : Df P w K mg base 1 "is_integer" ["value", "low", "high"] (sp_is_integer K)) (G : CFun K C "need_reader" "Ring.need_reader" s_Ring_need_reader) : Mf P w K mg base C 2 "need_reader" ["self", "reader"] (sp_Ring_need K C) := by
  refine Mf.of G sc_Ring_need_reader b_Ring_need_reader (fun vs H Q E h => ?_) (fun f cdv A outer s H vs Q E hr h => ?_)
  · obtain ⟨r, a, b, ds, hs, k, rfl, _⟩ := h
    rfl
  · obtain ⟨r, a, b, ds, hs, k, rfl, ⟨⟨dx, ho⟩, hS, hT, O⟩, hk, q⟩ := h
    obtain ⟨cl_Ring, nS, nH, nT⟩ := R
    refine ⟨_, PSs.nox (pss_one (ps_if (pt_not (pt_val (pg D_is_integer hr (pa_cons (pv 1) (pa_cons pe_int (pa_cons (pe_op op_sub (pe_callB c_len (by rfl) Z.zlen PySem.boot_len (pa_cons (pe_fld (pv 0) rfl) pa_nil)) pe_int) pa_nil)))))) (pss_one ps_never) pss_nil)), ?_⟩
    walk_at "g0"
    walk_at "go"
    exact q
/-! with_days -/
theorem cut_lo (ds : List Int) (k : Nat) (hk : k ≤ ds.length) : cutV (ds.map V.int) none (some (k : Int)) = (ds.take k).map V.int := by
  unfold cutV
  rw [HT.sIx_none, HT.sIx_nat, List.length_map, List.drop_zero, Nat.sub_zero, Nat.min_eq_left hk, List.map_take]
theorem cut_hi (ds : List Int) (k : Nat) (hk : k ≤ ds.length) : cutV (ds.map V.int) (some (k : Int)) none = (ds.drop k).map V.int := by
  unfold cutV
  rw [HT.sIx_none, HT.sIx_nat, List.length_map, Nat.min_eq_left hk, List.map_drop]
  refine List.take_of_length_le ?_
  rw [List.length_drop, List.length_map]
  exact Nat.le_refl _
theorem set_split {α : Type} (ds : List α) (k : Nat) (n : α) (hk : k < ds.length) : ds.take k ++ [n] ++ ds.drop (k + 1) = ds.set k n := by
  rw [List.set_eq_take_append_cons_drop, if_pos hk, List.append_assoc]
  rfl
theorem RingOk.set {ds hs : List Int} (O : RingOk ds hs) (k : Nat) {n : Int} (h : 1 ≤ n ∧ n ≤ 30) : RingOk (ds.set k n) hs :=
  ⟨by rw [List.length_set]; exact O.two, by rw [List.length_set]; exact O.eight, by rw [List.length_set]; exact O.len, fun d hd => by
    rcases List.mem_or_eq_of_mem_set hd with h1 | h1
    · exact O.dd d h1
    · rw [h1]; exact h, O.hh, O.one, O.twelve⟩
def sp_Ring_with (K : PySem.W.Frag) (C : Addr) : Sp := fun vs H Q _ => ∃ (r a b : Addr) (ds hs : List Int) (k : Nat) (n : Int), vs = [.ref r, .int (k : Int), .int n] ∧ RingIn K C H r a b ds hs ∧ k < ds.length ∧ (1 ≤ n ∧ n ≤ 30) ∧
  ∀ r' a' H', H r' = none → Ex H H' → RingIn K C H' r' a' b (ds.set k n) hs → Q (.ref r') H'
/-! ### the promises as steps -/
theorem RingIn.obj1 {H : Hp} {r a b : Addr} {ds hs : List Int} (R : RingIn K C H r a b ds hs) : ∃ dx, H r = some (.ins C dx (rf a b hs.sum)) := R.obj
theorem g_rbooks {H : Hp} {Q : VK} {E : XK} {r a b : Addr} {ds hs : List Int} (R : RingIn K C H r a b ds hs) (q : Q (.int hs.sum) H) : kProp C (sp_Ring_books K C) E Q (.ref r) H :=
  let ⟨dx, ho⟩ := R.obj; ⟨r, dx, _, rfl, ho, r, a, b, ds, hs, rfl, R, q⟩
theorem g_rpace {H : Hp} {Q : VK} {E : XK} {r a b : Addr} {ds hs : List Int} (R : RingIn K C H r a b ds hs) (q : ∀ p H', Ex H H' → SqT K H' p (PaceV ds hs.sum) → Q (.ref p) H') : kProp C (sp_Ring_pace K C) E Q (.ref r) H :=
  let ⟨dx, ho⟩ := R.obj; ⟨r, dx, _, rfl, ho, r, a, b, ds, hs, rfl, R, q⟩
theorem g_rlen {H : Hp} {Q : VK} {E : XK} {r a b : Addr} {ds hs : List Int} (R : RingIn K C H r a b ds hs) (q : Q (.int (ds.length : Int)) H) : rLenO C (sp_Ring_len K C) E [.ref r] H Q :=
  let ⟨dx, ho⟩ := R.obj; ⟨r, dx, _, rfl, ho, r, a, b, ds, hs, rfl, R, ds.length, rfl, ⟨by omega, by have := R.ok.eight; omega⟩, q⟩
theorem g_rneed {H : Hp} {Q : VK} {E : XK} {r a b : Addr} {ds hs : List Int} {k : Nat} (R : RingIn K C H r a b ds hs) (hk : k < ds.length) (q : Q .non H) : sp_Ring_need K C [.ref r, .int (k : Int)] H Q E := ⟨r, a, b, ds, hs, k, rfl, R, hk, q⟩
theorem g_rneedM {H : Hp} {Q : VK} {E : XK} {r a b : Addr} {ds hs : List Int} {tr : TA} {σ : L2.St} (R : RingIn K C H r a b ds hs) (q : tr σ H fun vs H2 => sp_Ring_need K C (.ref r :: vs) H2 Q E) : kMeth C "need_reader" (sp_Ring_need K C) E tr σ Q (.ref r) H :=
  let ⟨dx, ho⟩ := R.obj; g_kMeth ho rf_nr q
theorem g_rwithM {H : Hp} {Q : VK} {E : XK} {r a b : Addr} {ds hs : List Int} {tr : TA} {σ : L2.St} (R : RingIn K C H r a b ds hs) (q : tr σ H fun vs H2 => sp_Ring_with K C (.ref r :: vs) H2 Q E) : kMeth C "with_days" (sp_Ring_with K C) E tr σ Q (.ref r) H :=
  let ⟨dx, ho⟩ := R.obj; g_kMeth ho rf_wd q
theorem g_rspans {H : Hp} {Q : VK} {r a b : Addr} {ds hs : List Int} (R : RingIn K C H r a b ds hs) (c : RingC K C) (q : Q (.ref a) H) : kFld K "spans" Q (.ref r) H := let ⟨dx, ho⟩ := R.obj; g_kFld ho c.cl c.nS rf_spans q
theorem g_rheaps {H : Hp} {Q : VK} {r a b : Addr} {ds hs : List Int} (R : RingIn K C H r a b ds hs) (c : RingC K C) (q : Q (.ref b) H) : kFld K "heaps" Q (.ref r) H := let ⟨dx, ho⟩ := R.obj; g_kFld ho c.cl c.nH rf_heaps q
theorem g_rtotal {H : Hp} {Q : VK} {r a b : Addr} {ds hs : List Int} (R : RingIn K C H r a b ds hs) (c : RingC K C) (q : Q (.int hs.sum) H) : kFld K "total" Q (.ref r) H := let ⟨dx, ho⟩ := R.obj; g_kFld ho c.cl c.nT rf_total q
end
end G48

/-! chains and planning: what asks no course -/
namespace G48
open PySem PySem.Spec PyProof.Rows L2 Evl
/-! the steps -/
local macro_rules | `(tactic| walk_at "as") => `(tactic| with_reducible assumption)
local macro_rules | `(tactic| walk_at "hp") => `(tactic| first
  | with_reducible assumption
  | ((with_reducible apply SqT.of); walk_at "as")
  | ((with_reducible apply SqL.of); walk_at "as")
  | ((with_reducible apply ex_at); (focus walk_at "as"); walk_at "hp")
  | ((with_reducible apply ex_t); (focus walk_at "as"); walk_at "hp")
  | ((with_reducible apply ex_l); (focus walk_at "as"); walk_at "hp")
  | ((with_reducible apply exb_ins); (focus walk_at "as"); (focus walk_at "hp"); walk_at "hp")
  | ((with_reducible apply exb_t); (focus walk_at "as"); (focus walk_at "hp"); walk_at "hp")
  | ((with_reducible apply exb_at); (focus walk_at "as"); (focus walk_at "ne"); walk_at "hp")
  | ((with_reducible apply exb_l); (focus walk_at "as"); (focus walk_at "ne"); walk_at "hp"))
local macro_rules | `(tactic| walk_at "ne") => `(tactic| first
  | with_reducible assumption
  | exact Ne.symm (by with_reducible assumption)
  | exact ne_of_none (by with_reducible assumption) (by with_reducible assumption)
  | exact Ne.symm (ne_of_none (by with_reducible assumption) (by with_reducible assumption)))
local macro_rules | `(tactic| walk_at "tr") => `(tactic| first
  | rfl
  | with_reducible assumption
  | exact decide_eq_true (by first | with_reducible assumption | omega)
  | exact decide_eq_false (by first | with_reducible assumption | omega)
  | (rw [Bool.not_eq_true']; exact decide_eq_false (by first | with_reducible assumption | omega))
  | (rw [Bool.not_eq_false']; exact decide_eq_true (by first | with_reducible assumption | omega)))
local macro_rules | `(tactic| walk_at "nn") => `(tactic| first | with_reducible assumption | (exact List.cons_ne_nil _ _))
local macro_rules | `(tactic| walk_at "sz") => `(tactic| first | (exact sz1000 (Nat.le_of_ble_eq_true rfl)) | (refine sz1000 ?_; simp only [List.length_map, List.length_cons, List.length_nil, List.length_append]; omega) | with_reducible assumption)
local macro_rules | `(tactic| walk_at "sl") => `(tactic| first | with_reducible assumption | (refine lt1000 ?_; simp only [List.length_map, List.length_cons, List.length_nil, List.length_append]; omega) | (refine lt1000 ?_; omega))
local macro_rules | `(tactic| walk_at "ix") => `(tactic| first | rfl | with_reducible assumption)
local macro_rules | `(tactic| walk_at "rg") => `(tactic| exact RgOk.of_le (by omega) (by omega) (by omega) (by omega))
local macro_rules | `(tactic| walk_at "sp") => `(tactic| fail "sp")
local macro_rules | `(tactic| walk_at "cl") => `(tactic| with_reducible assumption)
local macro_rules | `(tactic| walk_at "lk") => `(tactic| with_reducible assumption)
local macro_rules | `(tactic| walk_at "it") => `(tactic| first | rfl | with_reducible assumption | exact atI_nat (by with_reducible assumption))
local macro_rules | `(tactic| walk_at "g1") => `(tactic| first
  | (with_reducible apply g_var); (focus rfl)
  | with_reducible apply g_c
  | with_reducible apply g_seq
  | with_reducible apply g_asg
  | with_reducible apply gg_name
  | with_reducible apply g_op
  | with_reducible apply g_cons
  | with_reducible apply g_nil
  | with_reducible apply g_cb
  | with_reducible apply g_fld
  | ((with_reducible apply g_kFld); (focus walk_at "hp"); (focus walk_at "cl"); (focus walk_at "cl"); (focus walk_at "lk"))
  | with_reducible apply g_call
  | walk_at "sp"
  | with_reducible apply g_ret
  | with_reducible apply g_drop
  | with_reducible apply g_test
  | with_reducible apply g_B
  | with_reducible apply g_kTest
  | with_reducible apply g_ifS
  | with_reducible apply g_kIfST
  | with_reducible apply g_kIfSF
  | with_reducible apply g_add
  | with_reducible apply g_sub
  | with_reducible apply g_lt
  | with_reducible apply g_le
  | with_reducible apply g_gt
  | with_reducible apply g_ge
  | with_reducible apply g_eqI
  | with_reducible apply g_neI
  | ((with_reducible apply g_mod); (focus first | decide | omega))
  | ((with_reducible apply g_mul); (focus first | (left; constructor <;> omega) | (right; constructor <;> omega)))
  | ((with_reducible apply g_fdiv); (focus (constructor <;> omega)))
  | ((with_reducible apply g_ixT); (focus walk_at "hp"); (focus walk_at "it"))
  | ((with_reducible apply g_ixL); (focus walk_at "hp"); (focus walk_at "it"))
  | with_reducible apply g_and
  | with_reducible apply g_or
  | with_reducible apply g_not
  | with_reducible apply g_kNotT
  | with_reducible apply g_kNotF
  | with_reducible apply g_if
  | with_reducible apply g_kAndT
  | with_reducible apply g_kAndF
  | with_reducible apply g_kOrT
  | with_reducible apply g_kOrF
  | with_reducible apply g_kIfT
  | with_reducible apply g_kIfF
  | with_reducible apply g_next
  | with_reducible apply g_andV
  | with_reducible apply g_orV
  | with_reducible apply g_notV
  | with_reducible apply g_kNotV
  | with_reducible apply g_kAndVT
  | with_reducible apply g_kAndVF
  | with_reducible apply g_chain
  | with_reducible apply g_kChainT
  | with_reducible apply g_kChainF
  | with_reducible apply g_tup
  | with_reducible apply g_lst
  | ((with_reducible apply g_kT); (focus walk_at "sz"); intro _ _ _ _ _)
  | ((with_reducible apply g_kL); (focus walk_at "sz"); intro _ _ _ _ _)
  | with_reducible apply g_un
  | with_reducible apply g_neg
  | with_reducible apply g_meth
  | ((with_reducible apply g_kMeth); (focus walk_at "hp"); (focus walk_at "lk"))
  | with_reducible apply g_prop
  | ((with_reducible apply g_kProp); (focus walk_at "hp"))
  | with_reducible apply g_make
  | with_reducible apply g_par
  | with_reducible apply g_kPar
  | ((with_reducible apply g_lenLM); (focus walk_at "hp"))
  | ((with_reducible apply g_lenTM); (focus walk_at "hp"))
  | ((with_reducible apply g_lenL); (focus walk_at "hp"))
  | ((with_reducible apply g_lenT); (focus walk_at "hp"))
  | with_reducible apply g_int1
  | with_reducible apply g_max2
  | with_reducible apply g_min2
  | ((with_reducible apply g_listL); (focus walk_at "hp"); intro _ _ _ _ _)
  | ((with_reducible apply g_listT); (focus walk_at "hp"); intro _ _ _ _ _)
  | ((with_reducible apply g_tupL); (focus walk_at "hp"); intro _ _ _ _ _)
  | ((with_reducible apply g_sum); (focus walk_at "hp"))
  | with_reducible apply g_sfld
  | with_reducible apply g_sl
  | with_reducible apply g_nopart
  | with_reducible apply g_part
  | with_reducible apply g_kPart
  | with_reducible apply g_lstRg
  | with_reducible apply g_rg1
  | with_reducible apply g_kRg1
  | with_reducible apply g_bm
  | with_reducible apply gg_sub
  | ((with_reducible apply gg_tup); (focus walk_at "hp"); (focus rfl))
  | with_reducible apply gg_cons
  | with_reducible apply gg_nil
  | with_reducible apply g_forL
  | with_reducible apply g_forT
  | with_reducible apply g_forR1
  | with_reducible apply g_forR2
  | with_reducible apply g_forE
  | with_reducible apply g_forEL
  | ((with_reducible apply g_maxT); (focus walk_at "hp"); (focus walk_at "nn"))
  | ((with_reducible apply g_maxL); (focus walk_at "hp"); (focus walk_at "nn"))
  | ((with_reducible apply g_catA); (focus walk_at "hp"); (focus walk_at "hp"); (focus walk_at "sz"); intro _ _ _ _)
  | ((with_reducible apply g_slA); (focus walk_at "hp"); intro _ _ _ _)
  | ((with_reducible apply g_tupD); (focus walk_at "hp"); intro _ _ _ _ _)
  | ((with_reducible apply g_setL); (focus walk_at "hp"); (focus walk_at "ix"); intro _ _ _)
  | ((with_reducible apply g_append); (focus walk_at "hp"); (focus walk_at "sl"); intro _ _ _)
  | ((with_reducible apply g_aug); (focus rfl))
  | with_reducible apply g_ipI
  | with_reducible apply g_retN
  | with_reducible apply g_lcR1
  | with_reducible apply g_lcR2
  | with_reducible apply g_lcL
  | with_reducible apply g_lcU
  | with_reducible apply g_lcN
  | ((with_reducible apply g_kLcG); (focus rfl))
  | with_reducible apply g_yes
  | with_reducible apply g_kLcTT
  | with_reducible apply g_kLcTF
  | ((with_reducible apply g_kLcE); (focus walk_at "hp"); (focus walk_at "sl"); intro _ _ _)
  | ((with_reducible apply g_pow); (focus (constructor <;> (try constructor) <;> decide)))
  | ((with_reducible apply g_kLRg); (focus walk_at "rg"); intro _ _ _ _ _)
  | ((with_reducible apply g_cat); (focus walk_at "hp"); (focus walk_at "hp"); (focus walk_at "sz"); intro _ _ _ _ _)
  | ((with_reducible apply g_slL); (focus walk_at "hp"); intro _ _ _ _ _)
  | with_reducible apply g_bmT
  | with_reducible apply g_break
  | with_reducible apply g_cont)
local macro_rules | `(tactic| walk_at "g0") => `(tactic| try dsimp only [L2.cxOf, L2.Cx.nox, L2.Cx.wish])
local macro_rules | `(tactic| walk_at "yn") => `(tactic| first
  | ((with_reducible apply y_kIfS); (focus walk_at "tr"))
  | ((with_reducible apply n_kIfS); (focus walk_at "tr"))
  | ((with_reducible apply y_kOr); (focus walk_at "tr"))
  | ((with_reducible apply n_kOr); (focus walk_at "tr"))
  | ((with_reducible apply y_kAnd); (focus walk_at "tr"))
  | ((with_reducible apply n_kAnd); (focus walk_at "tr"))
  | ((with_reducible apply y_kNot); (focus walk_at "tr"))
  | ((with_reducible apply n_kNot); (focus walk_at "tr"))
  | ((with_reducible apply y_kIf); (focus walk_at "tr"))
  | ((with_reducible apply n_kIf); (focus walk_at "tr"))
  | ((with_reducible apply y_kAndV); (focus walk_at "tr"))
  | ((with_reducible apply n_kAndV); (focus walk_at "tr"))
  | ((with_reducible apply y_kOrV); (focus walk_at "tr"))
  | ((with_reducible apply n_kOrV); (focus walk_at "tr"))
  | ((with_reducible apply y_kChain); (focus walk_at "tr"))
  | ((with_reducible apply n_kChain); (focus walk_at "tr"))
  | ((with_reducible apply y_kLcT); (focus walk_at "tr"))
  | ((with_reducible apply n_kLcT); (focus walk_at "tr"))
  | ((with_reducible apply y_kWh); (focus walk_at "tr"))
  | ((with_reducible apply n_kWh); (focus walk_at "tr")))
local macro_rules | `(tactic| walk_at "go") => `(tactic| repeat (first | walk_at "g1" | walk_at "yn"))
local macro_rules | `(tactic| walk_at "hp") => `(tactic| first
  | ((with_reducible apply RingIn.ex); (focus walk_at "as"); walk_at "hp")
  | ((with_reducible apply RingAt.ex); (focus walk_at "as"); walk_at "hp")
  | ((with_reducible apply RingIn.exb); (focus walk_at "as"); (focus walk_at "hp"); walk_at "hp")
  | ((with_reducible apply RingAt.exb); (focus walk_at "as"); (focus walk_at "hp"); walk_at "hp")
  | ((with_reducible apply TupK.ex); (focus walk_at "as"); walk_at "hp")
  | ((with_reducible apply TupK.exb); (focus walk_at "as"); (focus walk_at "hp"); walk_at "hp"))
local macro_rules | `(tactic| walk_at "lk") => `(tactic| first | with_reducible exact rf_spans | with_reducible exact rf_heaps | with_reducible exact rf_total | with_reducible exact rf_nr | with_reducible exact rf_wd)
local macro_rules | `(tactic| walk_at "sp") => `(tactic| first
  | ((with_reducible apply g_isiTup); (focus walk_at "hp"))
  | ((with_reducible apply g_isiLst); (focus walk_at "hp"))
  | ((with_reducible apply g_isint); (focus omega); (focus omega))
  | ((with_reducible apply g_checkn); (focus omega); (focus omega))
  | ((with_reducible apply g_rbooks); (focus walk_at "hp"))
  | ((with_reducible apply g_rpace); (focus walk_at "hp"); intro _ _ _ _)
  | ((with_reducible apply g_rlen); (focus walk_at "hp"))
  | ((with_reducible apply g_rneed); (focus walk_at "hp"); (focus omega))
  | ((with_reducible apply g_rneedM); (focus walk_at "hp"))
  | ((with_reducible apply g_rwithM); (focus walk_at "hp"))
  | ((with_reducible apply g_rspans); (focus walk_at "hp"); (focus with_reducible assumption))
  | ((with_reducible apply g_rheaps); (focus walk_at "hp"); (focus with_reducible assumption))
  | ((with_reducible apply g_rtotal); (focus walk_at "hp"); (focus with_reducible assumption)))

/-- the first place -/
theorem first_at : ∀ {ys : List Int} {z : Int}, z ∈ ys → ∃ j : Nat, ys[j]? = some z ∧ ∀ m : Nat, m < j → ys[m]? ≠ some z
  | [], _, h => by cases h
  | y :: r, z, h => by
    by_cases e : y = z
    · exact ⟨0, by rw [e]; rfl, fun m hm => absurd hm (Nat.not_lt_zero m)⟩
    · have h1 : z ∈ r := by
        rcases List.mem_cons.mp h with h | h
        · exact absurd h.symm e
        · exact h
      obtain ⟨j, h2, h3⟩ := first_at h1
      refine ⟨j + 1, h2, fun m hm => ?_⟩
      cases m with
      | zero =>
        intro q
        exact e (Option.some.inj q)
      | succ m => exact h3 m (by omega)
def upto (n : Nat) : List Int := (List.range n).map fun (i : Nat) => (i : Int)
theorem upto_map (n : Nat) : rgV 0 (n : Int) = (upto n).map V.int := by
  unfold rgV upto
  rw [List.map_map]
  have e : ((n : Int) - 0).toNat = n := by omega
  rw [e]
  apply List.map_congr_left
  intro i _
  show V.int (0 + (i : Int)) = V.int (i : Int)
  rw [Int.zero_add]
theorem upto_len (n : Nat) : (upto n).length = n := by unfold upto; rw [List.length_map, List.length_range]
theorem upto_at {n i : Nat} (h : i < n) : (upto n)[i]? = some (i : Int) := by
  unfold upto
  rw [List.getElem?_map, List.getElem?_range h]
  rfl
/-- the readers that set the pace -/
def PR (ds : List Int) (B : Int) (rs : List Int) : Prop :=
  if ds.sum ≤ mx ds * B then ∃ j : Nat, rs = [(j : Int)] ∧ ds[j]? = some (mx ds) ∧ ∀ m : Nat, m < j → ds[m]? ≠ some (mx ds) else rs = upto ds.length
section
variable {P : Program} {w : World} {K : PySem.W.Frag} {mg : Str → Option Value} {base : Heap} {C : Addr}
def sp_pace_readers (K : PySem.W.Frag) (C : Addr) : Sp := fun vs H Q _ => ∃ (r a b : Addr) (ds hs : List Int), vs = [.ref r] ∧ RingIn K C H r a b ds hs ∧ TupK H a (ds.map V.int) ∧
  ∀ p H' rs, H p = none → Ex H H' → H' p = some (.lst (rs.map V.int)) → PR ds hs.sum rs → Q (.ref p) H'
/-- a list of readers that shows a pace -/
structure Shows (rs : List Int) (n : Nat) : Prop where
  at_ : ∀ (i : Nat) (x : Int), rs[i]? = some x → 0 ≤ x ∧ x < n
  next : ∀ (i : Nat) (x y : Int), rs[i]? = some x → rs[i + 1]? = some y → y = (x + 1) % n
  len : rs.length = 1 ∨ rs.length = n
def shown (ds : List Int) (B : Int) (rs : List Int) : Int × Int := if rs.length = 1 then (ds.getD (rs.getD 0 0).toNat 0, 1) else low ds.sum B
def sp_judge_pace (K : PySem.W.Frag) (C : Addr) : Sp := fun vs H Q _ => ∃ (r a b l : Addr) (ds hs rs : List Int), vs = [.ref r, .ref l] ∧ RingIn K C H r a b ds hs ∧ SqL K H l (rs.map V.int) ∧ Shows rs ds.length ∧
  RTup K H [.int (shown ds hs.sum rs).1, .int (shown ds hs.sum rs).2] Q
/-! ### planning -/
def sp_is_less (K : PySem.W.Frag) : Sp := fun vs H Q _ => ∃ (p q : Addr) (x y u v : Int), vs = [.ref p, .ref q] ∧ SqT K H p [.int x, .int y] ∧ SqT K H q [.int u, .int v] ∧ ((0 ≤ x ∧ x ≤ 1000000) ∧ (0 ≤ y ∧ y ≤ 1000000) ∧ (0 ≤ u ∧ u ≤ 1000000) ∧ (0 ≤ v ∧ v ≤ 1000000)) ∧ Q (.bl (decide (x * v < u * y))) H
theorem low_bd {a b : Int} (ha : 0 < a) (hb : 0 < b) : 0 < (low a b).1 ∧ (low a b).1 ≤ a ∧ 0 < (low a b).2 ∧ (low a b).2 ≤ b := by
  have hg : 0 < (Int.gcd a b : Int) := by
    have := (Int.gcd_pos_iff (a := a) (b := b)).mpr (Or.inl (by omega))
    omega
  have d1 : (Int.gcd a b : Int) ∣ a := Int.gcd_dvd_left ..
  have d2 : (Int.gcd a b : Int) ∣ b := Int.gcd_dvd_right ..
  refine ⟨Int.ediv_pos_of_pos_of_dvd ha (by omega) d1, Int.ediv_le_self _ (by omega), Int.ediv_pos_of_pos_of_dvd hb (by omega) d2, Int.ediv_le_self _ (by omega)⟩
theorem pace_bd {ds : List Int} {B : Int} (h : DaysOk ds) (hb : 1 ≤ B) : 0 < (paceN ds B).1 ∧ (paceN ds B).1 ≤ 240 ∧ 0 < (paceN ds B).2 ∧ (paceN ds B).2 ≤ B := by
  have h1 := h.mx
  have h2 := h.sum
  unfold paceN
  by_cases hc : ds.sum ≤ mx ds * B
  · rw [if_pos hc]
    exact ⟨by omega, by omega, by omega, by omega⟩
  · rw [if_neg hc]
    have := low_bd (a := ds.sum) (b := B) (by omega) (by omega)
    exact ⟨by omega, by omega, by omega, by omega⟩
def sp_pace_with (K : PySem.W.Frag) (C : Addr) : Sp := fun vs H Q _ => ∃ (r a b : Addr) (ds hs : List Int) (B : Int), vs = [.ref r, .int B] ∧ RingIn K C H r a b ds hs ∧ (1 ≤ B ∧ B ≤ 1000) ∧ RTup K H (PaceV ds B) Q
def fewN (ds : List Int) : Int := (ds.sum + mx ds - 1) / mx ds
def sp_fewest_books (K : PySem.W.Frag) (C : Addr) : Sp := fun vs H Q _ => ∃ (r a b : Addr) (ds hs : List Int), vs = [.ref r] ∧ RingIn K C H r a b ds hs ∧ ∀ H', Ex H H' → Q (.int (fewN ds)) H'
/-- a reader who helps by being a day quicker -/
def helps (ds : List Int) (B : Int) (i : Nat) : Bool :=
  decide (1 < ds.getD i 0) && decide ((paceN (ds.set i (ds.getD i 0 - 1)) B).1 * (paceN ds B).2 < (paceN ds B).1 * (paceN (ds.set i (ds.getD i 0 - 1)) B).2)
def helpN (ds : List Int) (B : Int) (k : Nat) : List Int := ((List.range k).filter (helps ds B)).map fun (i : Nat) => (i : Int)
theorem helpN_yes {ds : List Int} {B : Int} {k : Nat} (h : helps ds B k = true) : helpN ds B (k + 1) = helpN ds B k ++ [(k : Int)] := by
  unfold helpN
  rw [List.range_succ, List.filter_append, List.map_append, List.filter_cons, if_pos h]
  rfl
theorem helpN_no {ds : List Int} {B : Int} {k : Nat} (h : helps ds B k = false) : helpN ds B (k + 1) = helpN ds B k := by
  unfold helpN
  rw [List.range_succ, List.filter_append, List.map_append, List.filter_cons, if_neg (by rw [h]; decide)]
  exact List.append_nil _
theorem helpN_len (ds : List Int) (B : Int) (k : Nat) : (helpN ds B k).length ≤ k := by
  unfold helpN
  rw [List.length_map]
  have h := List.length_filter_le (helps ds B) (List.range k)
  rw [List.length_range] at h
  exact h
theorem DaysOk.set {ds : List Int} (O : DaysOk ds) (k : Nat) {n : Int} (h : 1 ≤ n ∧ n ≤ 30) : DaysOk (ds.set k n) :=
  ⟨by rw [List.length_set]; exact O.two, by rw [List.length_set]; exact O.eight, fun d hd => by
    rcases List.mem_or_eq_of_mem_set hd with h1 | h1
    · exact O.dd d h1
    · rw [h1]; exact h⟩
def sp_helpful (K : PySem.W.Frag) (C : Addr) : Sp := fun vs H Q _ => ∃ (r a b : Addr) (ds hs : List Int), vs = [.ref r] ∧ RingIn K C H r a b ds hs ∧ ∀ p H', H p = none → Ex H H' → H' p = some (.lst ((helpN ds hs.sum ds.length).map V.int)) → Q (.ref p) H'
/-- slowest_days: a number of days with the same pace, and with a day more another -/
def SameP (ds : List Int) (B : Int) (k : Nat) (n : Int) : Prop := paceN (ds.set k n) B = paceN ds B
theorem paceV_eqv {ds es : List Int} {B B2 : Int} : PyData.eqv (.tuple [.int (paceN ds B).1, .int (paceN ds B).2]) (.tuple [.int (paceN es B2).1, .int (paceN es B2).2]) = decide (paceN ds B = paceN es B2) := by
  have e : PyData.eqv (.tuple [.int (paceN ds B).1, .int (paceN ds B).2]) (.tuple [.int (paceN es B2).1, .int (paceN es B2).2]) = ((paceN ds B).1 == (paceN es B2).1 && ((paceN ds B).2 == (paceN es B2).2 && true)) := by
    simp only [PyData.eqv, PyData.eqvAll]
  rw [e, Bool.eq_iff_iff]
  simp [Prod.ext_iff]
theorem dp_two {H : Hp} {p : Addr} {x y : Int} (h : SqT K H p [.int x, .int y]) : Dp K H (.ref p) (.tuple [.int x, .int y]) := .tup h (.cons (.int _) (.cons (.int _) .nil))
theorem sh_two {x y : Int} : SeqAt.shaped (.tuple [.int x, .int y]) = true := rfl
/-- two paces compared -/
theorem g_eqP {H : Hp} {Q : VK} {p q : Addr} {ds es : List Int} {B B2 : Int} (h1 : SqT K H p (PaceV ds B)) (h2 : SqT K H q (PaceV es B2)) (k : Q (.bl (decide (paceN ds B = paceN es B2))) H) : rEqD K (.ref p) (.ref q) H Q :=
  g_eqD (dp_two h1) (dp_two h2) sh_two sh_two (by rw [paceV_eqv]; exact k)
theorem g_neP {H : Hp} {Q : VK} {p q : Addr} {ds es : List Int} {B B2 : Int} (h1 : SqT K H p (PaceV ds B)) (h2 : SqT K H q (PaceV es B2)) (k : Q (.bl (!decide (paceN ds B = paceN es B2))) H) : rNeD K (.ref p) (.ref q) H Q :=
  g_neD (dp_two h1) (dp_two h2) sh_two sh_two (by rw [paceV_eqv]; exact k)
def sp_slowest (K : PySem.W.Frag) (C : Addr) : Sp := fun vs H Q _ => ∃ (r a b : Addr) (ds hs : List Int) (k : Nat), vs = [.ref r, .int (k : Int)] ∧ RingIn K C H r a b ds hs ∧ k < ds.length ∧
  ∀ n H', Ex H H' → ds.getD k 0 ≤ n → n ≤ 30 → SameP ds hs.sum k n → (n < 30 → ¬ SameP ds hs.sum k (n + 1)) → Q (.int n) H'
/-- fewest_days_less -/
def lessN (ds : List Int) (B x y : Int) : Option Int := if x / y = 0 ∨ x * B < (ds.length : Int) * y then none else some (max (ds.map fun d => max 0 (d - x / y)).sum (ds.sum - x * B / y))
def optV : Option Int → V
  | none => .non
  | some n => .int n
def sp_fewest_less (K : PySem.W.Frag) (C : Addr) : Sp := fun vs H Q _ => ∃ (r a b : Addr) (ds hs : List Int) (x y : Int), vs = [.ref r, .int x, .int y] ∧ RingIn K C H r a b ds hs ∧ ((1 ≤ x ∧ x ≤ 1000) ∧ (1 ≤ y ∧ y ≤ 1000)) ∧ ∀ H', Ex H H' → Q (optV (lessN ds hs.sum x y)) H'
end
end G48

namespace G48
open PySem PySem.Spec PyProof.Rows L2 Evl
abbrev N__law_taken : List Str := ["_law_row", "_law_many", "_law_found", "_law_cell"]
theorem sc__law_taken : FnScope N__law_taken ["_law_row", "_law_many"] (defScope s__law_taken) := ⟨rfl, rfl, rfl, by decide +kernel, rfl, by decide +kernel, by decide +kernel⟩
theorem b__law_taken : BindL "_law_taken" "_law_taken" s__law_taken ["_law_row", "_law_many"] := fun _ _ _ _ _ _ us hl => match us, hl with | [_, _], _ => rfl
end G48
/-! the draws of the laws k50 and on: _law_taken, _law_parts -/
namespace G48
open PySem PySem.Spec PyProof.Rows L2 Evl
/-! the steps -/
local macro_rules | `(tactic| walk_at "as") => `(tactic| with_reducible assumption)
local macro_rules | `(tactic| walk_at "hp") => `(tactic| first
  | with_reducible assumption
  | ((with_reducible apply SqT.of); walk_at "as")
  | ((with_reducible apply SqL.of); walk_at "as")
  | ((with_reducible apply ex_at); (focus walk_at "as"); walk_at "hp")
  | ((with_reducible apply ex_t); (focus walk_at "as"); walk_at "hp")
  | ((with_reducible apply ex_l); (focus walk_at "as"); walk_at "hp")
  | ((with_reducible apply exb_ins); (focus walk_at "as"); (focus walk_at "hp"); walk_at "hp")
  | ((with_reducible apply exb_t); (focus walk_at "as"); (focus walk_at "hp"); walk_at "hp")
  | ((with_reducible apply exb_at); (focus walk_at "as"); (focus walk_at "ne"); walk_at "hp")
  | ((with_reducible apply exb_l); (focus walk_at "as"); (focus walk_at "ne"); walk_at "hp"))
local macro_rules | `(tactic| walk_at "ne") => `(tactic| first
  | with_reducible assumption
  | exact Ne.symm (by with_reducible assumption)
  | exact ne_of_none (by with_reducible assumption) (by with_reducible assumption)
  | exact Ne.symm (ne_of_none (by with_reducible assumption) (by with_reducible assumption)))
local macro_rules | `(tactic| walk_at "tr") => `(tactic| first
  | rfl
  | with_reducible assumption
  | exact decide_eq_true (by first | with_reducible assumption | omega)
  | exact decide_eq_false (by first | with_reducible assumption | omega)
  | (rw [Bool.not_eq_true']; exact decide_eq_false (by first | with_reducible assumption | omega))
  | (rw [Bool.not_eq_false']; exact decide_eq_true (by first | with_reducible assumption | omega)))
local macro_rules | `(tactic| walk_at "nn") => `(tactic| first | with_reducible assumption | (exact List.cons_ne_nil _ _))
local macro_rules | `(tactic| walk_at "sz") => `(tactic| first | (exact sz1000 (Nat.le_of_ble_eq_true rfl)) | (refine sz1000 ?_; simp only [List.length_map, List.length_cons, List.length_nil, List.length_append]; omega) | with_reducible assumption)
local macro_rules | `(tactic| walk_at "sl") => `(tactic| first | with_reducible assumption | (refine lt1000 ?_; simp only [List.length_map, List.length_cons, List.length_nil, List.length_append]; omega) | (refine lt1000 ?_; omega))
local macro_rules | `(tactic| walk_at "ix") => `(tactic| first | rfl | with_reducible assumption)
local macro_rules | `(tactic| walk_at "rg") => `(tactic| exact RgOk.of_le (by omega) (by omega) (by omega) (by omega))
local macro_rules | `(tactic| walk_at "sp") => `(tactic| fail "sp")
local macro_rules | `(tactic| walk_at "cl") => `(tactic| with_reducible assumption)
local macro_rules | `(tactic| walk_at "lk") => `(tactic| with_reducible assumption)
local macro_rules | `(tactic| walk_at "it") => `(tactic| first | rfl | with_reducible assumption | exact atI_nat (by with_reducible assumption))
local macro_rules | `(tactic| walk_at "g1") => `(tactic| first
  | (with_reducible apply g_var); (focus rfl)
  | with_reducible apply g_c
  | with_reducible apply g_seq
  | with_reducible apply g_asg
  | with_reducible apply gg_name
  | with_reducible apply g_op
  | with_reducible apply g_cons
  | with_reducible apply g_nil
  | with_reducible apply g_cb
  | with_reducible apply g_fld
  | ((with_reducible apply g_kFld); (focus walk_at "hp"); (focus walk_at "cl"); (focus walk_at "cl"); (focus walk_at "lk"))
  | with_reducible apply g_call
  | walk_at "sp"
  | with_reducible apply g_ret
  | with_reducible apply g_drop
  | with_reducible apply g_test
  | with_reducible apply g_B
  | with_reducible apply g_kTest
  | with_reducible apply g_ifS
  | with_reducible apply g_kIfST
  | with_reducible apply g_kIfSF
  | with_reducible apply g_add
  | with_reducible apply g_sub
  | with_reducible apply g_lt
  | with_reducible apply g_le
  | with_reducible apply g_gt
  | with_reducible apply g_ge
  | with_reducible apply g_eqI
  | with_reducible apply g_neI
  | ((with_reducible apply g_mod); (focus first | decide | omega))
  | ((with_reducible apply g_mul); (focus first | (left; constructor <;> omega) | (right; constructor <;> omega)))
  | ((with_reducible apply g_fdiv); (focus (constructor <;> omega)))
  | ((with_reducible apply g_ixT); (focus walk_at "hp"); (focus walk_at "it"))
  | ((with_reducible apply g_ixL); (focus walk_at "hp"); (focus walk_at "it"))
  | with_reducible apply g_and
  | with_reducible apply g_or
  | with_reducible apply g_not
  | with_reducible apply g_kNotT
  | with_reducible apply g_kNotF
  | with_reducible apply g_if
  | with_reducible apply g_kAndT
  | with_reducible apply g_kAndF
  | with_reducible apply g_kOrT
  | with_reducible apply g_kOrF
  | with_reducible apply g_kIfT
  | with_reducible apply g_kIfF
  | with_reducible apply g_next
  | with_reducible apply g_andV
  | with_reducible apply g_orV
  | with_reducible apply g_notV
  | with_reducible apply g_kNotV
  | with_reducible apply g_kAndVT
  | with_reducible apply g_kAndVF
  | with_reducible apply g_chain
  | with_reducible apply g_kChainT
  | with_reducible apply g_kChainF
  | with_reducible apply g_tup
  | with_reducible apply g_lst
  | ((with_reducible apply g_kT); (focus walk_at "sz"); intro _ _ _ _ _)
  | ((with_reducible apply g_kL); (focus walk_at "sz"); intro _ _ _ _ _)
  | with_reducible apply g_un
  | with_reducible apply g_neg
  | with_reducible apply g_meth
  | ((with_reducible apply g_kMeth); (focus walk_at "hp"); (focus walk_at "lk"))
  | with_reducible apply g_prop
  | ((with_reducible apply g_kProp); (focus walk_at "hp"))
  | with_reducible apply g_make
  | with_reducible apply g_par
  | with_reducible apply g_kPar
  | ((with_reducible apply g_lenLM); (focus walk_at "hp"))
  | ((with_reducible apply g_lenTM); (focus walk_at "hp"))
  | ((with_reducible apply g_lenL); (focus walk_at "hp"))
  | ((with_reducible apply g_lenT); (focus walk_at "hp"))
  | with_reducible apply g_int1
  | with_reducible apply g_max2
  | with_reducible apply g_min2
  | ((with_reducible apply g_listL); (focus walk_at "hp"); intro _ _ _ _ _)
  | ((with_reducible apply g_listT); (focus walk_at "hp"); intro _ _ _ _ _)
  | ((with_reducible apply g_tupL); (focus walk_at "hp"); intro _ _ _ _ _)
  | ((with_reducible apply g_sum); (focus walk_at "hp"))
  | with_reducible apply g_sfld
  | with_reducible apply g_sl
  | with_reducible apply g_nopart
  | with_reducible apply g_part
  | with_reducible apply g_kPart
  | with_reducible apply g_lstRg
  | with_reducible apply g_rg1
  | with_reducible apply g_kRg1
  | with_reducible apply g_bm
  | with_reducible apply gg_sub
  | ((with_reducible apply gg_tup); (focus walk_at "hp"); (focus rfl))
  | with_reducible apply gg_cons
  | with_reducible apply gg_nil
  | with_reducible apply g_forL
  | with_reducible apply g_forT
  | with_reducible apply g_forR1
  | with_reducible apply g_forR2
  | with_reducible apply g_forE
  | with_reducible apply g_forEL
  | ((with_reducible apply g_maxT); (focus walk_at "hp"); (focus walk_at "nn"))
  | ((with_reducible apply g_maxL); (focus walk_at "hp"); (focus walk_at "nn"))
  | ((with_reducible apply g_catA); (focus walk_at "hp"); (focus walk_at "hp"); (focus walk_at "sz"); intro _ _ _ _)
  | ((with_reducible apply g_slA); (focus walk_at "hp"); intro _ _ _ _)
  | ((with_reducible apply g_tupD); (focus walk_at "hp"); intro _ _ _ _ _)
  | ((with_reducible apply g_setL); (focus walk_at "hp"); (focus walk_at "ix"); intro _ _ _)
  | ((with_reducible apply g_append); (focus walk_at "hp"); (focus walk_at "sl"); intro _ _ _)
  | ((with_reducible apply g_aug); (focus rfl))
  | with_reducible apply g_ipI
  | with_reducible apply g_retN
  | with_reducible apply g_lcR1
  | with_reducible apply g_lcR2
  | with_reducible apply g_lcL
  | with_reducible apply g_lcU
  | with_reducible apply g_lcN
  | ((with_reducible apply g_kLcG); (focus rfl))
  | with_reducible apply g_yes
  | with_reducible apply g_kLcTT
  | with_reducible apply g_kLcTF
  | ((with_reducible apply g_kLcE); (focus walk_at "hp"); (focus walk_at "sl"); intro _ _ _)
  | ((with_reducible apply g_pow); (focus (constructor <;> (try constructor) <;> decide)))
  | ((with_reducible apply g_kLRg); (focus walk_at "rg"); intro _ _ _ _ _)
  | ((with_reducible apply g_cat); (focus walk_at "hp"); (focus walk_at "hp"); (focus walk_at "sz"); intro _ _ _ _ _)
  | ((with_reducible apply g_slL); (focus walk_at "hp"); intro _ _ _ _ _)
  | with_reducible apply g_bmT
  | with_reducible apply g_break
  | with_reducible apply g_cont)
local macro_rules | `(tactic| walk_at "g0") => `(tactic| try dsimp only [L2.cxOf, L2.Cx.nox, L2.Cx.wish])
local macro_rules | `(tactic| walk_at "yn") => `(tactic| first
  | ((with_reducible apply y_kIfS); (focus walk_at "tr"))
  | ((with_reducible apply n_kIfS); (focus walk_at "tr"))
  | ((with_reducible apply y_kOr); (focus walk_at "tr"))
  | ((with_reducible apply n_kOr); (focus walk_at "tr"))
  | ((with_reducible apply y_kAnd); (focus walk_at "tr"))
  | ((with_reducible apply n_kAnd); (focus walk_at "tr"))
  | ((with_reducible apply y_kNot); (focus walk_at "tr"))
  | ((with_reducible apply n_kNot); (focus walk_at "tr"))
  | ((with_reducible apply y_kIf); (focus walk_at "tr"))
  | ((with_reducible apply n_kIf); (focus walk_at "tr"))
  | ((with_reducible apply y_kAndV); (focus walk_at "tr"))
  | ((with_reducible apply n_kAndV); (focus walk_at "tr"))
  | ((with_reducible apply y_kOrV); (focus walk_at "tr"))
  | ((with_reducible apply n_kOrV); (focus walk_at "tr"))
  | ((with_reducible apply y_kChain); (focus walk_at "tr"))
  | ((with_reducible apply n_kChain); (focus walk_at "tr"))
  | ((with_reducible apply y_kLcT); (focus walk_at "tr"))
  | ((with_reducible apply n_kLcT); (focus walk_at "tr"))
  | ((with_reducible apply y_kWh); (focus walk_at "tr"))
  | ((with_reducible apply n_kWh); (focus walk_at "tr")))
local macro_rules | `(tactic| walk_at "go") => `(tactic| repeat (first | walk_at "g1" | walk_at "yn"))
local macro_rules | `(tactic| walk_at "hp") => `(tactic| first
  | ((with_reducible apply RingIn.ex); (focus walk_at "as"); walk_at "hp")
  | ((with_reducible apply RingAt.ex); (focus walk_at "as"); walk_at "hp")
  | ((with_reducible apply RingIn.exb); (focus walk_at "as"); (focus walk_at "hp"); walk_at "hp")
  | ((with_reducible apply RingAt.exb); (focus walk_at "as"); (focus walk_at "hp"); walk_at "hp")
  | ((with_reducible apply TupK.ex); (focus walk_at "as"); walk_at "hp")
  | ((with_reducible apply TupK.exb); (focus walk_at "as"); (focus walk_at "hp"); walk_at "hp"))
local macro_rules | `(tactic| walk_at "lk") => `(tactic| first | with_reducible exact rf_spans | with_reducible exact rf_heaps | with_reducible exact rf_total | with_reducible exact rf_nr | with_reducible exact rf_wd)
local macro_rules | `(tactic| walk_at "sp") => `(tactic| first
  | ((with_reducible apply g_isiTup); (focus walk_at "hp"))
  | ((with_reducible apply g_isiLst); (focus walk_at "hp"))
  | ((with_reducible apply g_isint); (focus omega); (focus omega))
  | ((with_reducible apply g_checkn); (focus omega); (focus omega))
  | ((with_reducible apply g_rbooks); (focus walk_at "hp"))
  | ((with_reducible apply g_rpace); (focus walk_at "hp"); intro _ _ _ _)
  | ((with_reducible apply g_rlen); (focus walk_at "hp"))
  | ((with_reducible apply g_rneed); (focus walk_at "hp"); (focus omega))
  | ((with_reducible apply g_rneedM); (focus walk_at "hp"))
  | ((with_reducible apply g_rwithM); (focus walk_at "hp"))
  | ((with_reducible apply g_rspans); (focus walk_at "hp"); (focus with_reducible assumption))
  | ((with_reducible apply g_rheaps); (focus walk_at "hp"); (focus with_reducible assumption))
  | ((with_reducible apply g_rtotal); (focus walk_at "hp"); (focus with_reducible assumption)))

/-- the script: frozen, or the module's own -/
def Scr (K : PySem.W.Frag) (H : Hp) (a : Addr) (xs : List V) : Prop := (∃ o, H a = some (.frz o (.lst xs))) ∨ ∃ (o : Obj) (its : Array Value) (n : Nat), K.lookup a = some o ∧ o.cls = .type "list" ∧ o.dict = none ∧ o.data = .seq its n ∧ its.size ≤ sizeLine ∧ Vals xs its.toList
theorem Scr.sq {K : PySem.W.Frag} {H : Hp} {a : Addr} {xs : List V} : Scr K H a xs → SqL K H a xs
  | .inl h => .inl (.inr h)
  | .inr h => .inr h
theorem Scr.only {K : PySem.W.Frag} {H : Hp} {a : Addr} {xs : List V} (O : L2.Only H) : SqL K H a xs → Scr K H a xs
  | .inl (.inr h) => .inl h
  | .inr h => .inr h
  | .inl (.inl h) => by
    rcases O a with z | ⟨o, ys, z⟩
    · rw [z] at h; cases h
    · rw [z] at h; cases h
theorem Scr.ex {K : PySem.W.Frag} {H H' : Hp} {a : Addr} {xs : List V} (e : Ex H H') : Scr K H a xs → Scr K H' a xs
  | .inl ⟨o, h⟩ => .inl ⟨o, e _ _ h⟩
  | .inr h => .inr h
theorem Scr.exb {K : PySem.W.Frag} {H H' : Hp} {l a : Addr} {xs ys : List V} (e : Exb l H H') (hl : H l = some (.lst ys)) : Scr K H a xs → Scr K H' a xs
  | .inl ⟨o, h⟩ => .inl ⟨o, e _ _ (ne_of h hl (by intro z; cases z)) h⟩
  | .inr h => .inr h
/-- the state of a draw: the script, a place, a number, a rest -/
def DiceAt (K : PySem.W.Frag) (H : Hp) (d : Addr) : Prop := ∃ (sc : Addr) (ns : List Int) (pos mixed rest : Int), H d = some (.lst [.ref sc, .int pos, .int mixed, .int rest]) ∧ Scr K H sc (ns.map V.int) ∧ ns.length ≤ 63 ∧ 0 ≤ pos ∧ 0 ≤ mixed ∧ mixed < 2147483647
section
variable {K : PySem.W.Frag} {H H' : Hp} {d a C dx r b : Addr} {xs : List V} {fs : List (Str × V)} {ds hs : List Int}
theorem DiceAt.lst (D : DiceAt K H d) : ∃ ys, H d = some (.lst ys) := let ⟨_, _, _, _, _, h, _⟩ := D; ⟨_, h⟩
theorem DiceAt.ex (e : Ex H H') (D : DiceAt K H d) : DiceAt K H' d := by
  obtain ⟨sc, ns, p, m, r, h, hs, z, q⟩ := D
  exact ⟨sc, ns, p, m, r, e _ _ h, hs.ex e, z, q⟩
theorem DiceAt.exb {l : Addr} {ys : List V} (e : Exb l H H') (ne : d ≠ l) (hl : H l = some (.lst ys)) (D : DiceAt K H d) : DiceAt K H' d := by
  obtain ⟨sc, ns, p, m, r, h, hs, z, q⟩ := D
  exact ⟨sc, ns, p, m, r, e _ _ ne h, hs.exb e hl, z, q⟩
theorem exb_tD (e : Exb d H H') (D : DiceAt K H d) (h : SqT K H a xs) : SqT K H' a xs := let ⟨_, hl⟩ := D.lst; exb_t e hl h
theorem exb_insD (e : Exb d H H') (D : DiceAt K H d) (h : H a = some (.ins C dx fs)) : H' a = some (.ins C dx fs) := let ⟨_, hl⟩ := D.lst; exb_ins e hl h
theorem RingIn.exD (e : Exb d H H') (D : DiceAt K H d) (R : RingIn K C H r a b ds hs) : RingIn K C H' r a b ds hs := let ⟨_, hl⟩ := D.lst; R.exb e hl
theorem TupK.exD (e : Exb d H H') (D : DiceAt K H d) (R : TupK H a xs) : TupK H' a xs := let ⟨_, hl⟩ := D.lst; R.exb e hl
end
/-- a draw changes the draw's own list alone -/
def Dx (K : PySem.W.Frag) (d : Addr) (H H' : Hp) : Prop := Exb d H H' ∧ DiceAt K H' d
section
variable {P : Program} {w : World} {K : PySem.W.Frag} {mg : Str → Option Value} {base : Heap} {C : Addr}
def sp_taken (K : PySem.W.Frag) : Sp := fun vs H Q _ => ∃ (d : Addr) (many : Int), vs = [.ref d, .int many] ∧ DiceAt K H d ∧ (0 < many ∧ many < 1073741824) ∧ ∀ k H', 0 ≤ k → k < many → Dx K d H H' → Q (.int k) H'
theorem dice_set {K : PySem.W.Frag} {H H' : Hp} {d sc : Addr} {ns : List Int} {p m r : Int} {ys : List V} (hd : H d = some (.lst ys)) (e : Exb d H H') (h : H' d = some (.lst [.ref sc, .int p, .int m, .int r])) (hs : Scr K H sc (ns.map V.int)) (z : ns.length ≤ 63) (h1 : 0 ≤ p) (h2 : 0 ≤ m) (h3 : m < 2147483647) : DiceAt K H' d :=
  ⟨sc, ns, p, m, r, h, hs.exb e hd, z, h1, h2, h3⟩
theorem ok_taken (Z : Blt mg) (G : GFun K mg "_law_taken" s__law_taken) : Df P w K mg base 1 "_law_taken" ["_law_row", "_law_many"] (sp_taken K) := by
  refine Df.of G sc__law_taken b__law_taken (fun vs H Q E h => ?_) (fun f cdv A outer s H vs Q E hr h => ?_)
  · obtain ⟨d, many, rfl, _⟩ := h
    rfl
  · obtain ⟨d, many, rfl, ⟨sc, ns, p, m, r, hd, hsc, z, h1, h2, h3⟩, ⟨m1, m2⟩, q⟩ := h
    have hs := hsc.sq
    refine ⟨_, PSs.nox (pss_cons (ps_if (pt_cmpR op_gt (pe_ix ix_list (pv 0) pe_int (fun _ _ => rfl)) pe_int (nomark _)) (pss_cons (ps_set (i := 2) sc__law_taken.nd rfl (by first | exact Or.inl rfl | exact Or.inr rfl) (pe_op op_mod (pe_callTy c_int1 (by rfl) Z.zint (by decide +kernel) (pa_cons (pe_ix ix_list (pv 0) pe_int (fun _ _ => rfl)) pa_nil)) (pv 1)))
          (pss_cons (ps_asg (pe_op op_fdiv (pe_ix ix_list (pv 0) pe_int (fun _ _ => rfl)) (pv 1)) (pg_sub (pv 0) pe_int set_list))
          (pss_one (ps_ret (pv 2))))) pss_nil)
      (pss_cons (ps_asg (pe_op op_add (pe_ix ix_list (pv 0) pe_int (fun _ _ => rfl)) pe_int) (pg_sub (pv 0) pe_int set_list))
      (pss_cons (ps_if (pt_cmpR op_gt (pe_ix ix_list (pv 0) pe_int (fun _ _ => rfl)) (pe_callB c_len (by rfl) Z.zlen PySem.boot_len (pa_cons (pe_ix ix_list (pv 0) pe_int (fun _ _ => rfl)) pa_nil)) (nomark _)) (pss_cons (ps_asg (pe_op op_mod (pe_callTy c_int1 (by rfl) Z.zint (by decide +kernel) (pa_cons (pe_op op_add (pe_op op_mul (pe_ix ix_list (pv 0) pe_int (fun _ _ => rfl)) pe_int) pe_int) pa_nil)) pe_int) (pg_sub (pv 0) pe_int set_list))
          (pss_one (ps_ret (pe_op op_mod (pe_callTy c_int1 (by rfl) Z.zint (by decide +kernel) (pa_cons (pe_op op_fdiv (pe_ix ix_list (pv 0) pe_int (fun _ _ => rfl)) pe_int) pa_nil)) (pv 1))))) pss_nil)
      (pss_cons (ps_set (i := 3) sc__law_taken.nd rfl (by first | exact Or.inl rfl | exact Or.inr rfl) (pe_ix ix_list (pe_ix ix_list (pv 0) pe_int (fun _ _ => rfl)) (pe_op op_sub (pe_ix ix_list (pv 0) pe_int (fun _ _ => rfl)) pe_int) (fun _ _ => rfl)))
      (pss_cons (ps_asg (pe_op op_mod (pe_callTy c_int1 (by rfl) Z.zint (by decide +kernel) (pa_cons (pe_op op_add (pe_op op_add (pe_op op_mul (pe_ix ix_list (pv 0) pe_int (fun _ _ => rfl)) pe_int) (pv 3)) pe_int) pa_nil)) pe_int) (pg_sub (pv 0) pe_int set_list))
      (pss_cons (ps_asg (pe_ifExp (pt_cmpR op_ge (pv 3) (pe_op op_pow pe_int pe_int) (nomark _)) (pe_op op_fdiv (pv 3) (pv 1)) pe_int) (pg_sub (pv 0) pe_int set_list))
      (pss_one (ps_ret (pe_op op_mod (pe_callTy c_int1 (by rfl) Z.zint (by decide +kernel) (pa_cons (pv 3) pa_nil)) (pv 1)))))))))), ?_⟩
    walk_at "g0"
    walk_at "go"
    refine g_kIfS (fun h => ?_) (fun h => ?_)
    · have h := of_decide_eq_true h
      walk_at "go"
      rename_i H2 e2 hd2
      exact q _ H2 (Int.emod_nonneg _ (by omega)) (Int.emod_lt_of_pos _ m1) ⟨e2, dice_set hd e2 hd2 hsc z h1 h2 h3⟩
    · walk_at "go"
      rename_i H2 e2 hd2
      have hs2 := (hsc.exb e2 hd).sq
      walk_at "go"
      refine g_kIfS (fun h => ?_) (fun h => ?_)
      · walk_at "go"
        rename_i H3 e3 hd3
        refine q _ H3 (Int.emod_nonneg _ (by omega)) (Int.emod_lt_of_pos _ m1) ⟨e2.trans e3, dice_set hd (e2.trans e3) hd3 hsc z (by omega) (Int.emod_nonneg _ (by decide)) (Int.emod_lt_of_pos _ (by decide))⟩
      · have h := of_decide_eq_false h
        have hpl : p.toNat < ns.length := by omega
        walk_at "go"
        refine g_ixL (v := .int ns[p.toNat]) hs2 ?_ ?_
        · have e0 : atI (ns.map V.int) (p.toNat : Int) = some (.int ns[p.toNat]) := atI_nat (by rw [List.getElem?_map, List.getElem?_eq_getElem hpl]; rfl)
          rw [← e0]
          congr 1
          omega
        walk_at "go"
        rename_i H3 e3 hd3
        refine g_kIf (fun h4 => ?_) (fun h4 => ?_)
        · walk_at "go"
          rename_i H4 e4 hd4
          refine q _ H4 (Int.emod_nonneg _ (by omega)) (Int.emod_lt_of_pos _ m1) ⟨(e2.trans e3).trans e4, dice_set hd ((e2.trans e3).trans e4) hd4 hsc z (by omega) (Int.emod_nonneg _ (by decide)) (Int.emod_lt_of_pos _ (by decide))⟩
        · walk_at "go"
          rename_i H4 e4 hd4
          refine q _ H4 (Int.emod_nonneg _ (by omega)) (Int.emod_lt_of_pos _ m1) ⟨(e2.trans e3).trans e4, dice_set hd ((e2.trans e3).trans e4) hd4 hsc z (by omega) (Int.emod_nonneg _ (by decide)) (Int.emod_lt_of_pos _ (by decide))⟩
theorem g_taken {H : Hp} {Q : VK} {E : XK} {d : Addr} {many : Int} (D : DiceAt K H d) (h1 : 0 < many) (h2 : many < 1073741824) (q : ∀ k H', 0 ≤ k → k < many → Exb d H H' → DiceAt K H' d → Q (.int k) H') : sp_taken K [.ref d, .int many] H Q E :=
  ⟨d, many, rfl, D, ⟨h1, h2⟩, fun k H' a b c => q k H' a b c.1 c.2⟩
end
end G48

namespace G48
open PySem PySem.Spec PyProof.Rows L2 Evl
abbrev N__law_parts : List Str := ["_law_row", "_law_most", "_law_size", "_law_far", "_law_days", "_law_starts", "_law_k"]
theorem sc__law_parts : FnScope N__law_parts ["_law_row", "_law_most"] (defScope s__law_parts) := ⟨rfl, rfl, rfl, by decide +kernel, rfl, by decide +kernel, by decide +kernel⟩
theorem b__law_parts : BindL "_law_parts" "_law_parts" s__law_parts ["_law_row", "_law_most"] := fun _ _ _ _ _ _ us hl => match us, hl with | [_, _], _ => rfl
end G48
/-! _law_parts -/
namespace G48
open PySem PySem.Spec PyProof.Rows L2 Evl
/-! the steps -/
local macro_rules | `(tactic| walk_at "as") => `(tactic| with_reducible assumption)
local macro_rules | `(tactic| walk_at "hp") => `(tactic| first
  | with_reducible assumption
  | ((with_reducible apply SqT.of); walk_at "as")
  | ((with_reducible apply SqL.of); walk_at "as")
  | ((with_reducible apply ex_at); (focus walk_at "as"); walk_at "hp")
  | ((with_reducible apply ex_t); (focus walk_at "as"); walk_at "hp")
  | ((with_reducible apply ex_l); (focus walk_at "as"); walk_at "hp")
  | ((with_reducible apply exb_ins); (focus walk_at "as"); (focus walk_at "hp"); walk_at "hp")
  | ((with_reducible apply exb_t); (focus walk_at "as"); (focus walk_at "hp"); walk_at "hp")
  | ((with_reducible apply exb_at); (focus walk_at "as"); (focus walk_at "ne"); walk_at "hp")
  | ((with_reducible apply exb_l); (focus walk_at "as"); (focus walk_at "ne"); walk_at "hp"))
local macro_rules | `(tactic| walk_at "ne") => `(tactic| first
  | with_reducible assumption
  | exact Ne.symm (by with_reducible assumption)
  | exact ne_of_none (by with_reducible assumption) (by with_reducible assumption)
  | exact Ne.symm (ne_of_none (by with_reducible assumption) (by with_reducible assumption)))
local macro_rules | `(tactic| walk_at "tr") => `(tactic| first
  | rfl
  | with_reducible assumption
  | exact decide_eq_true (by first | with_reducible assumption | omega)
  | exact decide_eq_false (by first | with_reducible assumption | omega)
  | (rw [Bool.not_eq_true']; exact decide_eq_false (by first | with_reducible assumption | omega))
  | (rw [Bool.not_eq_false']; exact decide_eq_true (by first | with_reducible assumption | omega)))
local macro_rules | `(tactic| walk_at "nn") => `(tactic| first | with_reducible assumption | (exact List.cons_ne_nil _ _))
local macro_rules | `(tactic| walk_at "sz") => `(tactic| first | (exact sz1000 (Nat.le_of_ble_eq_true rfl)) | (refine sz1000 ?_; simp only [List.length_map, List.length_cons, List.length_nil, List.length_append]; omega) | with_reducible assumption)
local macro_rules | `(tactic| walk_at "sl") => `(tactic| first | with_reducible assumption | (refine lt1000 ?_; simp only [List.length_map, List.length_cons, List.length_nil, List.length_append]; omega) | (refine lt1000 ?_; omega))
local macro_rules | `(tactic| walk_at "ix") => `(tactic| first | rfl | with_reducible assumption)
local macro_rules | `(tactic| walk_at "rg") => `(tactic| exact RgOk.of_le (by omega) (by omega) (by omega) (by omega))
local macro_rules | `(tactic| walk_at "sp") => `(tactic| fail "sp")
local macro_rules | `(tactic| walk_at "cl") => `(tactic| with_reducible assumption)
local macro_rules | `(tactic| walk_at "lk") => `(tactic| with_reducible assumption)
local macro_rules | `(tactic| walk_at "it") => `(tactic| first | rfl | with_reducible assumption | exact atI_nat (by with_reducible assumption))
local macro_rules | `(tactic| walk_at "g1") => `(tactic| first
  | (with_reducible apply g_var); (focus rfl)
  | with_reducible apply g_c
  | with_reducible apply g_seq
  | with_reducible apply g_asg
  | with_reducible apply gg_name
  | with_reducible apply g_op
  | with_reducible apply g_cons
  | with_reducible apply g_nil
  | with_reducible apply g_cb
  | with_reducible apply g_fld
  | ((with_reducible apply g_kFld); (focus walk_at "hp"); (focus walk_at "cl"); (focus walk_at "cl"); (focus walk_at "lk"))
  | with_reducible apply g_call
  | walk_at "sp"
  | with_reducible apply g_ret
  | with_reducible apply g_drop
  | with_reducible apply g_test
  | with_reducible apply g_B
  | with_reducible apply g_kTest
  | with_reducible apply g_ifS
  | with_reducible apply g_kIfST
  | with_reducible apply g_kIfSF
  | with_reducible apply g_add
  | with_reducible apply g_sub
  | with_reducible apply g_lt
  | with_reducible apply g_le
  | with_reducible apply g_gt
  | with_reducible apply g_ge
  | with_reducible apply g_eqI
  | with_reducible apply g_neI
  | ((with_reducible apply g_mod); (focus first | decide | omega))
  | ((with_reducible apply g_mul); (focus first | (left; constructor <;> omega) | (right; constructor <;> omega)))
  | ((with_reducible apply g_fdiv); (focus (constructor <;> omega)))
  | ((with_reducible apply g_ixT); (focus walk_at "hp"); (focus walk_at "it"))
  | ((with_reducible apply g_ixL); (focus walk_at "hp"); (focus walk_at "it"))
  | with_reducible apply g_and
  | with_reducible apply g_or
  | with_reducible apply g_not
  | with_reducible apply g_kNotT
  | with_reducible apply g_kNotF
  | with_reducible apply g_if
  | with_reducible apply g_kAndT
  | with_reducible apply g_kAndF
  | with_reducible apply g_kOrT
  | with_reducible apply g_kOrF
  | with_reducible apply g_kIfT
  | with_reducible apply g_kIfF
  | with_reducible apply g_next
  | with_reducible apply g_andV
  | with_reducible apply g_orV
  | with_reducible apply g_notV
  | with_reducible apply g_kNotV
  | with_reducible apply g_kAndVT
  | with_reducible apply g_kAndVF
  | with_reducible apply g_chain
  | with_reducible apply g_kChainT
  | with_reducible apply g_kChainF
  | with_reducible apply g_tup
  | with_reducible apply g_lst
  | ((with_reducible apply g_kT); (focus walk_at "sz"); intro _ _ _ _ _)
  | ((with_reducible apply g_kL); (focus walk_at "sz"); intro _ _ _ _ _)
  | with_reducible apply g_un
  | with_reducible apply g_neg
  | with_reducible apply g_meth
  | ((with_reducible apply g_kMeth); (focus walk_at "hp"); (focus walk_at "lk"))
  | with_reducible apply g_prop
  | ((with_reducible apply g_kProp); (focus walk_at "hp"))
  | with_reducible apply g_make
  | with_reducible apply g_par
  | with_reducible apply g_kPar
  | ((with_reducible apply g_lenLM); (focus walk_at "hp"))
  | ((with_reducible apply g_lenTM); (focus walk_at "hp"))
  | ((with_reducible apply g_lenL); (focus walk_at "hp"))
  | ((with_reducible apply g_lenT); (focus walk_at "hp"))
  | with_reducible apply g_int1
  | with_reducible apply g_max2
  | with_reducible apply g_min2
  | ((with_reducible apply g_listL); (focus walk_at "hp"); intro _ _ _ _ _)
  | ((with_reducible apply g_listT); (focus walk_at "hp"); intro _ _ _ _ _)
  | ((with_reducible apply g_tupL); (focus walk_at "hp"); intro _ _ _ _ _)
  | ((with_reducible apply g_sum); (focus walk_at "hp"))
  | with_reducible apply g_sfld
  | with_reducible apply g_sl
  | with_reducible apply g_nopart
  | with_reducible apply g_part
  | with_reducible apply g_kPart
  | with_reducible apply g_lstRg
  | with_reducible apply g_rg1
  | with_reducible apply g_kRg1
  | with_reducible apply g_bm
  | with_reducible apply gg_sub
  | ((with_reducible apply gg_tup); (focus walk_at "hp"); (focus rfl))
  | with_reducible apply gg_cons
  | with_reducible apply gg_nil
  | with_reducible apply g_forL
  | with_reducible apply g_forT
  | with_reducible apply g_forR1
  | with_reducible apply g_forR2
  | with_reducible apply g_forE
  | with_reducible apply g_forEL
  | ((with_reducible apply g_maxT); (focus walk_at "hp"); (focus walk_at "nn"))
  | ((with_reducible apply g_maxL); (focus walk_at "hp"); (focus walk_at "nn"))
  | ((with_reducible apply g_catA); (focus walk_at "hp"); (focus walk_at "hp"); (focus walk_at "sz"); intro _ _ _ _)
  | ((with_reducible apply g_slA); (focus walk_at "hp"); intro _ _ _ _)
  | ((with_reducible apply g_tupD); (focus walk_at "hp"); intro _ _ _ _ _)
  | ((with_reducible apply g_setL); (focus walk_at "hp"); (focus walk_at "ix"); intro _ _ _)
  | ((with_reducible apply g_append); (focus walk_at "hp"); (focus walk_at "sl"); intro _ _ _)
  | ((with_reducible apply g_aug); (focus rfl))
  | with_reducible apply g_ipI
  | with_reducible apply g_retN
  | with_reducible apply g_lcR1
  | with_reducible apply g_lcR2
  | with_reducible apply g_lcL
  | with_reducible apply g_lcU
  | with_reducible apply g_lcN
  | ((with_reducible apply g_kLcG); (focus rfl))
  | with_reducible apply g_yes
  | with_reducible apply g_kLcTT
  | with_reducible apply g_kLcTF
  | ((with_reducible apply g_kLcE); (focus walk_at "hp"); (focus walk_at "sl"); intro _ _ _)
  | ((with_reducible apply g_pow); (focus (constructor <;> (try constructor) <;> decide)))
  | ((with_reducible apply g_kLRg); (focus walk_at "rg"); intro _ _ _ _ _)
  | ((with_reducible apply g_cat); (focus walk_at "hp"); (focus walk_at "hp"); (focus walk_at "sz"); intro _ _ _ _ _)
  | ((with_reducible apply g_slL); (focus walk_at "hp"); intro _ _ _ _ _)
  | with_reducible apply g_bmT
  | with_reducible apply g_break
  | with_reducible apply g_cont)
local macro_rules | `(tactic| walk_at "g0") => `(tactic| try dsimp only [L2.cxOf, L2.Cx.nox, L2.Cx.wish])
local macro_rules | `(tactic| walk_at "yn") => `(tactic| first
  | ((with_reducible apply y_kIfS); (focus walk_at "tr"))
  | ((with_reducible apply n_kIfS); (focus walk_at "tr"))
  | ((with_reducible apply y_kOr); (focus walk_at "tr"))
  | ((with_reducible apply n_kOr); (focus walk_at "tr"))
  | ((with_reducible apply y_kAnd); (focus walk_at "tr"))
  | ((with_reducible apply n_kAnd); (focus walk_at "tr"))
  | ((with_reducible apply y_kNot); (focus walk_at "tr"))
  | ((with_reducible apply n_kNot); (focus walk_at "tr"))
  | ((with_reducible apply y_kIf); (focus walk_at "tr"))
  | ((with_reducible apply n_kIf); (focus walk_at "tr"))
  | ((with_reducible apply y_kAndV); (focus walk_at "tr"))
  | ((with_reducible apply n_kAndV); (focus walk_at "tr"))
  | ((with_reducible apply y_kOrV); (focus walk_at "tr"))
  | ((with_reducible apply n_kOrV); (focus walk_at "tr"))
  | ((with_reducible apply y_kChain); (focus walk_at "tr"))
  | ((with_reducible apply n_kChain); (focus walk_at "tr"))
  | ((with_reducible apply y_kLcT); (focus walk_at "tr"))
  | ((with_reducible apply n_kLcT); (focus walk_at "tr"))
  | ((with_reducible apply y_kWh); (focus walk_at "tr"))
  | ((with_reducible apply n_kWh); (focus walk_at "tr")))
local macro_rules | `(tactic| walk_at "go") => `(tactic| repeat (first | walk_at "g1" | walk_at "yn"))
local macro_rules | `(tactic| walk_at "hp") => `(tactic| first
  | ((with_reducible apply RingIn.ex); (focus walk_at "as"); walk_at "hp")
  | ((with_reducible apply RingAt.ex); (focus walk_at "as"); walk_at "hp")
  | ((with_reducible apply RingIn.exb); (focus walk_at "as"); (focus walk_at "hp"); walk_at "hp")
  | ((with_reducible apply RingAt.exb); (focus walk_at "as"); (focus walk_at "hp"); walk_at "hp")
  | ((with_reducible apply TupK.ex); (focus walk_at "as"); walk_at "hp")
  | ((with_reducible apply TupK.exb); (focus walk_at "as"); (focus walk_at "hp"); walk_at "hp"))
local macro_rules | `(tactic| walk_at "lk") => `(tactic| first | with_reducible exact rf_spans | with_reducible exact rf_heaps | with_reducible exact rf_total | with_reducible exact rf_nr | with_reducible exact rf_wd)
local macro_rules | `(tactic| walk_at "sp") => `(tactic| first
  | ((with_reducible apply g_isiTup); (focus walk_at "hp"))
  | ((with_reducible apply g_isiLst); (focus walk_at "hp"))
  | ((with_reducible apply g_isint); (focus omega); (focus omega))
  | ((with_reducible apply g_checkn); (focus omega); (focus omega))
  | ((with_reducible apply g_rbooks); (focus walk_at "hp"))
  | ((with_reducible apply g_rpace); (focus walk_at "hp"); intro _ _ _ _)
  | ((with_reducible apply g_rlen); (focus walk_at "hp"))
  | ((with_reducible apply g_rneed); (focus walk_at "hp"); (focus omega))
  | ((with_reducible apply g_rneedM); (focus walk_at "hp"))
  | ((with_reducible apply g_rwithM); (focus walk_at "hp"))
  | ((with_reducible apply g_rspans); (focus walk_at "hp"); (focus with_reducible assumption))
  | ((with_reducible apply g_rheaps); (focus walk_at "hp"); (focus with_reducible assumption))
  | ((with_reducible apply g_rtotal); (focus walk_at "hp"); (focus with_reducible assumption)))

local macro_rules | `(tactic| walk_at "sp") => `(tactic| first
  | ((with_reducible apply g_taken); (focus walk_at "hp"); (focus first | decide | omega); (focus first | decide | omega); intro _ _ _ _ _ _))
local macro_rules | `(tactic| walk_at "hp") => `(tactic| first
  | ((with_reducible apply DiceAt.ex); (focus walk_at "as"); walk_at "hp")
  | ((with_reducible apply exb_tD); (focus walk_at "as"); (focus walk_at "hp"); walk_at "hp")
  | ((with_reducible apply exb_insD); (focus walk_at "as"); (focus walk_at "hp"); walk_at "hp")
  | ((with_reducible apply RingIn.exD); (focus walk_at "as"); (focus walk_at "hp"); walk_at "hp")
  | ((with_reducible apply TupK.exD); (focus walk_at "as"); (focus walk_at "hp"); walk_at "hp"))

theorem Exb.ex2 {l d : Addr} {H0 H H' : Hp} (h : H0 l = none) (a : Exb d H0 H) (b : Exb l H H') : Exb d H0 H' := fun c o n e => b c o (ne_of_none e h) (a c o n e)
theorem sum_set : ∀ (hs : List Int) (j : Nat) (v x : Int), hs[j]? = some x → (hs.set j v).sum = hs.sum - x + v
  | [], _, _, _, h => by cases h
  | y :: r, 0, v, x, h => by
    cases h
    rw [List.set_cons_zero, List.sum_cons, List.sum_cons]
    omega
  | y :: r, j + 1, v, x, h => by
    rw [List.set_cons_succ, List.sum_cons, List.sum_cons, sum_set r j v x (by simpa using h)]
    omega
theorem all_set {P : Int → Prop} {hs : List Int} (h : ∀ x ∈ hs, P x) (j : Nat) {v : Int} (hv : P v) : ∀ x ∈ hs.set j v, P x := fun x hx => by
  rcases List.mem_or_eq_of_mem_set hx with h1 | h1
  · exact h x h1
  · rw [h1]; exact hv
theorem all_app {P : Int → Prop} {hs : List Int} (h : ∀ x ∈ hs, P x) {v : Int} (hv : P v) : ∀ x ∈ hs ++ [v], P x := fun x hx => by
  rcases List.mem_append.mp hx with h1 | h1
  · exact h x h1
  · rw [List.mem_singleton.mp h1]; exact hv
theorem map_app (ds : List Int) (v : Int) : ds.map V.int ++ [V.int v] = (ds ++ [v]).map V.int := by rw [List.map_append]; rfl
theorem map_set' (ds : List Int) (j : Nat) (v : Int) : (ds.map V.int).set j (.int v) = (ds.set j v).map V.int := by rw [List.map_set]
/-- the greatest's first place -/
theorem g_indexMx {K : PySem.W.Frag} {H : Hp} {Q : VK} {a : Addr} {hs : List Int} (h : H a = some (.lst (hs.map V.int))) (hn : hs ≠ []) (q : ∀ j : Nat, hs[j]? = some (mx hs) → Q (.int (j : Nat)) H) : rIndex K (.ref a) [.int (mx hs)] H Q := by
  obtain ⟨j, hj, hf⟩ := first_at (mx_mem hn)
  refine ⟨a, hs.map V.int, .int (mx hs), j, .int (mx hs), rfl, rfl, SqL.of h, rfl, flat_ints hs, by rw [List.getElem?_map, hj]; rfl, beq_self_eq_true _, fun m z hm hz => ?_, q j hj⟩
  rw [List.getElem?_map] at hz
  cases e : hs[m]? with
  | none => rw [e] at hz; cases hz
  | some y =>
    rw [e] at hz
    cases hz
    have h2 := hf m hm
    rw [e] at h2
    exact beq_eq_false_iff_ne.mpr fun z => h2 (by rw [z])
theorem ixN_nat' {n j : Nat} (h : j < n) : ixN n (j : Int) = some j := by
  unfold ixN
  rw [if_pos (by omega), if_pos (by omega), Int.toNat_natCast]
theorem ixN_int {n : Nat} {k : Int} (h : 0 ≤ k ∧ k < n) : ixN n k = some k.toNat := by
  unfold ixN
  rw [if_pos h.1, if_pos h.2]
section
variable {P : Program} {w : World} {K : PySem.W.Frag} {mg : Str → Option Value} {base : Heap} {C : Addr}
def sp_parts (K : PySem.W.Frag) : Sp := fun vs H Q _ => ∃ (d : Addr) (most : Int), vs = [.ref d, .int most] ∧ DiceAt K H d ∧ (2 ≤ most ∧ most ≤ 8) ∧
  ∀ p a b ds hs H', H p = none → Exb d H H' → DiceAt K H' d → H' p = some (.tup [.ref a, .ref b]) → TupK H' a (ds.map V.int) → TupK H' b (hs.map V.int) → RingOk ds hs → (ds.length : Int) ≤ most → Q (.ref p) H'
theorem ok_parts (Z : Blt mg) (D__law_taken : Df P w K mg base 1 "_law_taken" ["_law_row", "_law_many"] (sp_taken K)) (G : GFun K mg "_law_parts" s__law_parts) : Df P w K mg base 3 "_law_parts" ["_law_row", "_law_most"] (sp_parts K) := by
  refine Df.of G sc__law_parts b__law_parts (fun vs H Q E h => ?_) (fun f cdv A outer s H vs Q E hr h => ?_)
  · obtain ⟨d, most, rfl, _⟩ := h
    rfl
  · obtain ⟨d, most, rfl, D, ⟨m1, m2⟩, q⟩ := h
    refine ⟨_, PSs.nox (pss_cons (ps_asg (pe_tup (pa_cons (pe_op op_add pe_int (pg D__law_taken hr (pa_cons (pv 0) (pa_cons (pe_op op_sub (pv 1) pe_int) pa_nil)))) (pa_cons (pe_ix ix_list (pe_lst (pa_cons pe_int (pa_cons pe_int (pa_cons pe_int pa_nil)))) (pg D__law_taken hr (pa_cons (pv 0) (pa_cons pe_int pa_nil))) (fun _ _ => rfl)) pa_nil))) (pg_tup (by rfl) (pgs_cons (pg_name (i := 2) sc__law_parts.nd rfl (by first | exact Or.inl rfl | exact Or.inr rfl)) (pgs_cons (pg_name (i := 3) sc__law_parts.nd rfl (by first | exact Or.inl rfl | exact Or.inr rfl)) pgs_nil))))
      (pss_cons (ps_setLc (i := 4) (own := [("_law_k", 6)]) rfl sc__law_parts.nd rfl rfl (sw_true rfl rfl rfl (by decide +kernel)) (pi_range1 (by rfl) Z.zrange (pa_cons (pv 2) pa_nil)) (blkOk_by (N := N__law_parts) (sc := defScope s__law_parts) (by decide +kernel)) (fun _ _ _ _ _ => (pg_name (i := 6) sc__law_parts.nd rfl (by first | exact Or.inl rfl | exact Or.inr rfl))) (fun _ _ _ _ _ => pts_nil) (fun _ _ _ _ _ => (pe_op op_add pe_int (pg D__law_taken hr (pa_cons (pv 0) (pa_cons (pv 3) pa_nil))))))
      (pss_cons (ps_setLc (i := 5) (own := [("_law_k", 6)]) rfl sc__law_parts.nd rfl rfl (sw_true rfl rfl rfl (by decide +kernel)) (pi_range1 (by rfl) Z.zrange (pa_cons (pv 2) pa_nil)) (blkOk_by (N := N__law_parts) (sc := defScope s__law_parts) (by decide +kernel)) (fun _ _ _ _ _ => (pg_name (i := 6) sc__law_parts.nd rfl (by first | exact Or.inl rfl | exact Or.inr rfl))) (fun _ _ _ _ _ => pts_nil) (fun _ _ _ _ _ => (pg D__law_taken hr (pa_cons (pv 0) (pa_cons pe_int pa_nil)))))
      (pss_cons (ps_if (pt_cmpR op_eq (pe_callB (cr_sum rfl) (by rfl) Z.zsum (by decide +kernel) (pa_cons (pv 5) pa_nil)) pe_int (nomark _)) (pss_one (ps_asg (pe_op op_add pe_int (pg D__law_taken hr (pa_cons (pv 0) (pa_cons pe_int pa_nil)))) (pg_sub (pv 5) (pg D__law_taken hr (pa_cons (pv 0) (pa_cons (pv 2) pa_nil))) set_list))) pss_nil)
      (pss_cons (ps_while PassesOwn.never (pt_cmpR op_gt (pe_callB (cr_sum rfl) (by rfl) Z.zsum (by decide +kernel) (pa_cons (pv 5) pa_nil)) pe_int (nomark _)) (pss_one (ps_asg (pe_op op_sub (pe_callB (cr_max rfl) (by rfl) Z.zmax (by decide +kernel) (pa_cons (pv 5) pa_nil)) pe_int) (pg_sub (pv 5) (pe_bm PySem.F.plainAttrs_list PySem.F.slot_list_index PySem.F.type_list_index mt_index (pv 5) (pa_cons (pe_callB (cr_max rfl) (by rfl) Z.zmax (by decide +kernel) (pa_cons (pv 5) pa_nil)) pa_nil)) set_list))))
      (pss_one (ps_ret (pe_tup (pa_cons (pe_callTy c_tuple_of (by rfl) Z.ztuple (by decide +kernel) (pa_cons (pv 4) pa_nil)) (pa_cons (pe_callTy c_tuple_of (by rfl) Z.ztuple (by decide +kernel) (pa_cons (pv 5) pa_nil)) pa_nil)))))))))), ?_⟩
    walk_at "g0"
    walk_at "go"
    rename_i n H1 n0 n1 e1 D1 l H2 nl e2 hl k H3 k0 k1 e3 D3
    have hld : l ≠ d := by
      obtain ⟨_, hd⟩ := D1.lst
      exact Ne.symm (ne_of_none hd nl)
    have hl3 := e3 _ _ hld hl
    have hfar : ∃ far, atI [V.int 3, .int 9, .int 30] k = some (.int far) ∧ 3 ≤ far ∧ far ≤ 30 := by
      have : k = 0 ∨ k = 1 ∨ k = 2 := by omega
      rcases this with rfl | rfl | rfl
      · exact ⟨3, rfl, by decide, by decide⟩
      · exact ⟨9, rfl, by decide, by decide⟩
      · exact ⟨30, rfl, by decide, by decide⟩
    obtain ⟨far, hfar, f1, f2⟩ := hfar
    refine g_ixL (SqL.of hl3) hfar ?_
    have e13 : Exb d H H3 := (e1.trans (Exb.of e2)).trans e3
    walk_at "go"
    rename_i p1 H4 np1 e4 hp1
    have D4 := D3.ex e4
    have e14 : Exb d H H4 := e13.trans (Exb.of e4)
    refine g_kLcR1 ⟨by omega, by omega⟩ (fun A i H' => ∃ ds : List Int, Exb d H H' ∧ DiceAt K H' d ∧ H' A = some (.lst (ds.map V.int)) ∧ ds.length = i ∧ ∀ x ∈ ds, 1 ≤ x ∧ x ≤ 30) (fun A H5 nA e5 hA => ⟨[], e14.trans (Exb.of e5), D4.ex e5, hA, rfl, fun x hx => by cases hx⟩) ?_ ?_
    · rintro A i H5 nA hi ⟨ds, e5, D5, hA, rfl, hds⟩
      walk_at "go"
      rename_i k2 H6 k20 k21 e6 D6
      have hAd : A ≠ d := by
        obtain ⟨_, hd⟩ := D4.lst
        exact Ne.symm (ne_of_none hd nA)
      have hA6 := e6 _ _ hAd hA
      refine g_kLcE hA6 (by rw [List.length_map]; exact lt1000 (by omega)) fun H7 e7 hA7 => ⟨ds ++ [1 + k2], ?_, D6.exb e7 (Ne.symm hAd) hA6, by rw [hA7, map_app], by rw [List.length_append]; rfl, all_app hds ⟨by omega, by omega⟩⟩
      have nA0 : A ≠ d → H A = none := fun _ => by
        cases hz : H A with
        | none => rfl
        | some o => rw [e14 _ _ hAd hz] at nA; cases nA
      exact Exb.ex2 (nA0 hAd) (e5.trans e6) e7
    · rintro A H5 nA ⟨ds, e5, D5, hA, hlen, hds⟩
      have hAd : A ≠ d := by
        obtain ⟨_, hd⟩ := D4.lst
        exact Ne.symm (ne_of_none hd nA)
      have nA0 : H A = none := by
        cases hz : H A with
        | none => rfl
        | some o => rw [e14 _ _ hAd hz] at nA; cases nA
      walk_at "go"
      refine g_kLcR1 ⟨by omega, by omega⟩ (fun B i H' => ∃ hs : List Int, Exb d H5 H' ∧ DiceAt K H' d ∧ H' B = some (.lst (hs.map V.int)) ∧ hs.length = i ∧ ∀ x ∈ hs, 0 ≤ x ∧ x ≤ 12) (fun B H6 nB e6 hB => ⟨[], Exb.of e6, D5.ex e6, hB, rfl, fun x hx => by cases hx⟩) ?_ ?_
      · rintro B i H6 nB hi ⟨hs, e6, D6, hB, rfl, hhs⟩
        walk_at "go"
        rename_i k2 H7 k20 k21 e7 D7
        have hBd : B ≠ d := by
          obtain ⟨_, hd⟩ := D5.lst
          exact Ne.symm (ne_of_none hd nB)
        have hB7 := e7 _ _ hBd hB
        refine g_kLcE hB7 (by rw [List.length_map]; exact lt1000 (by omega)) fun H8 e8 hB8 => ⟨hs ++ [k2], Exb.ex2 nB (e6.trans e7) e8, D7.exb e8 (Ne.symm hBd) hB7, by rw [hB8, map_app], by rw [List.length_append]; rfl, all_app hhs ⟨by omega, by omega⟩⟩
      · rintro B H6 nB ⟨hs, e6, D6, hB, hlenh, hhs⟩
        have hBd : B ≠ d := by
          obtain ⟨_, hd⟩ := D5.lst
          exact Ne.symm (ne_of_none hd nB)
        have hAB : A ≠ B := ne_of_none hA nB
        have nB0 : H B = none := by
          cases hz : H B with
          | none => rfl
          | some o => rw [e5 _ _ hBd hz] at nB; cases nB
        have hA6 := e6 _ _ hAd hA
        have e06 := e5.trans e6
        -- the end, from any starts with sum in 1 to 12
        walk_at "go"
        generalize hR : (tSeq (tWhile _ _) (tRet _) : TS) = R
        have wh : ∀ (H7 : Hp) (hs : List Int) (v : Option V), Exb d H H7 → DiceAt K H7 d → H7 A = some (.lst (ds.map V.int)) → H7 B = some (.lst (hs.map V.int)) → hs.length = ds.length → (∀ x ∈ hs, 0 ≤ x ∧ x ≤ 12) → 1 ≤ hs.sum →
            R { nx := fun x H' => Q V.non H', rt := Q } [some (.ref d), some (.int most), some (.int (2 + n)), some (.int far), some (.ref A), some (.ref B), v] H7 := by
          subst hR
          intro H7 hs v e7 D7 hA7 hB7 hl7 hhs7 hs7
          walk_at "go"
          refine g_while (fun m σ H' => ∃ (hs : List Int), σ = [some (.ref d), some (.int most), some (.int (2 + n)), some (.int far), some (.ref A), some (.ref B), v] ∧ Exb d H H' ∧ DiceAt K H' d ∧ H' A = some (.lst (ds.map V.int)) ∧ H' B = some (.lst (hs.map V.int)) ∧ hs.length = ds.length ∧ (∀ x ∈ hs, 0 ≤ x ∧ x ≤ 12) ∧ 1 ≤ hs.sum ∧ m = hs.sum.toNat) hs.sum.toNat
            ⟨hs, rfl, e7, D7, hA7, hB7, hl7, hhs7, hs7, rfl⟩ ?_
          rintro m σ H8 ⟨hs, rfl, e8, D8, hA8, hB8, hl8, hhs8, hs8, rfl⟩
          walk_at "go"
          refine g_kWh (fun h => ?_) (fun h => ?_)
          · have h := of_decide_eq_true h
            have hne : hs ≠ [] := by
              intro z
              rw [z] at h
              exact absurd h (by decide)
            walk_at "go"
            refine g_kBM_list (SqL.of hB8) ?_
            walk_at "go"
            refine g_indexMx hB8 hne fun j hj => ?_
            have hjl : j < hs.length := (List.getElem?_eq_some_iff.mp hj).1
            have hm := mx_mem hne
            have hmb := hhs8 _ hm
            have hm1 : 1 ≤ mx hs := by
              have := sum_le (lo := 0) (hi := mx hs) (ds := hs) fun x hx => ⟨(hhs8 x hx).1, le_mx hx⟩
              have h2 := this.2
              by_cases hz : mx hs ≤ 0
              · have : mx hs = 0 := by omega
                rw [this] at h2
                omega
              · omega
            refine g_setL hB8 (by rw [List.length_map]; exact ixN_nat' hjl) fun H9 e9 hB9 => ?_
            rw [map_set'] at hB9
            have hsum := sum_set hs j (mx hs - 1) _ hj
            exact ⟨_, by show (hs.set j (mx hs - 1)).sum.toNat < _; omega, hs.set j (mx hs - 1), rfl, Exb.ex2 nB0 e8 e9, D8.exb e9 (Ne.symm hBd) hB8, e9 _ _ hAB hA8, hB9, by rw [List.length_set]; exact hl8, all_set hhs8 j ⟨by omega, by omega⟩, by omega, rfl⟩
          · have h := of_decide_eq_false h
            walk_at "go"
            rename_i a Ha na ea ta b Hb nb eb tb p Hp np ep hp
            have e9 := (ea.trans eb).trans ep
            refine q p a b ds hs Hp ?_ (e8.trans (Exb.of e9)) (D8.ex e9) hp (ta.ex (eb.trans ep)) (tb.ex ep) ⟨by omega, by omega, hl8, hds, hhs8, by omega, by omega⟩ (by omega)
            have hpd : p ≠ d := by
              obtain ⟨_, hd⟩ := D8.lst
              exact Ne.symm (ne_of_none (eb _ _ (ea _ _ hd)) np)
            cases hz : H p with
            | none => rfl
            | some o => rw [eb _ _ (ea _ _ (e8 _ _ hpd hz))] at np; cases np
        refine g_kIfS (fun h => ?_) (fun h => ?_)
        · have h := of_decide_eq_true h
          walk_at "go"
          rename_i k2 H7 k20 k21 e7 D7 k3 H8 k30 k31 e8 D8
          have hA8 := e8 _ _ hAd (e7 _ _ hAd hA6)
          have hB8 := e8 _ _ hBd (e7 _ _ hBd hB)
          refine g_setL hB8 (by rw [List.length_map]; exact ixN_int ⟨by omega, by omega⟩) fun H9 e9 hB9 => ?_
          rw [map_set'] at hB9
          have hjl : k3.toNat < hs.length := by omega
          have hsum := sum_set hs k3.toNat (1 + k2) _ (List.getElem?_eq_getElem hjl)
          have hbj := hhs _ (List.getElem_mem hjl)
          have hle : hs[k3.toNat] ≤ hs.sum := by
            have := sum_set hs k3.toNat 0 _ (List.getElem?_eq_getElem hjl)
            have h2 := (sum_le (lo := 0) (hi := 12) (ds := hs.set k3.toNat 0) (all_set hhs _ (by decide))).1
            rw [Int.zero_mul] at h2
            omega
          exact wh H9 (hs.set k3.toNat (1 + k2)) _ (Exb.ex2 nB0 ((e06.trans e7).trans e8) e9) (D8.exb e9 (Ne.symm hBd) hB8) (e9 _ _ hAB hA8) hB9 (by rw [List.length_set]; omega) (all_set hhs _ ⟨by omega, by omega⟩) (by omega)
        · have h := of_decide_eq_false h
          walk_at "go"
          have h2 := (sum_le (lo := 0) (hi := 12) (ds := hs) hhs).1
          rw [Int.zero_mul] at h2
          exact wh H6 hs _ e06 D6 hA6 hB (by omega) hhs (by omega)
end
end G48

/-! data of ints compared; tests whose rest is one -/
namespace G48
open PySem PySem.Spec PyProof.Rows L2 Evl
/-- the law's own body: nothing leaves it -/
abbrev Body0 (P : Program) (w : World) (K : PySem.W.Frag) (mg : Str → Option Value) (base : Heap) (qual : Str) (N : List Str) (st : Stmt) (k : Nat) (sp : Sp) : Prop :=
  ∀ (f : Addr) (cdv : Value) (A : Around) (outer : List Env) (s : Shared) (H : Hp) (vs : List V) (Q : VK) (E : XK), Room k (A.deeper (envOfC qual (defScope st) s.heap.objs.size f cdv)) → sp vs H Q E →
      ∃ t, PSs (cxOf L2.CX0 P w K mg base N qual (defScope st) f cdv A outer s H E).nox (defBody st) t ∧ t { nx := fun _ H' => Q .non H', rt := Q } (start N vs) H
theorem g_kAndN {u : TT} {σ : L2.St} {QB : Bool → Hp → Prop} {c : Bool} {H : Hp} (rest : ∀ H', Ex H H' → QB false H') (h1 : c = true → (∀ H', Ex H H' → QB false H') → u σ H QB) : kAnd u σ QB c H := g_kAnd (fun h => h1 h rest) fun _ => rest H (Ex.refl _)
theorem eqvAll_ints : ∀ xs ys : List Int, PyData.eqvAll (xs.map PyData.int) (ys.map PyData.int) = decide (xs = ys)
  | [], [] => by simp [PyData.eqvAll]
  | [], _ :: _ => by simp [PyData.eqvAll]
  | _ :: _, [] => by simp [PyData.eqvAll]
  | x :: xs, y :: ys => by
    rw [Bool.eq_iff_iff]
    simp [PyData.eqvAll, PyData.eqv, eqvAll_ints xs ys]
theorem sh_lst (ns : List Int) : SeqAt.shaped (.list (ns.map PyData.int)) = true := PySem.W.shaped_ints ns
theorem sh_tup (ns : List Int) : SeqAt.shaped (.tuple (ns.map PyData.int)) = true := by
  have h1 := PySem.W.depthAll_ints ns
  have h2 : PyData.depth (.tuple (ns.map PyData.int)) ≤ 64 := by simp only [PyData.depth]; omega
  show (PyData.canLay0 (.tuple (ns.map PyData.int)) && decide (PyData.depth (.tuple (ns.map PyData.int)) ≤ 64)) = true
  rw [Bool.and_eq_true]
  exact ⟨by simp only [PyData.canLay0]; exact PySem.W.canLayAll0_ints ns, decide_eq_true h2⟩
section
variable {K : PySem.W.Frag} {H : Hp} {Q : VK} {a b : Addr} {xs ys : List Int}
theorem dpAll_ints : ∀ xs : List Int, DpAll K H (xs.map V.int) (xs.map PyData.int)
  | [] => .nil
  | x :: xs => .cons (.int x) (dpAll_ints xs)
theorem dp_lst (h : SqL K H a (xs.map V.int)) : Dp K H (.ref a) (.list (xs.map PyData.int)) := .lst h (dpAll_ints xs)
theorem dp_tup (h : SqT K H a (xs.map V.int)) : Dp K H (.ref a) (.tuple (xs.map PyData.int)) := .tup h (dpAll_ints xs)
theorem eqv_lst : PyData.eqv (.list (xs.map PyData.int)) (.list (ys.map PyData.int)) = decide (xs = ys) := by simp only [PyData.eqv]; exact eqvAll_ints xs ys
theorem eqv_tup : PyData.eqv (.tuple (xs.map PyData.int)) (.tuple (ys.map PyData.int)) = decide (xs = ys) := by simp only [PyData.eqv]; exact eqvAll_ints xs ys
theorem g_eqLI (h1 : SqL K H a (xs.map V.int)) (h2 : SqL K H b (ys.map V.int)) (q : Q (.bl (decide (xs = ys))) H) : rEqD K (.ref a) (.ref b) H Q := g_eqD (dp_lst h1) (dp_lst h2) (sh_lst _) (sh_lst _) (by rw [eqv_lst]; exact q)
theorem g_neLI (h1 : SqL K H a (xs.map V.int)) (h2 : SqL K H b (ys.map V.int)) (q : Q (.bl (!decide (xs = ys))) H) : rNeD K (.ref a) (.ref b) H Q := g_neD (dp_lst h1) (dp_lst h2) (sh_lst _) (sh_lst _) (by rw [eqv_lst]; exact q)
theorem g_eqTI (h1 : SqT K H a (xs.map V.int)) (h2 : SqT K H b (ys.map V.int)) (q : Q (.bl (decide (xs = ys))) H) : rEqD K (.ref a) (.ref b) H Q := g_eqD (dp_tup h1) (dp_tup h2) (sh_tup _) (sh_tup _) (by rw [eqv_tup]; exact q)
theorem g_neTI (h1 : SqT K H a (xs.map V.int)) (h2 : SqT K H b (ys.map V.int)) (q : Q (.bl (!decide (xs = ys))) H) : rNeD K (.ref a) (.ref b) H Q := g_neD (dp_tup h1) (dp_tup h2) (sh_tup _) (sh_tup _) (by rw [eqv_tup]; exact q)
end
end G48

/-! all but some lists stand -/
namespace G48
open PySem PySem.Spec PyProof.Rows L2 Evl
/-- all but the places of S stand -/
def Exs (S : List Addr) (H H' : Hp) : Prop := ∀ b o, b ∉ S → H b = some o → H' b = some o
theorem Exs.of {S : List Addr} {H H' : Hp} (e : Ex H H') : Exs S H H' := fun b o _ h => e b o h
theorem Exs.ofb {S : List Addr} {l : Addr} {H H' : Hp} (hl : l ∈ S) (e : Exb l H H') : Exs S H H' := fun b o n h => e b o (fun z => n (z ▸ hl)) h
theorem Exs.trans {S : List Addr} {H H1 H2 : Hp} (a : Exs S H H1) (b : Exs S H1 H2) : Exs S H H2 := fun c o n h => b c o n (a c o n h)
theorem Exs.ex {S : List Addr} {H0 H H' : Hp} (h : ∀ l ∈ S, H0 l = none) (a : Ex H0 H) (b : Exs S H H') : Ex H0 H' := fun c o e => b c o (fun z => by rw [h c z] at e; cases e) (a c o e)
section
variable {K : PySem.W.Frag} {H H' : Hp}
theorem exs_t {S : List Addr} (e : Exs S H H') (hS : ∀ l ∈ S, ∃ ys, H l = some (.lst ys)) {a : Addr} {xs : List V} (h : SqT K H a xs) : SqT K H' a xs := by
  have nm : ∀ {o : HO}, H a = some o → (∀ ys, o ≠ .lst ys) → a ∉ S := fun ho hn z => by
    obtain ⟨ys, hy⟩ := hS _ z
    rw [ho] at hy
    exact hn ys (Option.some.inj hy)
  rcases h with (h | ⟨o, h⟩) | h
  · exact .inl (.inl (e _ _ (nm h fun ys z => by cases z) h))
  · exact .inl (.inr ⟨o, e _ _ (nm h fun ys z => by cases z) h⟩)
  · exact .inr h
end
end G48

/-! scenes as mathematics -/
namespace G48
structure Sc where
  day : Int
  st : Nat → List Int
  en : Nat → Option Int
  sp : Nat → Int
  nb : Int
def sprv (N k : Nat) : Nat := if k = 0 then N - 1 else k - 1
def snxt (N k : Nat) : Nat := if k + 1 = N then 0 else k + 1
theorem sprv_lt {N k : Nat} (h : k < N) : sprv N k < N := by unfold sprv; split <;> omega
theorem snxt_lt {N k : Nat} (h : k < N) : snxt N k < N := by unfold snxt; split <;> omega
theorem sprv_ne {N k : Nat} (h2 : 2 ≤ N) (h : k < N) : sprv N k ≠ k := by unfold sprv; split <;> omega
theorem snxt_ne {N k : Nat} (h2 : 2 ≤ N) (h : k < N) : snxt N k ≠ k := by unfold snxt; split <;> omega
theorem sprv_snxt {N k : Nat} (h : k < N) : sprv N (snxt N k) = k := by
  unfold sprv snxt
  by_cases z : k + 1 = N
  · rw [if_pos z, if_pos rfl]; omega
  · rw [if_neg z, if_neg (by omega)]; omega
theorem sprv_eq {N k j : Nat} (hj : j < N) (hk : k < N) : sprv N j = k ↔ j = snxt N k := by
  constructor
  · intro h
    unfold sprv at h
    unfold snxt
    split at h <;> split <;> omega
  · rintro rfl
    exact sprv_snxt hk
theorem snxt_mod {N k : Nat} (h : k < N) : ((k : Int) + 1) % (N : Int) = ((snxt N k : Nat) : Int) := by
  unfold snxt
  by_cases z : k + 1 = N
  · rw [if_pos z, show (k : Int) + 1 = (N : Int) by omega]
    exact Int.emod_self
  · rw [if_neg z, Int.emod_eq_of_lt (by omega) (by omega)]
    omega
/-! sums over the readers -/
def sumN (N : Nat) (f : Nat → Nat) : Nat := ((List.range N).map f).sum
theorem sumN_succ {N : Nat} {f : Nat → Nat} : sumN (N + 1) f = sumN N f + f N := by
  unfold sumN
  rw [List.range_succ, List.map_append, List.sum_append]
  simp
theorem sumN_congr {f g : Nat → Nat} : ∀ {N : Nat}, (∀ k, k < N → f k = g k) → sumN N f = sumN N g
  | 0, _ => rfl
  | N + 1, h => by rw [sumN_succ, sumN_succ, sumN_congr (N := N) fun k hk => h k (by omega), h N (by omega)]
theorem sumN_add {f g : Nat → Nat} : ∀ {N : Nat}, sumN N (fun k => f k + g k) = sumN N f + sumN N g
  | 0 => rfl
  | N + 1 => by rw [sumN_succ, sumN_succ, sumN_succ, sumN_add (N := N)]; omega
theorem sumN_front {f : Nat → Nat} : ∀ {N : Nat}, sumN (N + 1) f = f 0 + sumN N (fun k => f (k + 1))
  | 0 => by rw [sumN_succ]; show 0 + f 0 = f 0 + 0; omega
  | N + 1 => by rw [sumN_succ, sumN_front (N := N), sumN_succ]; omega
theorem sumN_rot {N : Nat} {f : Nat → Nat} : sumN N (fun k => f (sprv N k)) = sumN N f := by
  cases N with
  | zero => rfl
  | succ M =>
    rw [sumN_front, sumN_succ]
    have e0 : sprv (M + 1) 0 = M := rfl
    rw [e0, sumN_congr (g := f) fun k _ => by
      show f (sprv (M + 1) (k + 1)) = f k
      have : sprv (M + 1) (k + 1) = k := rfl
      rw [this]]
    omega
theorem sumN_one {f : Nat → Nat} : ∀ {N k : Nat}, k < N → f k ≤ sumN N f
  | N + 1, k, h => by
    rw [sumN_succ]
    by_cases z : k = N
    · rw [z]; omega
    · have := sumN_one (f := f) (N := N) (k := k) (by omega); omega
theorem sumN_two {f : Nat → Nat} : ∀ {N j k : Nat}, j < N → k < N → j ≠ k → f j + f k ≤ sumN N f
  | N + 1, j, k, hj, hk, h => by
    rw [sumN_succ]
    by_cases z : k = N
    · have := sumN_one (f := f) (N := N) (k := j) (by omega)
      rw [z]; omega
    · by_cases y : j = N
      · have := sumN_one (f := f) (N := N) (k := k) (by omega)
        rw [y]; omega
      · have := sumN_two (f := f) (N := N) (j := j) (k := k) (by omega) (by omega) h; omega
/-! the scene's steps -/
def Sc.begun (s : Sc) : Sc := { s with en := fun k => if s.en k = none ∧ s.st k ≠ [] then some (s.day + s.sp k) else s.en k }
def movSt (N : Nat) (P : Nat → Prop) [DecidablePred P] (st : Nat → List Int) : Nat → List Int := fun k => (if P k then (st k).tail else st k) ++ (if P (sprv N k) then (st (sprv N k)).take 1 else [])
def Sc.due (s : Sc) (k : Nat) : Prop := s.en k = some (s.day + 1)
instance (s : Sc) : DecidablePred s.due := fun k => inferInstanceAs (Decidable (s.en k = some (s.day + 1)))
def Sc.next0 (N : Nat) (s : Sc) : Sc := { s with day := s.day + 1, st := movSt N s.due s.st, en := fun k => if s.due k then none else s.en k }
def Sc.next (N : Nat) (s : Sc) : Sc := (s.next0 N).begun
def Sc.dueK (N : Nat) (s : Sc) : List Nat := (List.range N).filter fun k => decide (s.due k)
theorem Sc.mem_due {N : Nat} {s : Sc} {k : Nat} : k ∈ s.dueK N ↔ k < N ∧ s.due k := by
  unfold Sc.dueK
  rw [List.mem_filter, List.mem_range, decide_eq_true_iff]
theorem Sc.due_nodup {N : Nat} {s : Sc} : (s.dueK N).Nodup := List.Pairwise.filter _ List.nodup_range
/-- the readings that end on the next day -/
def Sc.ended (N : Nat) (s : Sc) : List (Int × Int × Int) := (s.dueK N).map fun (k : Nat) => (s.day + 1, (k : Int), (s.st k).headD 0)
structure ScW (N : Nat) (s : Sc) : Prop where
  two : 2 ≤ N
  eight : N ≤ 8
  uni : ∀ b, sumN N (fun k => (s.st k).count b) ≤ 1
  few : sumN N (fun k => (s.st k).length) ≤ 12
  sp : ∀ k, k < N → 1 ≤ s.sp k ∧ s.sp k ≤ 30
  day : 0 ≤ s.day
  ends : ∀ k, k < N → ∀ e, s.en k = some e → s.st k ≠ [] ∧ s.day + 1 ≤ e ∧ e ≤ s.day + 30
/-- all have begun that can -/
structure ScOk (N : Nat) (s : Sc) : Prop extends ScW N s where
  busy : ∀ k, k < N → s.en k = none → s.st k = []
theorem ScW.begun {N : Nat} {s : Sc} (W : ScW N s) : ScOk N s.begun where
  two := W.two
  eight := W.eight
  uni := W.uni
  few := W.few
  sp := W.sp
  day := W.day
  ends := fun k hk e he => by
    have he : (if s.en k = none ∧ s.st k ≠ [] then some (s.day + s.sp k) else s.en k) = some e := he
    by_cases z : s.en k = none ∧ s.st k ≠ []
    · rw [if_pos z] at he
      have := W.sp k hk
      cases he
      refine ⟨z.2, ?_, ?_⟩
      · show s.day + 1 ≤ _; omega
      · show _ ≤ s.day + 30; omega
    · rw [if_neg z] at he
      exact W.ends k hk e he
  busy := fun k hk he => by
    have he : (if s.en k = none ∧ s.st k ≠ [] then some (s.day + s.sp k) else s.en k) = none := he
    by_cases z : s.en k = none ∧ s.st k ≠ []
    · rw [if_pos z] at he; cases he
    · rw [if_neg z] at he
      show s.st k = []
      by_cases y : s.st k = []
      · exact y
      · exact absurd ⟨he, y⟩ z
theorem mov_sum {N : Nat} {P : Nat → Prop} [DecidablePred P] {st : Nat → List Int} (φ : List Int → Nat) (h0 : φ [] = 0) (ha : ∀ x y, φ (x ++ y) = φ x + φ y) : sumN N (fun k => φ (movSt N P st k)) = sumN N (fun k => φ (st k)) := by
  have e : ∀ k, φ (movSt N P st k) = φ (if P k then (st k).tail else st k) + (fun j => φ (if P j then (st j).take 1 else [])) (sprv N k) := fun k => ha _ _
  rw [sumN_congr (fun k _ => e k), sumN_add, sumN_rot (f := fun j => φ (if P j then (st j).take 1 else [])), ← sumN_add]
  refine sumN_congr fun k _ => ?_
  by_cases z : P k
  · rw [if_pos z, if_pos z, Nat.add_comm, ← ha]
    congr 1
    cases st k <;> rfl
  · rw [if_neg z, if_neg z, h0, Nat.add_zero]
theorem mov_count {N : Nat} {P : Nat → Prop} [DecidablePred P] {st : Nat → List Int} (b : Int) : sumN N (fun k => (movSt N P st k).count b) = sumN N (fun k => (st k).count b) := mov_sum (fun l => l.count b) rfl fun x y => List.count_append
theorem mov_len {N : Nat} {P : Nat → Prop} [DecidablePred P] {st : Nat → List Int} : sumN N (fun k => (movSt N P st k).length) = sumN N (fun k => (st k).length) := mov_sum List.length rfl fun x y => List.length_append
theorem ScOk.next0 {N : Nat} {s : Sc} (W : ScOk N s) : ScW N (s.next0 N) where
  two := W.two
  eight := W.eight
  uni := fun b => by
    show sumN N (fun k => (movSt N s.due s.st k).count b) ≤ 1
    rw [mov_count]; exact W.uni b
  few := by
    show sumN N (fun k => (movSt N s.due s.st k).length) ≤ 12
    rw [mov_len]; exact W.few
  sp := W.sp
  day := by have := W.day; show 0 ≤ s.day + 1; omega
  ends := fun k hk e he => by
    have he : (if s.due k then none else s.en k) = some e := he
    by_cases z : s.due k
    · rw [if_pos z] at he; cases he
    · rw [if_neg z] at he
      obtain ⟨h1, h2, h3⟩ := W.ends k hk e he
      refine ⟨?_, ?_, ?_⟩
      · show movSt N s.due s.st k ≠ []
        unfold movSt
        rw [if_neg z]
        intro y
        exact h1 (List.append_eq_nil_iff.mp y).1
      · show s.day + 1 + 1 ≤ e
        have : s.en k ≠ some (s.day + 1) := z
        rw [he] at this
        have : e ≠ s.day + 1 := fun y => this (by rw [y])
        omega
      · show e ≤ s.day + 1 + 30; omega
theorem ScOk.next {N : Nat} {s : Sc} (W : ScOk N s) : ScOk N (s.next N) := W.next0.begun
theorem ScW.len {N : Nat} {s : Sc} (W : ScW N s) {k : Nat} (hk : k < N) : (s.st k).length ≤ 12 := Nat.le_trans (sumN_one (f := fun k => (s.st k).length) hk) W.few
theorem ScW.head {N : Nat} {s : Sc} (W : ScW N s) {k : Nat} (hk : k < N) (h : s.due k) : ∃ b t, s.st k = b :: t ∧ b ∉ t := by
  obtain ⟨h1, _⟩ := W.ends k hk _ h
  obtain ⟨b, t, e⟩ := List.exists_cons_of_ne_nil h1
  refine ⟨b, t, e, fun hb => ?_⟩
  have h2 := sumN_one (f := fun k => (s.st k).count b) hk
  have h3 := W.uni b
  have h4 : 1 ≤ t.count b := List.one_le_count_iff.mpr hb
  have h5 : (s.st k).count b = t.count b + 1 := by rw [e, List.count_cons_self]
  have h6 : (fun k => (s.st k).count b) k = (s.st k).count b := rfl
  omega
theorem ScW.apart {N : Nat} {s : Sc} (W : ScW N s) {j k : Nat} (hj : j < N) (hk : k < N) (h : j ≠ k) {b : Int} (h1 : b ∈ s.st j) : b ∉ s.st k := fun h2 => by
  have := sumN_two (f := fun k => (s.st k).count b) hj hk h
  have h3 := W.uni b
  have h4 : 1 ≤ (s.st j).count b := List.one_le_count_iff.mpr h1
  have h5 : 1 ≤ (s.st k).count b := List.one_le_count_iff.mpr h2
  have h6 : (fun k => (s.st k).count b) k = (s.st k).count b := rfl
  have h7 : (fun k => (s.st k).count b) j = (s.st j).count b := rfl
  omega
theorem filter_ne {b : Int} : ∀ {l : List Int}, b ∉ l → l.filter (fun x => !decide (x = b)) = l
  | [], _ => rfl
  | x :: l, h => by
    have h1 : x ≠ b := fun z => h (by rw [z]; exact List.mem_cons_self)
    have h2 : b ∉ l := fun z => h (List.mem_cons_of_mem _ z)
    rw [List.filter_cons_of_pos (by simp [h1]), filter_ne h2]
/-- a stack amid the moves: those of ks are moved -/
def midSt (N : Nat) (ks : List Nat) (st : Nat → List Int) : Nat → List Int := movSt N (fun k => k ∈ ks) st
theorem mid_all {N : Nat} {s : Sc} {k : Nat} (hk : k < N) : midSt N (s.dueK N) s.st k = movSt N s.due s.st k := by
  unfold midSt movSt
  have e1 : (k ∈ s.dueK N) = s.due k := by rw [eq_iff_iff, Sc.mem_due]; exact ⟨fun h => h.2, fun h => ⟨hk, h⟩⟩
  have e2 : (sprv N k ∈ s.dueK N) = s.due (sprv N k) := by rw [eq_iff_iff, Sc.mem_due]; exact ⟨fun h => h.2, fun h => ⟨sprv_lt hk, h⟩⟩
  simp only [e1, e2]
theorem mid_nil {N : Nat} {st : Nat → List Int} {k : Nat} : midSt N [] st k = st k := by
  unfold midSt movSt
  rw [if_neg (by simp), if_neg (by simp), List.append_nil]
/-- the reader's own stack, the book taken out -/
theorem mid_out {N : Nat} {s : Sc} (W : ScW N s) {ks : List Nat} {k : Nat} (hk : k < N) (hd : s.due k) (hn : k ∉ ks) {b : Int} {t : List Int} (hb : s.st k = b :: t) :
    (midSt N ks s.st k).filter (fun x => !decide (x = b)) = t ++ (if sprv N k ∈ ks then (s.st (sprv N k)).take 1 else []) := by
  obtain ⟨b', t', e, hbt⟩ := W.head hk hd
  rw [hb] at e
  cases e
  unfold midSt movSt
  rw [if_neg hn, hb, List.filter_append]
  congr 1
  · rw [List.filter_cons_of_neg (by simp), filter_ne hbt]
  · refine filter_ne fun h => ?_
    have hp := sprv_lt hk
    have h1 : b ∈ s.st (sprv N k) := by
      by_cases z : sprv N k ∈ ks
      · rw [if_pos z] at h; exact List.mem_of_mem_take h
      · rw [if_neg z] at h; cases h
    exact W.apart hp hk (sprv_ne W.two hk) h1 (by rw [hb]; exact List.mem_cons_self)
theorem mid_own {N : Nat} {s : Sc} {ks : List Nat} {k : Nat} (h2 : 2 ≤ N) (hk : k < N) {b : Int} {t : List Int} (hb : s.st k = b :: t) :
    midSt N (ks ++ [k]) s.st k = t ++ (if sprv N k ∈ ks then (s.st (sprv N k)).take 1 else []) := by
  unfold midSt movSt
  have e : (sprv N k ∈ ks ++ [k]) = (sprv N k ∈ ks) := by
    rw [eq_iff_iff, List.mem_append, List.mem_singleton]
    exact ⟨fun h => h.elim id fun z => absurd z (sprv_ne h2 hk), .inl⟩
  simp only [e]
  rw [if_pos (by simp), hb]
  rfl
theorem mid_into {N : Nat} {s : Sc} {ks : List Nat} {k : Nat} (h2 : 2 ≤ N) (hk : k < N) (hn : k ∉ ks) {b : Int} {t : List Int} (hb : s.st k = b :: t) :
    midSt N (ks ++ [k]) s.st (snxt N k) = midSt N ks s.st (snxt N k) ++ [b] := by
  unfold midSt movSt
  rw [sprv_snxt hk]
  have e : (snxt N k ∈ ks ++ [k]) = (snxt N k ∈ ks) := by
    rw [eq_iff_iff, List.mem_append, List.mem_singleton]
    exact ⟨fun h => h.elim id fun z => absurd z (snxt_ne h2 hk), .inl⟩
  simp only [e]
  rw [if_pos (show k ∈ ks ++ [k] by simp), if_neg hn, hb, List.append_nil]
  rfl
theorem mid_else {N : Nat} {s : Sc} {ks : List Nat} {j k : Nat} (hj : j < N) (hk : k < N) (h1 : j ≠ k) (h2 : j ≠ snxt N k) : midSt N (ks ++ [k]) s.st j = midSt N ks s.st j := by
  unfold midSt movSt
  have e1 : (j ∈ ks ++ [k]) = (j ∈ ks) := by
    rw [eq_iff_iff, List.mem_append, List.mem_singleton]
    exact ⟨fun h => h.elim id fun z => absurd z h1, .inl⟩
  have e2 : (sprv N j ∈ ks ++ [k]) = (sprv N j ∈ ks) := by
    rw [eq_iff_iff, List.mem_append, List.mem_singleton]
    exact ⟨fun h => h.elim id fun z => absurd ((sprv_eq hj hk).mp z) h2, .inl⟩
  simp only [e1, e2]
theorem mid_len {N : Nat} {s : Sc} (W : ScW N s) {ks : List Nat} {k : Nat} (hk : k < N) : (midSt N ks s.st k).length ≤ 12 := by
  have h1 := sumN_one (f := fun k => (movSt N (fun k => k ∈ ks) s.st k).length) hk
  rw [mov_len] at h1
  exact Nat.le_trans h1 W.few
/-! the first scene -/
def fH (hs : List Int) (k : Nat) : Nat := (hs.getD k 0).toNat
def frng (a : Int) (n : Nat) : List Int := (List.range n).map fun (i : Nat) => a + (i : Int)
def firstSt (hs : List Int) (k : Nat) : List Int := frng ((hs.take k).sum) (fH hs k)
def Sc.first0 (ds hs : List Int) : Sc := { day := 0, st := firstSt hs, en := fun _ => none, sp := fun k => ds.getD k 0, nb := hs.sum }
def Sc.first (ds hs : List Int) : Sc := (Sc.first0 ds hs).begun
theorem frng_len {a : Int} {n : Nat} : (frng a n).length = n := by unfold frng; rw [List.length_map, List.length_range]
theorem frng_mem {a b : Int} {n : Nat} : b ∈ frng a n ↔ a ≤ b ∧ b < a + (n : Int) := by
  unfold frng
  rw [List.mem_map]
  constructor
  · rintro ⟨i, hi, rfl⟩
    have := List.mem_range.mp hi
    omega
  · intro h
    exact ⟨(b - a).toNat, List.mem_range.mpr (by omega), by omega⟩
theorem frng_nodup {a : Int} {n : Nat} : (frng a n).Nodup := by
  unfold frng
  refine List.Pairwise.map (R := fun i j : Nat => i ≠ j) _ (fun i j h z => h (by omega)) List.nodup_range
theorem ftake {hs : List Int} (h : ∀ x ∈ hs, 0 ≤ x) {k : Nat} (hk : k < hs.length) : (hs.take (k + 1)).sum = (hs.take k).sum + (fH hs k : Int) := by
  have e : hs[k]? = some hs[k] := List.getElem?_eq_getElem hk
  rw [List.take_add_one, e, List.sum_append]
  have h0 := h _ (List.getElem_mem hk)
  unfold fH
  rw [List.getD_eq_getElem?_getD, e]
  simp
  omega
/-- so far: the books of the first k readers are those below the sum -/
theorem first_count {hs : List Int} (h : ∀ x ∈ hs, 0 ≤ x) (b : Int) : ∀ {k : Nat}, k ≤ hs.length → sumN k (fun j => (firstSt hs j).count b) = if 0 ≤ b ∧ b < (hs.take k).sum then 1 else 0
  | 0, _ => by
    rw [if_neg (by simp)]
    rfl
  | k + 1, hk => by
    rw [sumN_succ, first_count h b (k := k) (by omega), ftake h (by omega)]
    have hp : 0 ≤ (hs.take k).sum := by
      have : ∀ (l : List Int), (∀ x ∈ l, 0 ≤ x) → 0 ≤ l.sum := fun l => by
        induction l with
        | nil => intro _; simp
        | cons x l ih =>
          intro hl
          rw [List.sum_cons]
          have h1 := hl x List.mem_cons_self
          have h2 := ih fun y hy => hl y (List.mem_cons_of_mem _ hy)
          omega
      exact this _ fun x hx => h x (List.mem_of_mem_take hx)
    have hc : (firstSt hs k).count b = if (hs.take k).sum ≤ b ∧ b < (hs.take k).sum + (fH hs k : Int) then 1 else 0 := by
      unfold firstSt
      by_cases z : b ∈ frng ((hs.take k).sum) (fH hs k)
      · rw [if_pos (frng_mem.mp z), frng_nodup.count, if_pos z]
      · rw [if_neg (fun y => z (frng_mem.mpr y)), List.count_eq_zero.mpr z]
    rw [hc]
    by_cases z1 : 0 ≤ b ∧ b < (hs.take k).sum
    · rw [if_pos z1, if_neg (by omega), if_pos (by omega)]
    · rw [if_neg z1]
      by_cases z2 : (hs.take k).sum ≤ b ∧ b < (hs.take k).sum + (fH hs k : Int)
      · rw [if_pos z2, if_pos (by omega)]
      · rw [if_neg z2, if_neg (by omega)]
theorem first_len {hs : List Int} (h : ∀ x ∈ hs, 0 ≤ x) : ∀ {k : Nat}, k ≤ hs.length → ((sumN k (fun j => (firstSt hs j).length) : Nat) : Int) = (hs.take k).sum
  | 0, _ => by simp; rfl
  | k + 1, hk => by
    have := first_len h (k := k) (by omega)
    rw [sumN_succ, ftake h (by omega)]
    have e : (firstSt hs k).length = fH hs k := frng_len
    rw [e]
    omega
end G48

namespace G48
open PySem PySem.Spec PyProof.Rows L2 Evl
abbrev N_Scene___init__ : List Str := ["self", "day", "stacks", "ends", "spans", "number"]
theorem sc_Scene___init__ : FnScope N_Scene___init__ ["self", "day", "stacks", "ends", "spans", "number"] (defScope s_Scene___init__) := ⟨rfl, rfl, rfl, by decide +kernel, rfl, by decide +kernel, by decide +kernel⟩
theorem b_Scene___init__ : BindL "Scene.__init__" "__init__" s_Scene___init__ ["self", "day", "stacks", "ends", "spans", "number"] := fun _ _ _ _ _ _ us hl => match us, hl with | [_, _, _, _, _, _], _ => rfl
abbrev N_Scene_begun : List Str := ["self", "ends", "stack", "end", "span"]
theorem sc_Scene_begun : FnScope N_Scene_begun ["self"] (defScope s_Scene_begun) := ⟨rfl, rfl, rfl, by decide +kernel, rfl, by decide +kernel, by decide +kernel⟩
theorem b_Scene_begun : BindL "Scene.begun" "begun" s_Scene_begun ["self"] := fun _ _ _ _ _ _ us hl => match us, hl with | [_], _ => rfl
abbrev N_Scene_following : List Str := ["self", "day", "stacks", "ends", "ended", "reader", "end", "when", "book", "later", "other"]
theorem sc_Scene_following : FnScope N_Scene_following ["self"] (defScope s_Scene_following) := ⟨rfl, rfl, rfl, by decide +kernel, rfl, by decide +kernel, by decide +kernel⟩
theorem b_Scene_following : BindL "Scene.following" "following" s_Scene_following ["self"] := fun _ _ _ _ _ _ us hl => match us, hl with | [_], _ => rfl
end G48
--lib Z
/-! scenes: made, begun, the next day, the first -/
namespace G48
open PySem PySem.Spec PyProof.Rows L2 Evl
/-! the steps -/
local macro_rules | `(tactic| walk_at "as") => `(tactic| with_reducible assumption)
local macro_rules | `(tactic| walk_at "hp") => `(tactic| first
  | with_reducible assumption
  | ((with_reducible apply SqT.of); walk_at "as")
  | ((with_reducible apply SqL.of); walk_at "as")
  | ((with_reducible apply ex_at); (focus walk_at "as"); walk_at "hp")
  | ((with_reducible apply ex_t); (focus walk_at "as"); walk_at "hp")
  | ((with_reducible apply ex_l); (focus walk_at "as"); walk_at "hp")
  | ((with_reducible apply exb_ins); (focus walk_at "as"); (focus walk_at "hp"); walk_at "hp")
  | ((with_reducible apply exb_t); (focus walk_at "as"); (focus walk_at "hp"); walk_at "hp")
  | ((with_reducible apply exb_at); (focus walk_at "as"); (focus walk_at "ne"); walk_at "hp")
  | ((with_reducible apply exb_l); (focus walk_at "as"); (focus walk_at "ne"); walk_at "hp"))
local macro_rules | `(tactic| walk_at "ne") => `(tactic| first
  | with_reducible assumption
  | exact Ne.symm (by with_reducible assumption)
  | exact ne_of_none (by with_reducible assumption) (by with_reducible assumption)
  | exact Ne.symm (ne_of_none (by with_reducible assumption) (by with_reducible assumption)))
local macro_rules | `(tactic| walk_at "tr") => `(tactic| first
  | rfl
  | with_reducible assumption
  | exact decide_eq_true (by first | with_reducible assumption | omega)
  | exact decide_eq_false (by first | with_reducible assumption | omega)
  | (rw [Bool.not_eq_true']; exact decide_eq_false (by first | with_reducible assumption | omega))
  | (rw [Bool.not_eq_false']; exact decide_eq_true (by first | with_reducible assumption | omega)))
local macro_rules | `(tactic| walk_at "nn") => `(tactic| first | with_reducible assumption | (exact List.cons_ne_nil _ _))
local macro_rules | `(tactic| walk_at "sz") => `(tactic| first | (exact sz1000 (Nat.le_of_ble_eq_true rfl)) | (refine sz1000 ?_; simp only [List.length_map, List.length_cons, List.length_nil, List.length_append]; omega) | with_reducible assumption)
local macro_rules | `(tactic| walk_at "sl") => `(tactic| first | with_reducible assumption | (refine lt1000 ?_; simp only [List.length_map, List.length_cons, List.length_nil, List.length_append]; omega) | (refine lt1000 ?_; omega))
local macro_rules | `(tactic| walk_at "ix") => `(tactic| first | rfl | with_reducible assumption)
local macro_rules | `(tactic| walk_at "rg") => `(tactic| exact RgOk.of_le (by omega) (by omega) (by omega) (by omega))
local macro_rules | `(tactic| walk_at "sp") => `(tactic| fail "sp")
local macro_rules | `(tactic| walk_at "cl") => `(tactic| with_reducible assumption)
local macro_rules | `(tactic| walk_at "lk") => `(tactic| with_reducible assumption)
local macro_rules | `(tactic| walk_at "it") => `(tactic| first | rfl | with_reducible assumption | exact atI_nat (by with_reducible assumption))
local macro_rules | `(tactic| walk_at "g1") => `(tactic| first
  | (with_reducible apply g_var); (focus rfl)
  | with_reducible apply g_c
  | with_reducible apply g_seq
  | with_reducible apply g_asg
  | with_reducible apply gg_name
  | with_reducible apply g_op
  | with_reducible apply g_cons
  | with_reducible apply g_nil
  | with_reducible apply g_cb
  | with_reducible apply g_fld
  | ((with_reducible apply g_kFld); (focus walk_at "hp"); (focus walk_at "cl"); (focus walk_at "cl"); (focus walk_at "lk"))
  | with_reducible apply g_call
  | walk_at "sp"
  | with_reducible apply g_ret
  | with_reducible apply g_drop
  | with_reducible apply g_test
  | with_reducible apply g_B
  | with_reducible apply g_kTest
  | with_reducible apply g_ifS
  | with_reducible apply g_kIfST
  | with_reducible apply g_kIfSF
  | with_reducible apply g_add
  | with_reducible apply g_sub
  | with_reducible apply g_lt
  | with_reducible apply g_le
  | with_reducible apply g_gt
  | with_reducible apply g_ge
  | with_reducible apply g_eqI
  | with_reducible apply g_neI
  | ((with_reducible apply g_mod); (focus first | decide | omega))
  | ((with_reducible apply g_mul); (focus first | (left; constructor <;> omega) | (right; constructor <;> omega)))
  | ((with_reducible apply g_fdiv); (focus (constructor <;> omega)))
  | ((with_reducible apply g_ixT); (focus walk_at "hp"); (focus walk_at "it"))
  | ((with_reducible apply g_ixL); (focus walk_at "hp"); (focus walk_at "it"))
  | with_reducible apply g_and
  | with_reducible apply g_or
  | with_reducible apply g_not
  | with_reducible apply g_kNotT
  | with_reducible apply g_kNotF
  | with_reducible apply g_if
  | with_reducible apply g_kAndT
  | with_reducible apply g_kAndF
  | with_reducible apply g_kOrT
  | with_reducible apply g_kOrF
  | with_reducible apply g_kIfT
  | with_reducible apply g_kIfF
  | with_reducible apply g_next
  | with_reducible apply g_andV
  | with_reducible apply g_orV
  | with_reducible apply g_notV
  | with_reducible apply g_kNotV
  | with_reducible apply g_kAndVT
  | with_reducible apply g_kAndVF
  | with_reducible apply g_chain
  | with_reducible apply g_kChainT
  | with_reducible apply g_kChainF
  | with_reducible apply g_tup
  | with_reducible apply g_lst
  | ((with_reducible apply g_kT); (focus walk_at "sz"); intro _ _ _ _ _)
  | ((with_reducible apply g_kL); (focus walk_at "sz"); intro _ _ _ _ _)
  | with_reducible apply g_un
  | with_reducible apply g_neg
  | with_reducible apply g_meth
  | ((with_reducible apply g_kMeth); (focus walk_at "hp"); (focus walk_at "lk"))
  | with_reducible apply g_prop
  | ((with_reducible apply g_kProp); (focus walk_at "hp"))
  | with_reducible apply g_make
  | with_reducible apply g_par
  | with_reducible apply g_kPar
  | ((with_reducible apply g_lenLM); (focus walk_at "hp"))
  | ((with_reducible apply g_lenTM); (focus walk_at "hp"))
  | ((with_reducible apply g_lenL); (focus walk_at "hp"))
  | ((with_reducible apply g_lenT); (focus walk_at "hp"))
  | with_reducible apply g_int1
  | with_reducible apply g_max2
  | with_reducible apply g_min2
  | ((with_reducible apply g_listL); (focus walk_at "hp"); intro _ _ _ _ _)
  | ((with_reducible apply g_listT); (focus walk_at "hp"); intro _ _ _ _ _)
  | ((with_reducible apply g_tupL); (focus walk_at "hp"); intro _ _ _ _ _)
  | ((with_reducible apply g_sum); (focus walk_at "hp"))
  | with_reducible apply g_sfld
  | with_reducible apply g_sl
  | with_reducible apply g_nopart
  | with_reducible apply g_part
  | with_reducible apply g_kPart
  | with_reducible apply g_lstRg
  | with_reducible apply g_rg1
  | with_reducible apply g_kRg1
  | with_reducible apply g_bm
  | with_reducible apply gg_sub
  | ((with_reducible apply gg_tup); (focus walk_at "hp"); (focus rfl))
  | with_reducible apply gg_cons
  | with_reducible apply gg_nil
  | with_reducible apply g_forL
  | with_reducible apply g_forT
  | with_reducible apply g_forR1
  | with_reducible apply g_forR2
  | with_reducible apply g_forE
  | with_reducible apply g_forEL
  | ((with_reducible apply g_maxT); (focus walk_at "hp"); (focus walk_at "nn"))
  | ((with_reducible apply g_maxL); (focus walk_at "hp"); (focus walk_at "nn"))
  | ((with_reducible apply g_catA); (focus walk_at "hp"); (focus walk_at "hp"); (focus walk_at "sz"); intro _ _ _ _)
  | ((with_reducible apply g_slA); (focus walk_at "hp"); intro _ _ _ _)
  | ((with_reducible apply g_tupD); (focus walk_at "hp"); intro _ _ _ _ _)
  | ((with_reducible apply g_setL); (focus walk_at "hp"); (focus walk_at "ix"); intro _ _ _)
  | ((with_reducible apply g_append); (focus walk_at "hp"); (focus walk_at "sl"); intro _ _ _)
  | ((with_reducible apply g_aug); (focus rfl))
  | with_reducible apply g_ipI
  | with_reducible apply g_retN
  | with_reducible apply g_lcR1
  | with_reducible apply g_lcR2
  | with_reducible apply g_lcL
  | with_reducible apply g_lcU
  | with_reducible apply g_lcN
  | ((with_reducible apply g_kLcG); (focus rfl))
  | with_reducible apply g_yes
  | with_reducible apply g_kLcTT
  | with_reducible apply g_kLcTF
  | ((with_reducible apply g_kLcE); (focus walk_at "hp"); (focus walk_at "sl"); intro _ _ _)
  | ((with_reducible apply g_pow); (focus (constructor <;> (try constructor) <;> decide)))
  | ((with_reducible apply g_kLRg); (focus walk_at "rg"); intro _ _ _ _ _)
  | ((with_reducible apply g_cat); (focus walk_at "hp"); (focus walk_at "hp"); (focus walk_at "sz"); intro _ _ _ _ _)
  | ((with_reducible apply g_slL); (focus walk_at "hp"); intro _ _ _ _ _)
  | with_reducible apply g_bmT
  | with_reducible apply g_break
  | with_reducible apply g_cont)
local macro_rules | `(tactic| walk_at "g0") => `(tactic| try dsimp only [L2.cxOf, L2.Cx.nox, L2.Cx.wish])
local macro_rules | `(tactic| walk_at "yn") => `(tactic| first
  | ((with_reducible apply y_kIfS); (focus walk_at "tr"))
  | ((with_reducible apply n_kIfS); (focus walk_at "tr"))
  | ((with_reducible apply y_kOr); (focus walk_at "tr"))
  | ((with_reducible apply n_kOr); (focus walk_at "tr"))
  | ((with_reducible apply y_kAnd); (focus walk_at "tr"))
  | ((with_reducible apply n_kAnd); (focus walk_at "tr"))
  | ((with_reducible apply y_kNot); (focus walk_at "tr"))
  | ((with_reducible apply n_kNot); (focus walk_at "tr"))
  | ((with_reducible apply y_kIf); (focus walk_at "tr"))
  | ((with_reducible apply n_kIf); (focus walk_at "tr"))
  | ((with_reducible apply y_kAndV); (focus walk_at "tr"))
  | ((with_reducible apply n_kAndV); (focus walk_at "tr"))
  | ((with_reducible apply y_kOrV); (focus walk_at "tr"))
  | ((with_reducible apply n_kOrV); (focus walk_at "tr"))
  | ((with_reducible apply y_kChain); (focus walk_at "tr"))
  | ((with_reducible apply n_kChain); (focus walk_at "tr"))
  | ((with_reducible apply y_kLcT); (focus walk_at "tr"))
  | ((with_reducible apply n_kLcT); (focus walk_at "tr"))
  | ((with_reducible apply y_kWh); (focus walk_at "tr"))
  | ((with_reducible apply n_kWh); (focus walk_at "tr")))
local macro_rules | `(tactic| walk_at "go") => `(tactic| repeat (first | walk_at "g1" | walk_at "yn"))
local macro_rules | `(tactic| walk_at "hp") => `(tactic| first
  | ((with_reducible apply RingIn.ex); (focus walk_at "as"); walk_at "hp")
  | ((with_reducible apply RingAt.ex); (focus walk_at "as"); walk_at "hp")
  | ((with_reducible apply RingIn.exb); (focus walk_at "as"); (focus walk_at "hp"); walk_at "hp")
  | ((with_reducible apply RingAt.exb); (focus walk_at "as"); (focus walk_at "hp"); walk_at "hp")
  | ((with_reducible apply TupK.ex); (focus walk_at "as"); walk_at "hp")
  | ((with_reducible apply TupK.exb); (focus walk_at "as"); (focus walk_at "hp"); walk_at "hp"))
local macro_rules | `(tactic| walk_at "lk") => `(tactic| first | with_reducible exact rf_spans | with_reducible exact rf_heaps | with_reducible exact rf_total | with_reducible exact rf_nr | with_reducible exact rf_wd)
local macro_rules | `(tactic| walk_at "sp") => `(tactic| first
  | ((with_reducible apply g_isiTup); (focus walk_at "hp"))
  | ((with_reducible apply g_isiLst); (focus walk_at "hp"))
  | ((with_reducible apply g_isint); (focus omega); (focus omega))
  | ((with_reducible apply g_checkn); (focus omega); (focus omega))
  | ((with_reducible apply g_rbooks); (focus walk_at "hp"))
  | ((with_reducible apply g_rpace); (focus walk_at "hp"); intro _ _ _ _)
  | ((with_reducible apply g_rlen); (focus walk_at "hp"))
  | ((with_reducible apply g_rneed); (focus walk_at "hp"); (focus omega))
  | ((with_reducible apply g_rneedM); (focus walk_at "hp"))
  | ((with_reducible apply g_rwithM); (focus walk_at "hp"))
  | ((with_reducible apply g_rspans); (focus walk_at "hp"); (focus with_reducible assumption))
  | ((with_reducible apply g_rheaps); (focus walk_at "hp"); (focus with_reducible assumption))
  | ((with_reducible apply g_rtotal); (focus walk_at "hp"); (focus with_reducible assumption)))

theorem flenp {f : Str} {v : V} {fs : List (Str × V)} {n : Nat} (h : fs.length ≤ n) : (putF f v fs).length ≤ n + 1 := Nat.le_trans (length_putF _ _ _) (Nat.succ_le_succ h)
theorem flen0 : ([] : List (Str × V)).length ≤ 0 := Nat.le_refl _
structure SceneC (K : PySem.W.Frag) (SC : Addr) : Prop where
  cl : Cls K SC
  n1 : NoAttr K SC "day"
  n2 : NoAttr K SC "stacks"
  n3 : NoAttr K SC "ends"
  n4 : NoAttr K SC "spans_now"
  n5 : NoAttr K SC "number"
/-- a scene's fields -/
structure SF (d n : Int) (p q r : Addr) (fs : List (Str × V)) : Prop where
  a1 : fs.lookup ("day" : Str) = some (.int d)
  a2 : fs.lookup ("stacks" : Str) = some (.ref p)
  a3 : fs.lookup ("ends" : Str) = some (.ref q)
  a4 : fs.lookup ("spans_now" : Str) = some (.ref r)
  a5 : fs.lookup ("number" : Str) = some (.int n)
  m1 : fs.lookup ("begun" : Str) = none
  m2 : fs.lookup ("following" : Str) = none
  m3 : fs.lookup ("with_stack" : Str) = none
theorem SF.make {d n : Int} {p q r : Addr} : SF d n p q r (putF "number" (.int n) (putF "spans_now" (.ref r) (putF "ends" (.ref q) (putF "stacks" (.ref p) (putF "day" (.int d) []))))) := by
  refine ⟨?_, ?_, ?_, ?_, ?_, ?_, ?_, ?_⟩
  all_goals (repeat (first | rw [lookup_putF, if_pos rfl] | rw [lookup_putF, if_neg (by decide +kernel)]))
  all_goals rfl
def oV : Option Int → V
  | none => .non
  | some i => .int i
def enV (N : Nat) (en : Nat → Option Int) : List V := (List.range N).map fun k => oV (en k)
def spV (N : Nat) (sp : Nat → Int) : List V := (List.range N).map fun k => V.int (sp k)
def stV (N : Nat) (sA : Nat → Addr) : List V := (List.range N).map fun k => V.ref (sA k)
theorem enV_len {N : Nat} {en : Nat → Option Int} : (enV N en).length = N := by unfold enV; rw [List.length_map, List.length_range]
theorem spV_len {N : Nat} {sp : Nat → Int} : (spV N sp).length = N := by unfold spV; rw [List.length_map, List.length_range]
theorem stV_len {N : Nat} {sA : Nat → Addr} : (stV N sA).length = N := by unfold stV; rw [List.length_map, List.length_range]
theorem mapV_at {f : Nat → V} {N k : Nat} (h : k < N) : ((List.range N).map f)[k]? = some (f k) := by rw [List.getElem?_map, List.getElem?_range h]; rfl
theorem mapV_next {f : Nat → V} {m : Nat} : (List.range m).map f ++ [f m] = (List.range (m + 1)).map f := by rw [List.range_succ, List.map_append]; rfl
theorem mapV_set {f : Nat → V} {N k : Nat} {v : V} : ((List.range N).map f).set k v = (List.range N).map fun j => if j = k then v else f j := by
  refine List.ext_getElem? fun j => ?_
  by_cases hj : j < N
  · rw [mapV_at hj]
    by_cases z : j = k
    · rw [z, List.getElem?_set_self (by simp; omega), if_pos rfl]
    · rw [List.getElem?_set_ne (fun y => z y.symm), mapV_at hj, if_neg z]
  · rw [List.getElem?_eq_none (by simp; omega), List.getElem?_eq_none (by simp; omega)]
theorem mapV_congr {f g : Nat → V} {N : Nat} (h : ∀ k, k < N → f k = g k) : (List.range N).map f = (List.range N).map g := List.map_congr_left fun k hk => h k (List.mem_range.mp hk)
theorem enV_congr {N : Nat} {f g : Nat → Option Int} (h : ∀ k, k < N → f k = g k) : enV N f = enV N g := mapV_congr fun k hk => by rw [h k hk]
def StkAt (K : PySem.W.Frag) (H : Hp) (p : Addr) (N : Nat) (st : Nat → List Int) : Prop := ∃ sA : Nat → Addr, SqT K H p (stV N sA) ∧ ∀ k, k < N → SqT K H (sA k) ((st k).map V.int)
/-- the scene at a -/
structure ScIn (K : PySem.W.Frag) (SC : Addr) (H : Hp) (a : Addr) (N : Nat) (s : Sc) : Prop where
  obj : ∃ dx fs p q r, H a = some (.ins SC dx fs) ∧ SF s.day s.nb p q r fs ∧ StkAt K H p N s.st ∧ SqT K H q (enV N s.en) ∧ SqT K H r (spV N s.sp)
section
variable {K : PySem.W.Frag} {SC C : Addr} {H H' : Hp} {a p l : Addr} {N : Nat} {s : Sc} {st : Nat → List Int} {ys : List V}
theorem StkAt.ex (e : Ex H H') (h : StkAt K H p N st) : StkAt K H' p N st := let ⟨sA, h1, h2⟩ := h; ⟨sA, ex_t e h1, fun k hk => ex_t e (h2 k hk)⟩
theorem ScIn.ex (e : Ex H H') (h : ScIn K SC H a N s) : ScIn K SC H' a N s :=
  ⟨let ⟨dx, fs, p, q, r, h1, h2, h3, h4, h5⟩ := h.obj; ⟨dx, fs, p, q, r, e _ _ h1, h2, h3.ex e, ex_t e h4, ex_t e h5⟩⟩
theorem StkAt.exb (e : Exb l H H') (hl : H l = some (.lst ys)) (h : StkAt K H p N st) : StkAt K H' p N st := let ⟨sA, h1, h2⟩ := h; ⟨sA, exb_t e hl h1, fun k hk => exb_t e hl (h2 k hk)⟩
theorem ScIn.exb (e : Exb l H H') (hl : H l = some (.lst ys)) (h : ScIn K SC H a N s) : ScIn K SC H' a N s :=
  ⟨let ⟨dx, fs, p, q, r, h1, h2, h3, h4, h5⟩ := h.obj; ⟨dx, fs, p, q, r, exb_ins e hl h1, h2, h3.exb e hl, exb_t e hl h4, exb_t e hl h5⟩⟩
end
section
variable {P : Program} {w : World} {K : PySem.W.Frag} {mg : Str → Option Value} {base : Heap} {C SC : Addr}
/-! ### Scene(..) -/
def sp_Scene_init (K : PySem.W.Frag) (SC : Addr) : Sp := fun vs H Q _ => ∃ (x p q r dx : Addr) (d n : Int), vs = [.ref x, .int d, .ref p, .ref q, .ref r, .int n] ∧ H x = some (.ins SC dx []) ∧
  ∀ fs H', Exb x H H' → H' x = some (.ins SC dx fs) → SF d n p q r fs → Q .non H'
theorem ok_Scene_init (Z : Blt mg) (RS : SceneC K SC) (G : IFun K mg "Scene" SC "Scene.__init__" s_Scene___init__) : If P w K mg base "Scene" SC 1 ["self", "day", "stacks", "ends", "spans", "number"] (sp_Scene_init K SC) := by
  refine If.of G sc_Scene___init__ b_Scene___init__ (fun vs H Q E h => ?_) (fun f cdv A outer s H vs Q E hr h => ?_)
  · obtain ⟨x, p, q, r, dx, d, n, rfl, _⟩ := h
    rfl
  · obtain ⟨x, p, q, r, dx, d, n, rfl, hx, k⟩ := h
    obtain ⟨cl_Scene, n1, n2, n3, n4, n5⟩ := RS
    refine ⟨_, PSs.nox (pss_cons (ps_fld (pv 0) (pv 1) rfl)
      (pss_cons (ps_fld (pv 0) (pv 2) rfl)
      (pss_cons (ps_fld (pv 0) (pv 3) rfl)
      (pss_cons (ps_fld (pv 0) (pv 4) rfl)
      (pss_one (ps_fld (pv 0) (pv 5) rfl)))))), ?_⟩
    walk_at "g0"
    walk_at "go"
    refine g_kSFld hx cl_Scene n1 (by decide) fun H3 e3 hx3 => ?_
    walk_at "go"
    refine g_kSFld hx3 cl_Scene n2 (Nat.lt_of_le_of_lt (flenp flen0) (by decide)) fun H4 e4 hx4 => ?_
    walk_at "go"
    refine g_kSFld hx4 cl_Scene n3 (Nat.lt_of_le_of_lt (flenp (flenp flen0)) (by decide)) fun H5 e5 hx5 => ?_
    walk_at "go"
    refine g_kSFld hx5 cl_Scene n4 (Nat.lt_of_le_of_lt (flenp (flenp (flenp flen0))) (by decide)) fun H6 e6 hx6 => ?_
    walk_at "go"
    refine g_kSFld hx6 cl_Scene n5 (Nat.lt_of_le_of_lt (flenp (flenp (flenp (flenp flen0)))) (by decide)) fun H7 e7 hx7 => ?_
    walk_at "go"
    exact k _ H7 ((((e3.trans e4).trans e5).trans e6).trans e7) hx7 SF.make
theorem g_mkScene {H : Hp} {Q : VK} {E : XK} {d n : Int} {p q r : Addr} (k : ∀ x dx fs H', H x = none → Ex H H' → H' x = some (.ins SC dx fs) → SF d n p q r fs → Q (.ref x) H') :
    kMake SC (sp_Scene_init K SC) E Q [.int d, .ref p, .ref q, .ref r, .int n] H := by
  intro x dx nx ndx ne
  have e1 : Ex H (upd (upd H dx (.own x)) x (.ins SC dx [])) := fun c o h => by
    rw [upd_ne (ne_of_none h nx), upd_ne (ne_of_none h ndx)]
    exact h
  exact ⟨x, p, q, r, dx, d, n, rfl, upd_same, fun fs H' e2 hx' hf => ⟨rfl, k x dx fs H' nx (Exb.ex nx e1 e2) hx' hf⟩⟩
/-! ### begun -/
def sp_begun (K : PySem.W.Frag) (SC : Addr) : Sp := fun vs H Q _ => ∃ (a : Addr) (N : Nat) (s : Sc), vs = [.ref a] ∧ N ≤ 8 ∧ ScIn K SC H a N s ∧ ∀ a' H', H a' = none → Ex H H' → ScIn K SC H' a' N s.begun → Q (.ref a') H'
set_option maxHeartbeats 8000000 in
theorem ok_begun (Z : Blt mg) (RS : SceneC K SC) (I_Scene : If P w K mg base "Scene" SC 1 ["self", "day", "stacks", "ends", "spans", "number"] (sp_Scene_init K SC)) (G : CFun K SC "begun" "Scene.begun" s_Scene_begun) : Mf P w K mg base SC 3 "begun" ["self"] (sp_begun K SC) := by
  refine Mf.of G sc_Scene_begun b_Scene_begun (fun vs H Q E h => ?_) (fun f cdv A outer st H vs Q E hr h => ?_)
  · obtain ⟨a, N, s, rfl, _⟩ := h
    rfl
  · obtain ⟨a, N, s, rfl, hN, S0, k⟩ := h
    obtain ⟨cl_Scene, n1, n2, n3, n4, n5⟩ := RS
    obtain ⟨dx, fs, p, q, r, ho, hf, ⟨sA, hp, hs⟩, hq, hr2⟩ := S0.obj
    obtain ⟨f1, f2, f3, f4, f5, f6, f7, f8⟩ := id hf
    refine ⟨_, PSs.nox (pss_cons (ps_set (i := 1) sc_Scene_begun.nd rfl (by first | exact Or.inl rfl | exact Or.inr rfl) (pe_lst pa_nil))
      (pss_cons (ps_for PassesOwn.never rfl (pi_zip3 (by rfl) Z.zzip (pa_cons (pe_fld (pv 0) rfl) (pa_cons (pe_fld (pv 0) rfl) (pa_cons (pe_fld (pv 0) rfl) pa_nil)))) (pg_tup (by rfl) (pgs_cons (pg_name (i := 2) sc_Scene_begun.nd rfl (by first | exact Or.inl rfl | exact Or.inr rfl)) (pgs_cons (pg_name (i := 3) sc_Scene_begun.nd rfl (by first | exact Or.inl rfl | exact Or.inr rfl)) (pgs_cons (pg_name (i := 4) sc_Scene_begun.nd rfl (by first | exact Or.inl rfl | exact Or.inr rfl)) pgs_nil)))) (pss_one (ps_expr (pe_bm PySem.F.plainAttrs_list PySem.F.slot_list_append PySem.F.type_list_append mt_append (pv 1) (pa_cons (pe_ifExp (PW.pt (pw_and (pt_cmpR op_isN (pv 3) pe_non (nomark _)) (pw_and1 (pt_cmpR (op_neD hr.units) (pv 2) (pe_tup pa_nil) (nomark _))))) (pe_op op_add (pe_fld (pv 0) rfl) (pv 4)) (pv 3)) pa_nil)))))
      (pss_one (ps_ret (pk I_Scene hr (pa_cons (pe_fld (pv 0) rfl) (pa_cons (pe_fld (pv 0) rfl) (pa_cons (pe_callTy c_tuple_of (by rfl) Z.ztuple (by decide +kernel) (pa_cons (pv 1) pa_nil)) (pa_cons (pe_fld (pv 0) rfl) (pa_cons (pe_fld (pv 0) rfl) pa_nil)))))))))), ?_⟩
    walk_at "g0"
    walk_at "go"
    rename_i l H1 nl e1 hl
    refine g_forZ3 ?_
    have ho1 := e1 _ _ ho
    walk_at "go"
    refine g_kForZ3 N (ex_t e1 hp) (ex_t e1 hq) (ex_t e1 hr2) stV_len enV_len spV_len (fun i σ H' => ∃ v2 v3 v4 : Option V, σ = [some (.ref a), some (.ref l), v2, v3, v4] ∧ Ex H H' ∧ H' l = some (.lst (enV i s.begun.en)))
      ⟨_, _, _, rfl, e1, hl⟩ (fun i σ H' _ hP => by
        obtain ⟨_, _, _, _, e, _⟩ := hP
        exact ⟨ex_t e hp, ex_t e hq, ex_t e hr2⟩) ?_ ?_
    · rintro i x y u σ H2 T H3 hi hx hy hu ⟨v2, v3, v4, rfl, e2, hl2⟩ e3 nT hT
      rw [show (stV N sA)[i]? = some (V.ref (sA i)) from mapV_at hi] at hx
      rw [show (enV N s.en)[i]? = some (oV (s.en i)) from mapV_at hi] at hy
      rw [show (spV N s.sp)[i]? = some (V.int (s.sp i)) from mapV_at hi] at hu
      cases hx
      cases hy
      cases hu
      have hTT := SqT.of (K := K) hT
      have ho3 := e3 _ _ (e2 _ _ ho)
      have hl3 := e3 _ _ hl2
      have hs3 := ex_t e3 (ex_t e2 (hs i hi))
      refine gg_tup hTT rfl ?_
      cases hen : s.en i with
      | none =>
        simp only [hen, oV] at hTT ⊢
        walk_at "go"
        refine g_kBM_list (SqL.of hl3) ?_
        walk_at "go"
        refine ⟨rfl, ?_⟩
        rw [dec_nn]
        walk_at "go"
        rename_i t4 H4 n4 e4 h4
        refine g_neTI (ys := []) (ex_t e4 hs3) (SqT.of h4) ?_
        by_cases hz : s.st i = []
        · rw [decide_eq_true hz]
          walk_at "go"
          refine g_append (e4 _ _ hl3) (lt1000 (by rw [enV_len]; omega)) fun H5 e5 h5 => ?_
          walk_at "go"
          refine ⟨_, _, _, rfl, Exb.ex nl (e2.trans (e3.trans e4)) e5, ?_⟩
          have : V.non = oV (s.begun.en i) := by
            show _ = oV (if s.en i = none ∧ s.st i ≠ [] then some (s.day + s.sp i) else s.en i)
            rw [if_neg (fun z => z.2 hz), hen]
            rfl
          rw [this] at h5
          unfold enV at h5 ⊢
          rw [mapV_next] at h5
          exact h5
        · rw [decide_eq_false hz]
          have ho4 := e4 _ _ ho3
          walk_at "go"
          refine g_append (e4 _ _ hl3) (lt1000 (by rw [enV_len]; omega)) fun H5 e5 h5 => ?_
          walk_at "go"
          refine ⟨_, _, _, rfl, Exb.ex nl (e2.trans (e3.trans e4)) e5, ?_⟩
          have : V.int (s.day + s.sp i) = oV (s.begun.en i) := by
            show _ = oV (if s.en i = none ∧ s.st i ≠ [] then some (s.day + s.sp i) else s.en i)
            rw [if_pos ⟨hen, hz⟩]
            rfl
          rw [this] at h5
          unfold enV at h5 ⊢
          rw [mapV_next] at h5
          exact h5
      | some e =>
        simp only [hen, oV] at hTT ⊢
        walk_at "go"
        refine g_kBM_list (SqL.of hl3) ?_
        walk_at "go"
        refine ⟨rfl, ?_⟩
        rw [dec_in]
        walk_at "go"
        refine g_append hl3 (lt1000 (by rw [enV_len]; omega)) fun H5 e5 h5 => ?_
        walk_at "go"
        refine ⟨_, _, _, rfl, Exb.ex nl (e2.trans e3) e5, ?_⟩
        have : V.int e = oV (s.begun.en i) := by
          show _ = oV (if s.en i = none ∧ s.st i ≠ [] then some (s.day + s.sp i) else s.en i)
          rw [if_neg (fun z => by rw [hen] at z; cases z.1), hen]
          rfl
        rw [this] at h5
        unfold enV at h5 ⊢
        rw [mapV_next] at h5
        exact h5
    · rintro σ H2 ⟨v2, v3, v4, rfl, e2, hl2⟩
      have ho2 := e2 _ _ ho
      walk_at "go"
      rename_i t3 H3 n3 e3 h3
      have ho3 := e3 _ _ ho2
      walk_at "go"
      have e03 := e2.trans e3
      refine g_mkScene fun x dx' fs' H4 nx e4 hx hf' => k x H4 (fresh_back e03 nx) (e03.trans e4) ⟨dx', fs', p, t3, r, hx, hf', ⟨sA, ex_t (e03.trans e4) hp, fun k hk => ex_t (e03.trans e4) (hs k hk)⟩, ex_t e4 (h3.sq (K := K)), ex_t (e03.trans e4) hr2⟩
/-! ### following -/
def kStar (K : PySem.W.Frag) (t : TA) (σ : L2.St) (Q : List V → Hp → Prop) : VK := fun x H1 => ∃ p xs, x = V.ref p ∧ (SqT K H1 p xs ∨ SqL K H1 p xs) ∧ t σ H1 fun ys H2 => Q (xs ++ ys) H2
theorem g_star {te : TE} {t : TA} {σ : L2.St} {H : Hp} {Q : List V → Hp → Prop} (q : te σ H (kStar K t σ Q)) : StX.tStar K te t σ H Q := q
theorem g_kStar {t : TA} {σ : L2.St} {H : Hp} {Q : List V → Hp → Prop} {p : Addr} {xs : List V} (h : SqT K H p xs) (q : t σ H fun ys H2 => Q (xs ++ ys) H2) : kStar K t σ Q (.ref p) H := ⟨p, xs, rfl, .inl h, q⟩
theorem g_kStarL {t : TA} {σ : L2.St} {H : Hp} {Q : List V → Hp → Prop} {p : Addr} {xs : List V} (h : SqL K H p xs) (q : t σ H fun ys H2 => Q (xs ++ ys) H2) : kStar K t σ Q (.ref p) H := ⟨p, xs, rfl, .inr h, q⟩
theorem g_eqOI {H : Hp} {Q : VK} {o : Option Int} {i : Int} (q : Q (.bl (decide (o = some i))) H) : rEqD K (oV o) (.int i) H Q := by
  cases o with
  | none =>
    refine g_eqD .non (.int i) rfl rfl ?_
    have : PyData.eqv .none (.int i) = false := by simp [PyData.eqv]
    rw [this]
    rw [decide_eq_false (by intro z; cases z)] at q
    exact q
  | some e =>
    refine g_eqD (.int e) (.int i) rfl rfl ?_
    have : PyData.eqv (.int e) (.int i) = decide (some e = some i) := by
      rw [Bool.eq_iff_iff]
      simp [PyData.eqv]
    rw [this]
    exact q
theorem ended_nodup {N : Nat} {s : Sc} : (s.dueK N).length ≤ N := by
  have := List.length_filter_le (fun k => decide (s.due k)) (List.range N)
  rw [List.length_range] at this
  exact this
theorem dueK_yes {s : Sc} {m : Nat} (h : s.due m) : s.dueK (m + 1) = s.dueK m ++ [m] := by
  unfold Sc.dueK
  rw [List.range_succ, List.filter_append]
  simp [h]
theorem dueK_no {s : Sc} {m : Nat} (h : ¬ s.due m) : s.dueK (m + 1) = s.dueK m := by
  unfold Sc.dueK
  rw [List.range_succ, List.filter_append]
  simp [h]
/-- triples of ints at places -/
def Ent (K : PySem.W.Frag) (H : Hp) (zs : List V) (es : List (Int × Int × Int)) : Prop := zs.length = es.length ∧ ∀ (m : Nat) (e : Int × Int × Int), es[m]? = some e → ∃ p : Addr, zs[m]? = some (V.ref p) ∧ SqT K H p [.int e.1, .int e.2.1, .int e.2.2]
theorem Ent.nil {H : Hp} : Ent K H [] [] := ⟨rfl, fun m e h => by cases h⟩
theorem Ent.ex {H H' : Hp} {zs : List V} {es : List (Int × Int × Int)} (x : Ex H H') (h : Ent K H zs es) : Ent K H' zs es := ⟨h.1, fun m e he => let ⟨p, h1, h2⟩ := h.2 m e he; ⟨p, h1, ex_t x h2⟩⟩
theorem Ent.exb {H H' : Hp} {l : Addr} {ys zs : List V} {es : List (Int × Int × Int)} (x : Exb l H H') (hl : H l = some (.lst ys)) (h : Ent K H zs es) : Ent K H' zs es := ⟨h.1, fun m e he => let ⟨p, h1, h2⟩ := h.2 m e he; ⟨p, h1, exb_t x hl h2⟩⟩
theorem Ent.snoc {H : Hp} {zs : List V} {es : List (Int × Int × Int)} {e : Int × Int × Int} {p : Addr} (h : Ent K H zs es) (hp : SqT K H p [.int e.1, .int e.2.1, .int e.2.2]) : Ent K H (zs ++ [.ref p]) (es ++ [e]) := by
  refine ⟨by rw [List.length_append, List.length_append, h.1]; rfl, fun m x hx => ?_⟩
  by_cases z : m < es.length
  · rw [List.getElem?_append_left z] at hx
    obtain ⟨p2, h1, h2⟩ := h.2 m x hx
    exact ⟨p2, by rw [List.getElem?_append_left (by rw [h.1]; exact z)]; exact h1, h2⟩
  · have hm := (List.getElem?_eq_some_iff.mp hx).1
    rw [List.length_append] at hm
    have hm : m = es.length := by simp at hm; omega
    rw [hm, List.getElem?_append_right (Nat.le_refl _), Nat.sub_self] at hx
    cases hx
    exact ⟨p, by rw [hm, ← h.1, List.getElem?_append_right (Nat.le_refl _), Nat.sub_self]; rfl, hp⟩
def sp_following (K : PySem.W.Frag) (SC : Addr) : Sp := fun vs H Q _ => ∃ (a : Addr) (N : Nat) (s : Sc), vs = [.ref a] ∧ ScOk N s ∧ ScIn K SC H a N s ∧
  ∀ p a' l zs H', H p = none → H a' = none → H l = none → l ≠ p → Ex H H' → H' p = some (.tup [.ref a', .ref l]) → ScIn K SC H' a' N (s.next N) → H' l = some (.lst zs) → Ent K H' zs (s.ended N) → Q (.ref p) H'
set_option maxHeartbeats 16000000 in
theorem ok_following (Z : Blt mg) (RS : SceneC K SC) (I_Scene : If P w K mg base "Scene" SC 1 ["self", "day", "stacks", "ends", "spans", "number"] (sp_Scene_init K SC)) (M_Scene_begun : Mf P w K mg base SC 3 "begun" ["self"] (sp_begun K SC)) (G : CFun K SC "following" "Scene.following" s_Scene_following) : Mf P w K mg base SC 4 "following" ["self"] (sp_following K SC) := by
  refine Mf.of G sc_Scene_following b_Scene_following (fun vs H Q E h => ?_) (fun f cdv A outer st H vs Q E hr h => ?_)
  · obtain ⟨a, N, s, rfl, _⟩ := h
    rfl
  · obtain ⟨a, N, s, rfl, W, S0, k⟩ := h
    obtain ⟨cl_Scene, n1, n2, n3, n4, n5⟩ := RS
    obtain ⟨dx, fs, p, q, r, ho, hf, ⟨sA, hp, hs⟩, hq, hr2⟩ := S0.obj
    obtain ⟨f1, f2, f3, f4, f5, f6, f7, f8⟩ := id hf
    have o2 := W.two
    have o8 := W.eight
    refine ⟨_, PSs.nox (pss_cons (ps_asg (pe_tup (pa_cons (pe_op op_add (pe_fld (pv 0) rfl) pe_int) (pa_cons (pe_callTy c_list_of (by rfl) Z.zlist (by decide +kernel) (pa_cons (pe_fld (pv 0) rfl) pa_nil)) (pa_cons (pe_callTy c_list_of (by rfl) Z.zlist (by decide +kernel) (pa_cons (pe_fld (pv 0) rfl) pa_nil)) (pa_cons (pe_lst pa_nil) pa_nil))))) (pg_tup (by rfl) (pgs_cons (pg_name (i := 1) sc_Scene_following.nd rfl (by first | exact Or.inl rfl | exact Or.inr rfl)) (pgs_cons (pg_name (i := 2) sc_Scene_following.nd rfl (by first | exact Or.inl rfl | exact Or.inr rfl)) (pgs_cons (pg_name (i := 3) sc_Scene_following.nd rfl (by first | exact Or.inl rfl | exact Or.inr rfl)) (pgs_cons (pg_name (i := 4) sc_Scene_following.nd rfl (by first | exact Or.inl rfl | exact Or.inr rfl)) pgs_nil))))))
      (pss_cons (ps_for PassesOwn.never rfl (pi_enumT (by rfl) Z.zenumerate (pa_cons (pe_fld (pv 0) rfl) pa_nil)) (pg_tup (by rfl) (pgs_cons (pg_name (i := 5) sc_Scene_following.nd rfl (by first | exact Or.inl rfl | exact Or.inr rfl)) (pgs_cons (pg_name (i := 6) sc_Scene_following.nd rfl (by first | exact Or.inl rfl | exact Or.inr rfl)) pgs_nil))) (pss_one (ps_if (pt_cmpR (op_eqD hr.units) (pv 6) (pv 1) (nomark _)) (pss_cons (ps_expr (pe_bm PySem.F.plainAttrs_list PySem.F.slot_list_append PySem.F.type_list_append mt_append (pv 4) (pa_cons (pe_tup (pa_cons (pv 1) (pa_cons (pv 5) (pa_cons (pe_ix ix_tup (pe_ix ix_tup (pe_fld (pv 0) rfl) (pv 5) (fun _ _ => rfl)) pe_int (fun _ _ => rfl)) pa_nil)))) pa_nil)))
          (pss_one (ps_asg pe_non (pg_sub (pv 3) (pv 5) set_list)))) pss_nil)))
      (pss_cons (ps_for PassesOwn.never rfl (pi_list (pv 4)) (pg_tup (by rfl) (pgs_cons (pg_name (i := 7) sc_Scene_following.nd rfl (by first | exact Or.inl rfl | exact Or.inr rfl)) (pgs_cons (pg_name (i := 5) sc_Scene_following.nd rfl (by first | exact Or.inl rfl | exact Or.inr rfl)) (pgs_cons (pg_name (i := 8) sc_Scene_following.nd rfl (by first | exact Or.inl rfl | exact Or.inr rfl)) pgs_nil)))) (pss_cons (ps_asg (pe_callTy c_tuple_of (by rfl) Z.ztuple (by decide +kernel) (pa_cons (pe_lc (own := [("other", 10)]) rfl sc_Scene_following.nd (pi_tup (pe_ix ix_list (pv 2) (pv 5) (fun _ _ => rfl))) (blkOk_by (N := N_Scene_following) (sc := defScope s_Scene_following) (by decide +kernel)) (fun _ _ _ _ _ => (pg_name (i := 10) sc_Scene_following.nd rfl (by first | exact Or.inl rfl | exact Or.inr rfl))) (fun _ _ _ _ _ => (pts_one (pt_cmpR op_ne (pv 10) (pv 8) (nomark _)))) (fun _ _ _ _ _ => (pv 10))) pa_nil)) (pg_sub (pv 2) (pv 5) set_list))
          (pss_cons (ps_set (i := 9) sc_Scene_following.nd rfl (by first | exact Or.inl rfl | exact Or.inr rfl) (pe_op op_mod (pe_callTy c_int1 (by rfl) Z.zint (by decide +kernel) (pa_cons (pe_op op_add (pv 5) pe_int) pa_nil)) (pe_callB c_len (by rfl) Z.zlen PySem.boot_len (pa_cons (pv 2) pa_nil))))
          (pss_one (ps_asg (pe_tup (StX.pa_star (pe_ix ix_list (pv 2) (pv 9) (fun _ _ => rfl)) (pa_cons (pv 8) pa_nil))) (pg_sub (pv 2) (pv 9) set_list))))))
      (pss_one (ps_ret (pe_tup (pa_cons (pm0 (pk I_Scene hr (pa_cons (pv 1) (pa_cons (pe_callTy c_tuple_of (by rfl) Z.ztuple (by decide +kernel) (pa_cons (pv 2) pa_nil)) (pa_cons (pe_callTy c_tuple_of (by rfl) Z.ztuple (by decide +kernel) (pa_cons (pv 3) pa_nil)) (pa_cons (pe_fld (pv 0) rfl) (pa_cons (pe_fld (pv 0) rfl) pa_nil)))))) cl_Scene M_Scene_begun hr) (pa_cons (pv 4) pa_nil)))))))), ?_⟩
    walk_at "g0"
    walk_at "go"
    rename_i L1 H1 nl1 e1 hl1 L2 H2 nl2 e2 hl2 L3 H3 nl3 e3 hl3 T4 H4 n4 e4 h4
    have e14 := ((e1.trans e2).trans e3).trans e4
    have hl14 := e4 _ _ (e3 _ _ (e2 _ _ hl1))
    have hl24 := e4 _ _ (e3 _ _ hl2)
    have hl34 := e4 _ _ hl3
    have n12 : L1 ≠ L2 := ne_of_none hl1 nl2
    have n13 : L1 ≠ L3 := ne_of_none (e2 _ _ hl1) nl3
    have n23 : L2 ≠ L3 := ne_of_none hl2 nl3
    have nh2 : H L2 = none := fresh_back e1 nl2
    have nh3 : H L3 = none := fresh_back (e1.trans e2) nl3
    clear h4 e4 hl3 hl2 hl1 e1 e2 e3 n4 nl2 nl3
    let endF : Nat → List (Int × Int × Int) := fun i => (s.dueK i).map fun (k : Nat) => (s.day + 1, (k : Int), (s.st k).headD 0)
    refine g_kForE (ex_t e14 hq) (fun i σ H' => ∃ (zs : List V) (v5 v6 v7 v8 v9 v10 : Option V), σ = [some (.ref a), some (.int (s.day + 1)), some (.ref L1), some (.ref L2), some (.ref L3), v5, v6, v7, v8, v9, v10] ∧ Ex H H' ∧ H' L1 = some (.lst (stV N sA)) ∧
        H' L2 = some (.lst (enV N fun j => if j < i ∧ s.due j then none else s.en j)) ∧ H' L3 = some (.lst zs) ∧ Ent K H' zs (endF i))
      ⟨[], _, _, _, _, _, _, rfl, e14, hl14, by
        have : enV N (fun j => if j < 0 ∧ s.due j then none else s.en j) = enV N s.en := enV_congr fun j _ => if_neg fun z => absurd z.1 (Nat.not_lt_zero j)
        rw [this]; exact hl24, hl34, Ent.nil⟩ (fun i σ H' _ hP => by
        obtain ⟨_, _, _, _, _, _, _, _, e, _⟩ := hP
        exact ex_t e hq) ?_ ?_
    · rintro i x σ H5 T H6 hx ⟨zs, v5, v6, v7, v8, v9, v10, rfl, e5, h15, h25, h35, hz⟩ e6 nT hT
      have hi : i < N := by
        have := (List.getElem?_eq_some_iff.mp hx).1
        rw [enV_len] at this
        exact this
      rw [show (enV N s.en)[i]? = some (oV (s.en i)) from mapV_at hi] at hx
      cases hx
      have hTT := SqT.of (K := K) hT
      have e56 := e5.trans e6
      have ho6 := e56 _ _ ho
      refine gg_tup hTT rfl ?_
      walk_at "go"
      refine g_eqOI ?_
      have hl16 := e6 _ _ h15
      have hl26 := e6 _ _ h25
      have hl36 := e6 _ _ h35
      have hz6 := hz.ex e6
      by_cases hd : s.due i
      · have hd' : s.en i = some (s.day + 1) := hd
        rw [decide_eq_true hd']
        obtain ⟨b, t, hb, hbt⟩ := W.head hi hd
        have hsi : (stV N sA)[i]? = some (V.ref (sA i)) := mapV_at hi
        have hs6 := ex_t e56 (hs i hi)
        have hp6 := ex_t e56 hp
        rw [hb] at hs6
        walk_at "go"
        refine g_kBM_list (SqL.of hl36) ?_
        walk_at "go"
        refine g_ixT hs6 (v := .int b) (show atI _ ((0 : Nat) : Int) = some _ from atI_nat rfl) ?_
        walk_at "go"
        rename_i q7 H7 n7 e7 h7
        have hzl : zs.length ≤ N := by
          rw [hz.1]
          show ((s.dueK i).map _).length ≤ N
          rw [List.length_map]
          exact Nat.le_trans ended_nodup (by omega)
        refine g_append (e7 _ _ hl36) (lt1000 (by omega)) fun H8 e8 h8 => ?_
        have hix : ixN (enV N fun j => if j < i ∧ s.due j then none else s.en j).length (i : Int) = some i := by
          unfold ixN
          rw [enV_len, if_pos (by omega), if_pos (by omega), Int.toNat_natCast]
        have h28 := e8 _ _ n23 (e7 _ _ hl26)
        have h18 := e8 _ _ n13 (e7 _ _ hl16)
        walk_at "go"
        rename_i H9 e9 h9
        have hz8 : Ent K H8 (zs ++ [.ref q7]) (endF (i + 1)) := by
          show Ent K H8 _ ((s.dueK (i + 1)).map _)
          rw [dueK_yes hd, List.map_append]
          refine ((hz6.ex e7).exb e8 (e7 _ _ hl36)).snoc ?_
          show SqT K H8 q7 [.int (s.day + 1), .int (i : Int), .int ((s.st i).headD 0)]
          rw [show (s.st i).headD 0 = b by rw [hb]; rfl]
          exact exb_t e8 (e7 _ _ hl36) (SqT.of h7)
        refine ⟨_, _, _, _, _, _, _, rfl, Exb.ex nh2 (Exb.ex nh3 (e56.trans e7) e8) e9, e9 _ _ n12 h18, ?_, e9 _ _ (Ne.symm n23) h8, hz8.exb e9 h28⟩
        have : (enV N fun j => if j < i ∧ s.due j then none else s.en j).set i V.non = enV N fun j => if j < i + 1 ∧ s.due j then none else s.en j := by
          unfold enV
          rw [mapV_set]
          refine mapV_congr fun j hj => ?_
          dsimp only
          by_cases z : j = i
          · rw [if_pos z, if_pos ⟨by omega, by rw [z]; exact hd⟩]; rfl
          · rw [if_neg z]
            by_cases y : j < i ∧ s.due j
            · rw [if_pos y, if_pos ⟨by omega, y.2⟩]
            · rw [if_neg y, if_neg (fun u => y ⟨by omega, u.2⟩)]
        rw [← this]
        exact h9
      · have hd' : ¬ s.en i = some (s.day + 1) := hd
        rw [decide_eq_false hd']
        walk_at "go"
        refine ⟨zs, _, _, _, _, _, _, rfl, e56, hl16, ?_, hl36, ?_⟩
        · have : (enV N fun j => if j < i ∧ s.due j then none else s.en j) = enV N fun j => if j < i + 1 ∧ s.due j then none else s.en j := by
            refine enV_congr fun j hj => ?_
            by_cases y : j < i ∧ s.due j
            · rw [if_pos y, if_pos ⟨by omega, y.2⟩]
            · rw [if_neg y, if_neg (fun u => y ⟨by
                have := u.1
                by_cases z : j = i
                · rw [z] at u; exact absurd u.2 hd
                · omega, u.2⟩)]
          rw [← this]
          exact hl26
        · show Ent K H6 zs ((s.dueK (i + 1)).map _)
          rw [dueK_no hd]
          exact hz6
    · rintro σ H5 ⟨zs, v5, v6, v7, v8, v9, v10, rfl, e5, h15, h25, h35, hz⟩
      rw [enV_len] at h25 hz
      have hzN : zs.length = (s.dueK N).length := by rw [hz.1]; exact List.length_map _
      have h25 : H5 L2 = some (.lst (enV N (s.next0 N).en)) := by
        rw [h25]
        refine congrArg (fun z => some (HO.lst z)) (enV_congr fun j hj => ?_)
        show _ = if s.due j then none else s.en j
        by_cases y : s.due j
        · rw [if_pos y, if_pos ⟨hj, y⟩]
        · rw [if_neg y, if_neg (fun u => y u.2)]
      walk_at "go"
      refine g_kForL (SqL.of h35) (fun m σ H' => ∃ (sB : Nat → Addr) (v5 v6 v7 v8 v9 v10 : Option V), σ = [some (.ref a), some (.int (s.day + 1)), some (.ref L1), some (.ref L2), some (.ref L3), v5, v6, v7, v8, v9, v10] ∧ Ex H H' ∧ H' L1 = some (.lst (stV N sB)) ∧
          (∀ j, j < N → SqT K H' (sB j) ((midSt N ((s.dueK N).take m) s.st j).map V.int)) ∧ H' L2 = some (.lst (enV N (s.next0 N).en)) ∧ H' L3 = some (.lst zs) ∧ Ent K H' zs (endF N))
        ⟨sA, _, _, _, _, _, _, rfl, e5, h15, fun j hj => by rw [List.take_zero, mid_nil]; exact ex_t e5 (hs j hj), h25, h35, hz⟩ (fun m σ H' _ hP => by
          obtain ⟨_, _, _, _, _, _, _, _, _, _, _, _, hx, _⟩ := hP
          exact SqL.of hx) ?_ ?_
      · rintro m x σ H6 hx ⟨sB, v5, v6, v7, v8, v9, v10, rfl, e6, h16, hs6, h26, h36, hz6⟩
        have hml := (List.getElem?_eq_some_iff.mp hx).1
        obtain ⟨k0, hk0⟩ : ∃ k, (s.dueK N)[m]? = some k := ⟨_, List.getElem?_eq_getElem (by omega)⟩
        have hen : (endF N)[m]? = some (s.day + 1, (k0 : Int), (s.st k0).headD 0) := by
          show ((s.dueK N).map _)[m]? = _
          rw [List.getElem?_map, hk0]
          rfl
        obtain ⟨p2, hp2, ht2⟩ := hz6.2 m _ hen
        rw [hx] at hp2
        cases hp2
        obtain ⟨hkl, hkd⟩ := Sc.mem_due.mp (List.mem_of_getElem? hk0)
        obtain ⟨b, t, hb, hbt⟩ := W.head hkl hkd
        have hnl := snxt_lt hkl
        have hnm := snxt_mod hkl
        have hnot : k0 ∉ (s.dueK N).take m := fun z => by
          obtain ⟨hm, e⟩ := List.getElem?_eq_some_iff.mp hk0
          obtain ⟨i, hi, hik⟩ := List.getElem_of_mem z
          rw [List.getElem_take] at hik
          rw [List.length_take] at hi
          exact List.pairwise_iff_getElem.mp Sc.due_nodup i m (by omega) hm (by omega) (by rw [hik, e])
        have htk : (s.dueK N).take (m + 1) = (s.dueK N).take m ++ [k0] := by
          obtain ⟨hm, e⟩ := List.getElem?_eq_some_iff.mp hk0
          rw [← List.take_append_getElem hm, e]
        rw [show (s.st k0).headD 0 = b by rw [hb]; rfl] at ht2
        have ht2 : SqT K H6 p2 [.int (s.day + 1), .int (k0 : Int), .int b] := ht2
        refine gg_tup ht2 rfl ?_
        have hsB : (stV N sB)[k0]? = some (V.ref (sB k0)) := mapV_at hkl
        have hsk := hs6 k0 hkl
        have hsn := hs6 _ hnl
        walk_at "go"
        have wB : ∀ {D : Addr}, H6 D = none → D ≠ L1 := fun hD z => by rw [z, h16] at hD; cases hD
        refine g_kLcU hsk (fun D j H' => Ex H6 H' ∧ H' D = some (.lst ((((midSt N ((s.dueK N).take m) s.st k0).take j).filter fun x => !decide (x = b)).map V.int)))
          (fun D H1 nD eD hD => ⟨eD, by rw [List.take_zero]; exact hD⟩) (fun D j H' nD _ hP => ex_t hP.1 hsk) (fun D j x H' nD hx hP => ?_) (fun D H7 nD hP => ?_)
        · obtain ⟨e7, hD⟩ := hP
          rw [List.getElem?_map] at hx
          obtain ⟨y, hy, rfl⟩ := Option.map_eq_some_iff.mp hx
          have hjl := (List.getElem?_eq_some_iff.mp hy).1
          have hml2 := mid_len W.toScW (ks := (s.dueK N).take m) hkl
          have htk2 : (midSt N ((s.dueK N).take m) s.st k0).take (j + 1) = (midSt N ((s.dueK N).take m) s.st k0).take j ++ [y] := by
            obtain ⟨h1, h2⟩ := List.getElem?_eq_some_iff.mp hy
            rw [← List.take_append_getElem h1, h2]
          walk_at "go"
          refine g_kLcT (fun hne => ?_) (fun heq => ?_)
          · walk_at "go"
            have hfl := List.length_filter_le (fun x => !decide (x = b)) ((midSt N ((s.dueK N).take m) s.st k0).take j)
            rw [List.length_take] at hfl
            refine g_kLcE hD (lt1000 (by rw [List.length_map]; omega)) fun H8 e8 h8 => ⟨Exb.ex nD e7 e8, ?_⟩
            rw [htk2, List.filter_append, List.map_append, h8]
            rw [show [y].filter (fun x => !decide (x = b)) = [y] from List.filter_cons_of_pos hne]
            rfl
          · refine ⟨e7, ?_⟩
            rw [htk2, List.filter_append, hD]
            rw [show [y].filter (fun x => !decide (x = b)) = [] from List.filter_cons_of_neg (by rw [heq]; exact Bool.false_ne_true)]
            rw [List.append_nil]
        · obtain ⟨e7, hD⟩ := hP
          rw [List.length_map, List.take_length, mid_out W.toScW hkl hkd hnot hb] at hD
          have h17 := e7 _ _ h16
          walk_at "go"
          rename_i t8 H8 n8 e8 h8
          have h18 := e8 _ _ h17
          have hixk : ixN (stV N sB).length (k0 : Int) = some k0 := by
            unfold ixN
            rw [stV_len, if_pos (by omega), if_pos (by omega), Int.toNat_natCast]
          refine g_setL h18 hixk fun H9 e9 h19 => ?_
          have es1 : (stV N sB).set k0 (V.ref t8) = stV N (fun j => if j = k0 then t8 else sB j) := by
            unfold stV
            rw [mapV_set]
            exact mapV_congr fun j hj => by by_cases z : j = k0 <;> simp [z]
          rw [es1] at h19
          have e79 := (e7.trans e8)
          have hll := stV_len (N := N) (sA := fun j => if j = k0 then t8 else sB j)
          walk_at "go"
          rw [hll, hnm]
          have hsB2 : (stV N (fun j => if j = k0 then t8 else sB j))[snxt N k0]? = some (V.ref (sB (snxt N k0))) := by
            rw [show (stV N (fun j => if j = k0 then t8 else sB j))[snxt N k0]? = some (V.ref (if snxt N k0 = k0 then t8 else sB (snxt N k0))) from mapV_at hnl, if_neg (snxt_ne o2 hkl)]
          have hsn9 := exb_t e9 h18 (ex_t e79 hsn)
          walk_at "go"
          refine g_star ?_
          walk_at "go"
          refine g_kStar hsn9 ?_
          walk_at "go"
          have hmn := mid_len W.toScW (ks := (s.dueK N).take m) hnl
          refine g_kT (sz1000 (by rw [List.length_append, List.length_map]; simp; omega)) fun t10 H10 n10 e10 h10 => ?_
          have h1a := e10 _ _ h19
          walk_at "go"
          have hixn : ixN (stV N (fun j => if j = k0 then t8 else sB j)).length ((snxt N k0 : Nat) : Int) = some (snxt N k0) := by
            unfold ixN
            rw [stV_len, if_pos (by omega), if_pos (by omega), Int.toNat_natCast]
          refine g_setL h1a hixn fun H11 e11 h11 => ?_
          have es2 : (stV N (fun j => if j = k0 then t8 else sB j)).set (snxt N k0) (V.ref t10) = stV N (fun j => if j = snxt N k0 then t10 else if j = k0 then t8 else sB j) := by
            unfold stV
            rw [mapV_set]
            exact mapV_congr fun j hj => by by_cases z : j = snxt N k0 <;> simp [z]
          rw [es2] at h11
          have n8L : t8 ≠ L1 := fun z => by rw [z, h17] at n8; cases n8
          have n10L : t10 ≠ L1 := fun z => by rw [z, h19] at n10; cases n10
          have tr : ∀ {q : Addr} {xs : List V}, SqT K H6 q xs → SqT K H11 q xs := fun hq => exb_t e11 h1a (ex_t e10 (exb_t e9 h18 (ex_t e79 hq)))
          have trL : ∀ {q : Addr} {xs : List V}, q ≠ L1 → H6 q = some (.lst xs) → H11 q = some (.lst xs) := fun hq z => e11 _ _ hq (e10 _ _ (e9 _ _ hq (e79 _ _ z)))
          have eh : Ex H H11 := Exb.ex nl1 ((Exb.ex nl1 (e6.trans e79) e9).trans e10) e11
          refine ⟨fun j => if j = snxt N k0 then t10 else if j = k0 then t8 else sB j, _, _, _, _, _, _, rfl, eh, h11, fun j hj => ?_, trL (Ne.symm n12) h26, trL (Ne.symm n13) h36, ?_⟩
          · rw [htk]
            by_cases z : j = snxt N k0
            · simp only [z, if_true]
              rw [mid_into o2 hkl hnot hb, List.map_append]
              exact exb_t e11 h1a (SqT.of h10)
            · by_cases y : j = k0
              · simp only [y, if_true, if_neg (Ne.symm (snxt_ne o2 hkl))]
                rw [mid_own o2 hkl hb]
                exact exb_t e11 h1a (ex_t e10 (exb_t e9 h18 (h8.sq (K := K))))
              · simp only [if_neg z, if_neg y]
                rw [mid_else hj hkl y z]
                exact tr (hs6 j hj)
          · exact ⟨hz6.1, fun i e he => let ⟨p, y1, y2⟩ := hz6.2 i e he; ⟨p, y1, tr y2⟩⟩
      · rintro σ H6 ⟨sB, v5, v6, v7, v8, v9, v10, rfl, e6, h16, hs6, h26, h36, hz6⟩
        rw [hzN, List.take_length] at hs6
        have ho6 := e6 _ _ ho
        walk_at "go"
        rename_i t1 H7 n7 e7 h7 t2 H8 n8 e8 h8
        have e08 := (e6.trans e7).trans e8
        refine g_mkScene fun x dx' fs' H9 nx e9 hx hf' => ?_
        have e79 := (e7.trans e8).trans e9
        have SI : ScIn K SC H9 x N (s.next0 N) := ⟨dx', fs', t1, t2, r, hx, hf', ⟨sB, ex_t (e8.trans e9) (h7.sq (K := K)), fun j hj => by
          have := ex_t e79 (hs6 j hj)
          rw [mid_all hj] at this
          exact this⟩, ex_t e9 (h8.sq (K := K)), ex_t (e08.trans e9) hr2⟩
        obtain ⟨_, _, _, _, _, _, m1, _⟩ := hf'
        walk_at "go"
        refine ⟨x, N, s.next0 N, rfl, o8, SI, fun a' H10 na e10 SI10 => ?_⟩
        have h3x := e10 _ _ (e79 _ _ h36)
        have z10 := hz6.ex (e79.trans e10)
        walk_at "go"
        rename_i p' H11 n11 e11 h11
        have e011 := ((e08.trans e9).trans e10).trans e11
        have hL3p : L3 ≠ p' := ne_of_none h3x n11
        exact k p' a' L3 zs H11 (fresh_back ((e08.trans e9).trans e10) n11) (fresh_back (e08.trans e9) na) nh3 hL3p e011 h11 (SI10.ex e11) (e11 _ _ h3x) (z10.ex e11)
end
end G48

namespace G48
open PySem PySem.Spec PyProof.Rows L2 Evl
abbrev N_first_scene : List Str := ["ring", "stacks", "number", "heap"]
theorem sc_first_scene : FnScope N_first_scene ["ring"] (defScope s_first_scene) := ⟨rfl, rfl, rfl, by decide +kernel, rfl, by decide +kernel, by decide +kernel⟩
theorem b_first_scene : BindL "first_scene" "first_scene" s_first_scene ["ring"] := fun _ _ _ _ _ _ us hl => match us, hl with | [_], _ => rfl
end G48
/-! the first scene -/
namespace G48
open PySem PySem.Spec PyProof.Rows L2 Evl
/-! the steps -/
local macro_rules | `(tactic| walk_at "as") => `(tactic| with_reducible assumption)
local macro_rules | `(tactic| walk_at "hp") => `(tactic| first
  | with_reducible assumption
  | ((with_reducible apply SqT.of); walk_at "as")
  | ((with_reducible apply SqL.of); walk_at "as")
  | ((with_reducible apply ex_at); (focus walk_at "as"); walk_at "hp")
  | ((with_reducible apply ex_t); (focus walk_at "as"); walk_at "hp")
  | ((with_reducible apply ex_l); (focus walk_at "as"); walk_at "hp")
  | ((with_reducible apply exb_ins); (focus walk_at "as"); (focus walk_at "hp"); walk_at "hp")
  | ((with_reducible apply exb_t); (focus walk_at "as"); (focus walk_at "hp"); walk_at "hp")
  | ((with_reducible apply exb_at); (focus walk_at "as"); (focus walk_at "ne"); walk_at "hp")
  | ((with_reducible apply exb_l); (focus walk_at "as"); (focus walk_at "ne"); walk_at "hp"))
local macro_rules | `(tactic| walk_at "ne") => `(tactic| first
  | with_reducible assumption
  | exact Ne.symm (by with_reducible assumption)
  | exact ne_of_none (by with_reducible assumption) (by with_reducible assumption)
  | exact Ne.symm (ne_of_none (by with_reducible assumption) (by with_reducible assumption)))
local macro_rules | `(tactic| walk_at "tr") => `(tactic| first
  | rfl
  | with_reducible assumption
  | exact decide_eq_true (by first | with_reducible assumption | omega)
  | exact decide_eq_false (by first | with_reducible assumption | omega)
  | (rw [Bool.not_eq_true']; exact decide_eq_false (by first | with_reducible assumption | omega))
  | (rw [Bool.not_eq_false']; exact decide_eq_true (by first | with_reducible assumption | omega)))
local macro_rules | `(tactic| walk_at "nn") => `(tactic| first | with_reducible assumption | (exact List.cons_ne_nil _ _))
local macro_rules | `(tactic| walk_at "sz") => `(tactic| first | (exact sz1000 (Nat.le_of_ble_eq_true rfl)) | (refine sz1000 ?_; simp only [List.length_map, List.length_cons, List.length_nil, List.length_append]; omega) | with_reducible assumption)
local macro_rules | `(tactic| walk_at "sl") => `(tactic| first | with_reducible assumption | (refine lt1000 ?_; simp only [List.length_map, List.length_cons, List.length_nil, List.length_append]; omega) | (refine lt1000 ?_; omega))
local macro_rules | `(tactic| walk_at "ix") => `(tactic| first | rfl | with_reducible assumption)
local macro_rules | `(tactic| walk_at "rg") => `(tactic| exact RgOk.of_le (by omega) (by omega) (by omega) (by omega))
local macro_rules | `(tactic| walk_at "sp") => `(tactic| fail "sp")
local macro_rules | `(tactic| walk_at "cl") => `(tactic| with_reducible assumption)
local macro_rules | `(tactic| walk_at "lk") => `(tactic| with_reducible assumption)
local macro_rules | `(tactic| walk_at "it") => `(tactic| first | rfl | with_reducible assumption | exact atI_nat (by with_reducible assumption))
local macro_rules | `(tactic| walk_at "g1") => `(tactic| first
  | (with_reducible apply g_var); (focus rfl)
  | with_reducible apply g_c
  | with_reducible apply g_seq
  | with_reducible apply g_asg
  | with_reducible apply gg_name
  | with_reducible apply g_op
  | with_reducible apply g_cons
  | with_reducible apply g_nil
  | with_reducible apply g_cb
  | with_reducible apply g_fld
  | ((with_reducible apply g_kFld); (focus walk_at "hp"); (focus walk_at "cl"); (focus walk_at "cl"); (focus walk_at "lk"))
  | with_reducible apply g_call
  | walk_at "sp"
  | with_reducible apply g_ret
  | with_reducible apply g_drop
  | with_reducible apply g_test
  | with_reducible apply g_B
  | with_reducible apply g_kTest
  | with_reducible apply g_ifS
  | with_reducible apply g_kIfST
  | with_reducible apply g_kIfSF
  | with_reducible apply g_add
  | with_reducible apply g_sub
  | with_reducible apply g_lt
  | with_reducible apply g_le
  | with_reducible apply g_gt
  | with_reducible apply g_ge
  | with_reducible apply g_eqI
  | with_reducible apply g_neI
  | ((with_reducible apply g_mod); (focus first | decide | omega))
  | ((with_reducible apply g_mul); (focus first | (left; constructor <;> omega) | (right; constructor <;> omega)))
  | ((with_reducible apply g_fdiv); (focus (constructor <;> omega)))
  | ((with_reducible apply g_ixT); (focus walk_at "hp"); (focus walk_at "it"))
  | ((with_reducible apply g_ixL); (focus walk_at "hp"); (focus walk_at "it"))
  | with_reducible apply g_and
  | with_reducible apply g_or
  | with_reducible apply g_not
  | with_reducible apply g_kNotT
  | with_reducible apply g_kNotF
  | with_reducible apply g_if
  | with_reducible apply g_kAndT
  | with_reducible apply g_kAndF
  | with_reducible apply g_kOrT
  | with_reducible apply g_kOrF
  | with_reducible apply g_kIfT
  | with_reducible apply g_kIfF
  | with_reducible apply g_next
  | with_reducible apply g_andV
  | with_reducible apply g_orV
  | with_reducible apply g_notV
  | with_reducible apply g_kNotV
  | with_reducible apply g_kAndVT
  | with_reducible apply g_kAndVF
  | with_reducible apply g_chain
  | with_reducible apply g_kChainT
  | with_reducible apply g_kChainF
  | with_reducible apply g_tup
  | with_reducible apply g_lst
  | ((with_reducible apply g_kT); (focus walk_at "sz"); intro _ _ _ _ _)
  | ((with_reducible apply g_kL); (focus walk_at "sz"); intro _ _ _ _ _)
  | with_reducible apply g_un
  | with_reducible apply g_neg
  | with_reducible apply g_meth
  | ((with_reducible apply g_kMeth); (focus walk_at "hp"); (focus walk_at "lk"))
  | with_reducible apply g_prop
  | ((with_reducible apply g_kProp); (focus walk_at "hp"))
  | with_reducible apply g_make
  | with_reducible apply g_par
  | with_reducible apply g_kPar
  | ((with_reducible apply g_lenLM); (focus walk_at "hp"))
  | ((with_reducible apply g_lenTM); (focus walk_at "hp"))
  | ((with_reducible apply g_lenL); (focus walk_at "hp"))
  | ((with_reducible apply g_lenT); (focus walk_at "hp"))
  | with_reducible apply g_int1
  | with_reducible apply g_max2
  | with_reducible apply g_min2
  | ((with_reducible apply g_listL); (focus walk_at "hp"); intro _ _ _ _ _)
  | ((with_reducible apply g_listT); (focus walk_at "hp"); intro _ _ _ _ _)
  | ((with_reducible apply g_tupL); (focus walk_at "hp"); intro _ _ _ _ _)
  | ((with_reducible apply g_sum); (focus walk_at "hp"))
  | with_reducible apply g_sfld
  | with_reducible apply g_sl
  | with_reducible apply g_nopart
  | with_reducible apply g_part
  | with_reducible apply g_kPart
  | with_reducible apply g_lstRg
  | with_reducible apply g_rg1
  | with_reducible apply g_kRg1
  | with_reducible apply g_bm
  | with_reducible apply gg_sub
  | ((with_reducible apply gg_tup); (focus walk_at "hp"); (focus rfl))
  | with_reducible apply gg_cons
  | with_reducible apply gg_nil
  | with_reducible apply g_forL
  | with_reducible apply g_forT
  | with_reducible apply g_forR1
  | with_reducible apply g_forR2
  | with_reducible apply g_forE
  | with_reducible apply g_forEL
  | ((with_reducible apply g_maxT); (focus walk_at "hp"); (focus walk_at "nn"))
  | ((with_reducible apply g_maxL); (focus walk_at "hp"); (focus walk_at "nn"))
  | ((with_reducible apply g_catA); (focus walk_at "hp"); (focus walk_at "hp"); (focus walk_at "sz"); intro _ _ _ _)
  | ((with_reducible apply g_slA); (focus walk_at "hp"); intro _ _ _ _)
  | ((with_reducible apply g_tupD); (focus walk_at "hp"); intro _ _ _ _ _)
  | ((with_reducible apply g_setL); (focus walk_at "hp"); (focus walk_at "ix"); intro _ _ _)
  | ((with_reducible apply g_append); (focus walk_at "hp"); (focus walk_at "sl"); intro _ _ _)
  | ((with_reducible apply g_aug); (focus rfl))
  | with_reducible apply g_ipI
  | with_reducible apply g_retN
  | with_reducible apply g_lcR1
  | with_reducible apply g_lcR2
  | with_reducible apply g_lcL
  | with_reducible apply g_lcU
  | with_reducible apply g_lcN
  | ((with_reducible apply g_kLcG); (focus rfl))
  | with_reducible apply g_yes
  | with_reducible apply g_kLcTT
  | with_reducible apply g_kLcTF
  | ((with_reducible apply g_kLcE); (focus walk_at "hp"); (focus walk_at "sl"); intro _ _ _)
  | ((with_reducible apply g_pow); (focus (constructor <;> (try constructor) <;> decide)))
  | ((with_reducible apply g_kLRg); (focus walk_at "rg"); intro _ _ _ _ _)
  | ((with_reducible apply g_cat); (focus walk_at "hp"); (focus walk_at "hp"); (focus walk_at "sz"); intro _ _ _ _ _)
  | ((with_reducible apply g_slL); (focus walk_at "hp"); intro _ _ _ _ _)
  | with_reducible apply g_bmT
  | with_reducible apply g_break
  | with_reducible apply g_cont)
local macro_rules | `(tactic| walk_at "g0") => `(tactic| try dsimp only [L2.cxOf, L2.Cx.nox, L2.Cx.wish])
local macro_rules | `(tactic| walk_at "yn") => `(tactic| first
  | ((with_reducible apply y_kIfS); (focus walk_at "tr"))
  | ((with_reducible apply n_kIfS); (focus walk_at "tr"))
  | ((with_reducible apply y_kOr); (focus walk_at "tr"))
  | ((with_reducible apply n_kOr); (focus walk_at "tr"))
  | ((with_reducible apply y_kAnd); (focus walk_at "tr"))
  | ((with_reducible apply n_kAnd); (focus walk_at "tr"))
  | ((with_reducible apply y_kNot); (focus walk_at "tr"))
  | ((with_reducible apply n_kNot); (focus walk_at "tr"))
  | ((with_reducible apply y_kIf); (focus walk_at "tr"))
  | ((with_reducible apply n_kIf); (focus walk_at "tr"))
  | ((with_reducible apply y_kAndV); (focus walk_at "tr"))
  | ((with_reducible apply n_kAndV); (focus walk_at "tr"))
  | ((with_reducible apply y_kOrV); (focus walk_at "tr"))
  | ((with_reducible apply n_kOrV); (focus walk_at "tr"))
  | ((with_reducible apply y_kChain); (focus walk_at "tr"))
  | ((with_reducible apply n_kChain); (focus walk_at "tr"))
  | ((with_reducible apply y_kLcT); (focus walk_at "tr"))
  | ((with_reducible apply n_kLcT); (focus walk_at "tr"))
  | ((with_reducible apply y_kWh); (focus walk_at "tr"))
  | ((with_reducible apply n_kWh); (focus walk_at "tr")))
local macro_rules | `(tactic| walk_at "go") => `(tactic| repeat (first | walk_at "g1" | walk_at "yn"))
local macro_rules | `(tactic| walk_at "hp") => `(tactic| first
  | ((with_reducible apply RingIn.ex); (focus walk_at "as"); walk_at "hp")
  | ((with_reducible apply RingAt.ex); (focus walk_at "as"); walk_at "hp")
  | ((with_reducible apply RingIn.exb); (focus walk_at "as"); (focus walk_at "hp"); walk_at "hp")
  | ((with_reducible apply RingAt.exb); (focus walk_at "as"); (focus walk_at "hp"); walk_at "hp")
  | ((with_reducible apply TupK.ex); (focus walk_at "as"); walk_at "hp")
  | ((with_reducible apply TupK.exb); (focus walk_at "as"); (focus walk_at "hp"); walk_at "hp"))
local macro_rules | `(tactic| walk_at "lk") => `(tactic| first | with_reducible exact rf_spans | with_reducible exact rf_heaps | with_reducible exact rf_total | with_reducible exact rf_nr | with_reducible exact rf_wd)
local macro_rules | `(tactic| walk_at "sp") => `(tactic| first
  | ((with_reducible apply g_isiTup); (focus walk_at "hp"))
  | ((with_reducible apply g_isiLst); (focus walk_at "hp"))
  | ((with_reducible apply g_isint); (focus omega); (focus omega))
  | ((with_reducible apply g_checkn); (focus omega); (focus omega))
  | ((with_reducible apply g_rbooks); (focus walk_at "hp"))
  | ((with_reducible apply g_rpace); (focus walk_at "hp"); intro _ _ _ _)
  | ((with_reducible apply g_rlen); (focus walk_at "hp"))
  | ((with_reducible apply g_rneed); (focus walk_at "hp"); (focus omega))
  | ((with_reducible apply g_rneedM); (focus walk_at "hp"))
  | ((with_reducible apply g_rwithM); (focus walk_at "hp"))
  | ((with_reducible apply g_rspans); (focus walk_at "hp"); (focus with_reducible assumption))
  | ((with_reducible apply g_rheaps); (focus walk_at "hp"); (focus with_reducible assumption))
  | ((with_reducible apply g_rtotal); (focus walk_at "hp"); (focus with_reducible assumption)))

section
variable {P : Program} {w : World} {K : PySem.W.Frag} {mg : Str → Option Value} {base : Heap} {C SC : Addr}
/-! ### first_scene -/
def kTRg (Q : VK) (a b : Int) (H1 : Hp) : Prop := RgOk a b ∧ ∀ q, H1 q = none → Q (.ref q) (upd H1 q (.tup (rgV a b)))
theorem g_rgT {tg : L2.St → Hp → (Int → Int → Hp → Prop) → Prop} {σ : L2.St} {H : Hp} {Q : VK} (q : tg σ H (kTRg Q)) : tTupRg tg σ H Q := q
theorem g_kTRg {i j : Int} {H : Hp} {Q : VK} (h : RgOk i j) (q : ∀ p H2, H p = none → Ex H H2 → H2 p = some (.tup (rgV i j)) → Q (.ref p) H2) : kTRg Q i j H := ⟨h, fun p hp => q p _ hp (Ex.new hp) upd_same⟩
theorem frng_V (a : Int) (n : Nat) : rgV a (a + (n : Int)) = (frng a n).map V.int := by
  unfold rgV frng
  rw [List.map_map]
  have e : (a + (n : Int) - a).toNat = n := by omega
  rw [e]
  rfl
theorem RingOk.fH_at {ds hs : List Int} (O : RingOk ds hs) {k : Nat} (hk : k < ds.length) : (hs.map V.int)[k]? = some (.int (fH hs k : Int)) ∧ fH hs k ≤ 12 := by
  have hl : k < hs.length := by rw [O.len]; exact hk
  have e : hs[k]? = some hs[k] := List.getElem?_eq_getElem hl
  have h0 := O.hh _ (List.getElem_mem hl)
  have ef : fH hs k = hs[k].toNat := by
    unfold fH
    rw [List.getD_eq_getElem?_getD, e]
    rfl
  rw [List.getElem?_map, e, ef]
  refine ⟨?_, by omega⟩
  show some (V.int hs[k]) = _
  congr 2
  omega
theorem ScW.first0 {ds hs : List Int} (O : RingOk ds hs) : ScW ds.length (Sc.first0 ds hs) where
  two := O.two
  eight := O.eight
  uni := fun b => by
    have h := first_count (hs := hs) (fun x hx => (O.hh x hx).1) b (k := ds.length) (by rw [O.len]; exact Nat.le_refl _)
    show sumN ds.length (fun j => (firstSt hs j).count b) ≤ 1
    rw [h]
    split <;> omega
  few := by
    have h := first_len (hs := hs) (fun x hx => (O.hh x hx).1) (k := ds.length) (by rw [O.len]; exact Nat.le_refl _)
    rw [← O.len, List.take_length] at h
    have := O.twelve
    show sumN ds.length (fun j => (firstSt hs j).length) ≤ 12
    rw [← O.len]
    omega
  sp := fun k hk => by
    have e : ds.getD k 0 = ds[k] := by rw [List.getD_eq_getElem?_getD, List.getElem?_eq_getElem hk]; rfl
    show 1 ≤ ds.getD k 0 ∧ ds.getD k 0 ≤ 30
    rw [e]
    exact O.dd _ (List.getElem_mem hk)
  day := Int.le_refl _
  ends := fun k hk e he => by cases he
theorem ScOk.first {ds hs : List Int} (O : RingOk ds hs) : ScOk ds.length (Sc.first ds hs) := (ScW.first0 O).begun
def scAt (ds hs : List Int) : Nat → Sc
  | 0 => Sc.first ds hs
  | t + 1 => (scAt ds hs t).next ds.length
theorem scAt_ok {ds hs : List Int} (O : RingOk ds hs) : ∀ t, ScOk ds.length (scAt ds hs t)
  | 0 => ScOk.first O
  | t + 1 => (scAt_ok O t).next
def sp_first_scene (K : PySem.W.Frag) (C SC : Addr) : Sp := fun vs H Q _ => ∃ (r a b : Addr) (ds hs : List Int), vs = [.ref r] ∧ RingIn K C H r a b ds hs ∧ ∀ x H', H x = none → Ex H H' → ScIn K SC H' x ds.length (Sc.first ds hs) → Q (.ref x) H'
set_option maxHeartbeats 8000000 in
theorem ok_first_scene (Z : Blt mg) (R : RingC K C) (RS : SceneC K SC) (I_Scene : If P w K mg base "Scene" SC 1 ["self", "day", "stacks", "ends", "spans", "number"] (sp_Scene_init K SC)) (M_Scene_begun : Mf P w K mg base SC 3 "begun" ["self"] (sp_begun K SC)) (M_Ring___len__ : Mf P w K mg base C 1 "__len__" ["self"] (sp_Ring_len K C)) (G : GFun K mg "first_scene" s_first_scene) : Df P w K mg base 4 "first_scene" ["ring"] (sp_first_scene K C SC) := by
  refine Df.of G sc_first_scene b_first_scene (fun vs H Q E h => ?_) (fun f cdv A outer st H vs Q E hr h => ?_)
  · obtain ⟨r, a, b, ds, hs, rfl, _⟩ := h
    rfl
  · obtain ⟨r, a, b, ds, hs, rfl, RI, k⟩ := h
    obtain ⟨cl_Scene, n1, n2, n3, n4, n5⟩ := RS
    obtain ⟨cl_Ring, nS, nH, nT⟩ := R
    have O := RI.ok
    have o2 := O.two
    have o8 := O.eight
    have o12 := O.twelve
    have nn : ∀ x ∈ hs, 0 ≤ x := fun x hx => (O.hh x hx).1
    obtain ⟨dx, ho⟩ := RI.obj
    have hS := RI.sp
    have hT := RI.hp
    refine ⟨_, PSs.nox (pss_cons (ps_par (i := 1) (j := 2) rfl sc_first_scene.nd rfl rfl (by decide) rfl rfl (pa_cons (pe_lst pa_nil) (pa_cons pe_int pa_nil)) (by rfl))
      (pss_cons (ps_for PassesOwn.never rfl (pi_tup (pe_fld (pv 0) rfl)) (pg_name (i := 3) sc_first_scene.nd rfl (by first | exact Or.inl rfl | exact Or.inr rfl)) (pss_cons (ps_expr (pe_bm PySem.F.plainAttrs_list PySem.F.slot_list_append PySem.F.type_list_append mt_append (pv 1) (pa_cons (pe_tupRg rfl (by rfl) Z.ztuple (prg_2 (by rfl) Z.zrange (pv 2) (pe_op op_add (pv 2) (pv 3)))) pa_nil)))
          (pss_one (ps_aug (i := 2) sc_first_scene.nd rfl (by first | exact Or.inl rfl | exact Or.inr rfl) (pv 3) ip_add))))
      (pss_one (ps_ret (pm0 (pk I_Scene hr (pa_cons pe_int (pa_cons (pe_callTy c_tuple_of (by rfl) Z.ztuple (by decide +kernel) (pa_cons (pv 1) pa_nil)) (pa_cons (pe_op op_repT (pe_tup (pa_cons pe_non pa_nil)) (pe_callB (call_lenO M_Ring___len__ hr) (by rfl) Z.zlen PySem.boot_len (pa_cons (pv 0) pa_nil))) (pa_cons (pe_fld (pv 0) rfl) (pa_cons (pv 2) pa_nil)))))) cl_Scene M_Scene_begun hr))))), ?_⟩
    walk_at "g0"
    walk_at "go"
    rename_i l H1 nl e1 hl
    have ho1 := e1 _ _ ho
    walk_at "go"
    refine g_kForT (ex_t e1 hT) (fun i σ H' => ∃ (sA : Nat → Addr) (v3 : Option V), σ = [some (.ref r), some (.ref l), some (.int (hs.take i).sum), v3] ∧ Ex H H' ∧ H' l = some (.lst (stV i sA)) ∧ ∀ j, j < i → SqT K H' (sA j) ((firstSt hs j).map V.int))
      ⟨fun _ => 0, _, rfl, e1, hl, fun j hj => absurd hj (Nat.not_lt_zero j)⟩ (fun i σ H' _ hP => by
        obtain ⟨_, _, _, e, _⟩ := hP
        exact ex_t e hT) ?_ ?_
    · rintro i x σ H2 hx ⟨sA, v3, rfl, e2, h2, hsA⟩
      have hil : i < ds.length := by
        have := (List.getElem?_eq_some_iff.mp hx).1
        rw [List.length_map, O.len] at this
        exact this
      have hB := (O.fH_at hil).2
      rw [(O.fH_at hil).1] at hx
      cases hx
      have htk : 0 ≤ (hs.take i).sum ∧ (hs.take i).sum ≤ 12 := by
        have h1 := first_len nn (k := i) (by rw [O.len]; omega)
        have h2 := (ScW.first0 O).few
        have h3 : sumN i (fun j => (firstSt hs j).length) ≤ sumN ds.length (fun j => (firstSt hs j).length) := by
          have : ∀ (n m : Nat) (f : Nat → Nat), n ≤ m → sumN n f ≤ sumN m f := fun n m f h => by
            induction h with
            | refl => exact Nat.le_refl _
            | step _ ih => rw [sumN_succ]; omega
          exact this _ _ _ (by omega)
        have h4 : sumN ds.length (fun j => (firstSt hs j).length) ≤ 12 := h2
        omega
      walk_at "go"
      refine g_kBM_list (SqL.of h2) ?_
      refine g_rgT ?_
      refine g_rg2 ?_
      walk_at "go"
      refine ⟨_, _, rfl, rfl, g_kTRg (RgOk.of_le (by omega) (by omega) (by omega) (by omega)) fun t3 H3 n3 e3 h3 => ?_⟩
      rw [frng_V] at h3
      walk_at "go"
      refine g_append (e3 _ _ h2) (lt1000 (by rw [stV_len]; omega)) fun H4 e4 h4 => ?_
      have h4' : H4 l = some (.lst (stV (i + 1) (fun j => if j = i then t3 else sA j))) := by
        rw [h4]
        unfold stV
        rw [← mapV_next]
        refine congrArg (fun z => some (HO.lst z)) ?_
        congr 1
        · exact mapV_congr fun j hj => by
            dsimp only
            rw [if_neg (by omega)]
        · simp
      walk_at "go"
      rw [← ftake nn (by rw [O.len]; exact hil)]
      refine ⟨fun j => if j = i then t3 else sA j, _, rfl, Exb.ex nl (e2.trans e3) e4, h4', fun j hj => ?_⟩
      by_cases z : j = i
      · simp only [z, if_true]
        exact exb_t e4 (e3 _ _ h2) (SqT.of h3)
      · simp only [if_neg z]
        exact exb_t e4 (e3 _ _ h2) (ex_t e3 (hsA j (by omega)))
    · rintro σ H2 ⟨sA, v3, rfl, e2, h2, hsA⟩
      rw [List.length_map, O.len] at h2 hsA ⊢
      rw [show hs.take ds.length = hs by rw [← O.len, List.take_length]]
      have ho2 := e2 _ _ ho
      have RI2 := RI.ex e2
      walk_at "go"
      rename_i t3 H3 n3 e3 h3 t4 H4 n4 e4 h4
      refine ⟨t4, (ds.length : Int), [.non], rfl, rfl, SqT.of h4, by simp, by omega, by omega, by simp, fun t5 n5 => ?_⟩
      have e5 : Ex H4 (upd H4 t5 (.tup (List.replicate ((ds.length : Int)).toNat [V.non]).flatten)) := Ex.new n5
      have h5 : upd H4 t5 (.tup (List.replicate ((ds.length : Int)).toNat [V.non]).flatten) t5 = some (.tup (enV ds.length fun _ => none)) := by
        rw [upd_same, Int.toNat_natCast]
        congr 2
        unfold enV
        rw [List.flatten_replicate_singleton, List.map_const', List.length_range]
        rfl
      generalize upd H4 t5 (.tup (List.replicate ((ds.length : Int)).toNat [V.non]).flatten) = H5 at e5 h5
      have ho5 := e5 _ _ (e4 _ _ (e3 _ _ ho2))
      walk_at "go"
      have e35 := (e3.trans e4).trans e5
      have e05 := e2.trans e35
      refine g_mkScene fun x dx' fs' H9 nx e9 hx hf' => ?_
      have SI : ScIn K SC H9 x ds.length (Sc.first0 ds hs) := ⟨dx', fs', t3, t5, a, hx, hf', ⟨sA, ex_t ((e4.trans e5).trans e9) (h3.sq (K := K)), fun j hj => ex_t (e35.trans e9) (hsA j hj)⟩, ex_t e9 (SqT.of h5), by
        have : spV ds.length (fun k => ds.getD k 0) = ds.map V.int := by
          unfold spV
          refine List.ext_getElem? fun j => ?_
          by_cases hj : j < ds.length
          · rw [mapV_at hj, List.getElem?_map, List.getElem?_eq_getElem hj]
            dsimp only
            rw [List.getD_eq_getElem?_getD, List.getElem?_eq_getElem hj]
            rfl
          · rw [List.getElem?_eq_none (by simp; omega), List.getElem?_eq_none (by simp; omega)]
        show SqT K H9 a (spV ds.length fun k => ds.getD k 0)
        rw [this]
        exact ex_t (e05.trans e9) hS⟩
      obtain ⟨_, _, _, _, _, m1, _, _⟩ := hf'
      walk_at "go"
      exact ⟨x, ds.length, Sc.first0 ds hs, rfl, o8, SI, fun a' H10 na e10 SI10 => k a' H10 (fresh_back (e05.trans e9) na) ((e05.trans e9).trans e10) SI10⟩
end
end G48

namespace G48
open PySem PySem.Spec PyProof.Rows L2 Evl
abbrev N__law_begin : List Str := ["_law_h", "_law_k"]
theorem sc__law_begin : FnScope N__law_begin ["_law_h"] (defScope s__law_begin) := ⟨rfl, rfl, rfl, by decide +kernel, rfl, by decide +kernel, by decide +kernel⟩
theorem b__law_begin : BindL "_law_begin" "_law_begin" s__law_begin ["_law_h"] := fun _ _ _ _ _ _ us hl => match us, hl with | [_], _ => rfl
end G48
/-! an own ring, a dict: any scene -/
namespace G48
open PySem PySem.Spec PyProof.Rows L2 Evl
/-! the steps -/
local macro_rules | `(tactic| walk_at "as") => `(tactic| with_reducible assumption)
local macro_rules | `(tactic| walk_at "hp") => `(tactic| first
  | with_reducible assumption
  | ((with_reducible apply SqT.of); walk_at "as")
  | ((with_reducible apply SqL.of); walk_at "as")
  | ((with_reducible apply ex_at); (focus walk_at "as"); walk_at "hp")
  | ((with_reducible apply ex_t); (focus walk_at "as"); walk_at "hp")
  | ((with_reducible apply ex_l); (focus walk_at "as"); walk_at "hp")
  | ((with_reducible apply exb_ins); (focus walk_at "as"); (focus walk_at "hp"); walk_at "hp")
  | ((with_reducible apply exb_t); (focus walk_at "as"); (focus walk_at "hp"); walk_at "hp")
  | ((with_reducible apply exb_at); (focus walk_at "as"); (focus walk_at "ne"); walk_at "hp")
  | ((with_reducible apply exb_l); (focus walk_at "as"); (focus walk_at "ne"); walk_at "hp"))
local macro_rules | `(tactic| walk_at "ne") => `(tactic| first
  | with_reducible assumption
  | exact Ne.symm (by with_reducible assumption)
  | exact ne_of_none (by with_reducible assumption) (by with_reducible assumption)
  | exact Ne.symm (ne_of_none (by with_reducible assumption) (by with_reducible assumption)))
local macro_rules | `(tactic| walk_at "tr") => `(tactic| first
  | rfl
  | with_reducible assumption
  | exact decide_eq_true (by first | with_reducible assumption | omega)
  | exact decide_eq_false (by first | with_reducible assumption | omega)
  | (rw [Bool.not_eq_true']; exact decide_eq_false (by first | with_reducible assumption | omega))
  | (rw [Bool.not_eq_false']; exact decide_eq_true (by first | with_reducible assumption | omega)))
local macro_rules | `(tactic| walk_at "nn") => `(tactic| first | with_reducible assumption | (exact List.cons_ne_nil _ _))
local macro_rules | `(tactic| walk_at "sz") => `(tactic| first | (exact sz1000 (Nat.le_of_ble_eq_true rfl)) | (refine sz1000 ?_; simp only [List.length_map, List.length_cons, List.length_nil, List.length_append]; omega) | with_reducible assumption)
local macro_rules | `(tactic| walk_at "sl") => `(tactic| first | with_reducible assumption | (refine lt1000 ?_; simp only [List.length_map, List.length_cons, List.length_nil, List.length_append]; omega) | (refine lt1000 ?_; omega))
local macro_rules | `(tactic| walk_at "ix") => `(tactic| first | rfl | with_reducible assumption)
local macro_rules | `(tactic| walk_at "rg") => `(tactic| exact RgOk.of_le (by omega) (by omega) (by omega) (by omega))
local macro_rules | `(tactic| walk_at "sp") => `(tactic| fail "sp")
local macro_rules | `(tactic| walk_at "cl") => `(tactic| with_reducible assumption)
local macro_rules | `(tactic| walk_at "lk") => `(tactic| with_reducible assumption)
local macro_rules | `(tactic| walk_at "it") => `(tactic| first | rfl | with_reducible assumption | exact atI_nat (by with_reducible assumption))
local macro_rules | `(tactic| walk_at "g1") => `(tactic| first
  | (with_reducible apply g_var); (focus rfl)
  | with_reducible apply g_c
  | with_reducible apply g_seq
  | with_reducible apply g_asg
  | with_reducible apply gg_name
  | with_reducible apply g_op
  | with_reducible apply g_cons
  | with_reducible apply g_nil
  | with_reducible apply g_cb
  | with_reducible apply g_fld
  | ((with_reducible apply g_kFld); (focus walk_at "hp"); (focus walk_at "cl"); (focus walk_at "cl"); (focus walk_at "lk"))
  | with_reducible apply g_call
  | walk_at "sp"
  | with_reducible apply g_ret
  | with_reducible apply g_drop
  | with_reducible apply g_test
  | with_reducible apply g_B
  | with_reducible apply g_kTest
  | with_reducible apply g_ifS
  | with_reducible apply g_kIfST
  | with_reducible apply g_kIfSF
  | with_reducible apply g_add
  | with_reducible apply g_sub
  | with_reducible apply g_lt
  | with_reducible apply g_le
  | with_reducible apply g_gt
  | with_reducible apply g_ge
  | with_reducible apply g_eqI
  | with_reducible apply g_neI
  | ((with_reducible apply g_mod); (focus first | decide | omega))
  | ((with_reducible apply g_mul); (focus first | (left; constructor <;> omega) | (right; constructor <;> omega)))
  | ((with_reducible apply g_fdiv); (focus (constructor <;> omega)))
  | ((with_reducible apply g_ixT); (focus walk_at "hp"); (focus walk_at "it"))
  | ((with_reducible apply g_ixL); (focus walk_at "hp"); (focus walk_at "it"))
  | with_reducible apply g_and
  | with_reducible apply g_or
  | with_reducible apply g_not
  | with_reducible apply g_kNotT
  | with_reducible apply g_kNotF
  | with_reducible apply g_if
  | with_reducible apply g_kAndT
  | with_reducible apply g_kAndF
  | with_reducible apply g_kOrT
  | with_reducible apply g_kOrF
  | with_reducible apply g_kIfT
  | with_reducible apply g_kIfF
  | with_reducible apply g_next
  | with_reducible apply g_andV
  | with_reducible apply g_orV
  | with_reducible apply g_notV
  | with_reducible apply g_kNotV
  | with_reducible apply g_kAndVT
  | with_reducible apply g_kAndVF
  | with_reducible apply g_chain
  | with_reducible apply g_kChainT
  | with_reducible apply g_kChainF
  | with_reducible apply g_tup
  | with_reducible apply g_lst
  | ((with_reducible apply g_kT); (focus walk_at "sz"); intro _ _ _ _ _)
  | ((with_reducible apply g_kL); (focus walk_at "sz"); intro _ _ _ _ _)
  | with_reducible apply g_un
  | with_reducible apply g_neg
  | with_reducible apply g_meth
  | ((with_reducible apply g_kMeth); (focus walk_at "hp"); (focus walk_at "lk"))
  | with_reducible apply g_prop
  | ((with_reducible apply g_kProp); (focus walk_at "hp"))
  | with_reducible apply g_make
  | with_reducible apply g_par
  | with_reducible apply g_kPar
  | ((with_reducible apply g_lenLM); (focus walk_at "hp"))
  | ((with_reducible apply g_lenTM); (focus walk_at "hp"))
  | ((with_reducible apply g_lenL); (focus walk_at "hp"))
  | ((with_reducible apply g_lenT); (focus walk_at "hp"))
  | with_reducible apply g_int1
  | with_reducible apply g_max2
  | with_reducible apply g_min2
  | ((with_reducible apply g_listL); (focus walk_at "hp"); intro _ _ _ _ _)
  | ((with_reducible apply g_listT); (focus walk_at "hp"); intro _ _ _ _ _)
  | ((with_reducible apply g_tupL); (focus walk_at "hp"); intro _ _ _ _ _)
  | ((with_reducible apply g_sum); (focus walk_at "hp"))
  | with_reducible apply g_sfld
  | with_reducible apply g_sl
  | with_reducible apply g_nopart
  | with_reducible apply g_part
  | with_reducible apply g_kPart
  | with_reducible apply g_lstRg
  | with_reducible apply g_rg1
  | with_reducible apply g_kRg1
  | with_reducible apply g_bm
  | with_reducible apply gg_sub
  | ((with_reducible apply gg_tup); (focus walk_at "hp"); (focus rfl))
  | with_reducible apply gg_cons
  | with_reducible apply gg_nil
  | with_reducible apply g_forL
  | with_reducible apply g_forT
  | with_reducible apply g_forR1
  | with_reducible apply g_forR2
  | with_reducible apply g_forE
  | with_reducible apply g_forEL
  | ((with_reducible apply g_maxT); (focus walk_at "hp"); (focus walk_at "nn"))
  | ((with_reducible apply g_maxL); (focus walk_at "hp"); (focus walk_at "nn"))
  | ((with_reducible apply g_catA); (focus walk_at "hp"); (focus walk_at "hp"); (focus walk_at "sz"); intro _ _ _ _)
  | ((with_reducible apply g_slA); (focus walk_at "hp"); intro _ _ _ _)
  | ((with_reducible apply g_tupD); (focus walk_at "hp"); intro _ _ _ _ _)
  | ((with_reducible apply g_setL); (focus walk_at "hp"); (focus walk_at "ix"); intro _ _ _)
  | ((with_reducible apply g_append); (focus walk_at "hp"); (focus walk_at "sl"); intro _ _ _)
  | ((with_reducible apply g_aug); (focus rfl))
  | with_reducible apply g_ipI
  | with_reducible apply g_retN
  | with_reducible apply g_lcR1
  | with_reducible apply g_lcR2
  | with_reducible apply g_lcL
  | with_reducible apply g_lcU
  | with_reducible apply g_lcN
  | ((with_reducible apply g_kLcG); (focus rfl))
  | with_reducible apply g_yes
  | with_reducible apply g_kLcTT
  | with_reducible apply g_kLcTF
  | ((with_reducible apply g_kLcE); (focus walk_at "hp"); (focus walk_at "sl"); intro _ _ _)
  | ((with_reducible apply g_pow); (focus (constructor <;> (try constructor) <;> decide)))
  | ((with_reducible apply g_kLRg); (focus walk_at "rg"); intro _ _ _ _ _)
  | ((with_reducible apply g_cat); (focus walk_at "hp"); (focus walk_at "hp"); (focus walk_at "sz"); intro _ _ _ _ _)
  | ((with_reducible apply g_slL); (focus walk_at "hp"); intro _ _ _ _ _)
  | with_reducible apply g_bmT
  | with_reducible apply g_break
  | with_reducible apply g_cont)
local macro_rules | `(tactic| walk_at "g0") => `(tactic| try dsimp only [L2.cxOf, L2.Cx.nox, L2.Cx.wish])
local macro_rules | `(tactic| walk_at "yn") => `(tactic| first
  | ((with_reducible apply y_kIfS); (focus walk_at "tr"))
  | ((with_reducible apply n_kIfS); (focus walk_at "tr"))
  | ((with_reducible apply y_kOr); (focus walk_at "tr"))
  | ((with_reducible apply n_kOr); (focus walk_at "tr"))
  | ((with_reducible apply y_kAnd); (focus walk_at "tr"))
  | ((with_reducible apply n_kAnd); (focus walk_at "tr"))
  | ((with_reducible apply y_kNot); (focus walk_at "tr"))
  | ((with_reducible apply n_kNot); (focus walk_at "tr"))
  | ((with_reducible apply y_kIf); (focus walk_at "tr"))
  | ((with_reducible apply n_kIf); (focus walk_at "tr"))
  | ((with_reducible apply y_kAndV); (focus walk_at "tr"))
  | ((with_reducible apply n_kAndV); (focus walk_at "tr"))
  | ((with_reducible apply y_kOrV); (focus walk_at "tr"))
  | ((with_reducible apply n_kOrV); (focus walk_at "tr"))
  | ((with_reducible apply y_kChain); (focus walk_at "tr"))
  | ((with_reducible apply n_kChain); (focus walk_at "tr"))
  | ((with_reducible apply y_kLcT); (focus walk_at "tr"))
  | ((with_reducible apply n_kLcT); (focus walk_at "tr"))
  | ((with_reducible apply y_kWh); (focus walk_at "tr"))
  | ((with_reducible apply n_kWh); (focus walk_at "tr")))
local macro_rules | `(tactic| walk_at "go") => `(tactic| repeat (first | walk_at "g1" | walk_at "yn"))
local macro_rules | `(tactic| walk_at "hp") => `(tactic| first
  | ((with_reducible apply RingIn.ex); (focus walk_at "as"); walk_at "hp")
  | ((with_reducible apply RingAt.ex); (focus walk_at "as"); walk_at "hp")
  | ((with_reducible apply RingIn.exb); (focus walk_at "as"); (focus walk_at "hp"); walk_at "hp")
  | ((with_reducible apply RingAt.exb); (focus walk_at "as"); (focus walk_at "hp"); walk_at "hp")
  | ((with_reducible apply TupK.ex); (focus walk_at "as"); walk_at "hp")
  | ((with_reducible apply TupK.exb); (focus walk_at "as"); (focus walk_at "hp"); walk_at "hp"))
local macro_rules | `(tactic| walk_at "lk") => `(tactic| first | with_reducible exact rf_spans | with_reducible exact rf_heaps | with_reducible exact rf_total | with_reducible exact rf_nr | with_reducible exact rf_wd)
local macro_rules | `(tactic| walk_at "sp") => `(tactic| first
  | ((with_reducible apply g_isiTup); (focus walk_at "hp"))
  | ((with_reducible apply g_isiLst); (focus walk_at "hp"))
  | ((with_reducible apply g_isint); (focus omega); (focus omega))
  | ((with_reducible apply g_checkn); (focus omega); (focus omega))
  | ((with_reducible apply g_rbooks); (focus walk_at "hp"))
  | ((with_reducible apply g_rpace); (focus walk_at "hp"); intro _ _ _ _)
  | ((with_reducible apply g_rlen); (focus walk_at "hp"))
  | ((with_reducible apply g_rneed); (focus walk_at "hp"); (focus omega))
  | ((with_reducible apply g_rneedM); (focus walk_at "hp"))
  | ((with_reducible apply g_rwithM); (focus walk_at "hp"))
  | ((with_reducible apply g_rspans); (focus walk_at "hp"); (focus with_reducible assumption))
  | ((with_reducible apply g_rheaps); (focus walk_at "hp"); (focus with_reducible assumption))
  | ((with_reducible apply g_rtotal); (focus walk_at "hp"); (focus with_reducible assumption)))

def kvH (da hp rd : Addr) (t nx : Int) : List (Key × V) := [(.inr "days", .ref da), (.inr "heaps", .ref hp), (.inr "reading", .ref rd), (.inr "today", .int t), (.inr "next", .int nx)]
def kDGet (Q : VK) (x : V) : VK := fun y H2 => ∃ a v, x = .ref a ∧ DGet H2 a y (some v) ∧ Q v H2
theorem g_dget {td ty : TE} {σ : L2.St} {H : Hp} {Q : VK} (q : td σ H fun x H1 => ty σ H1 (kDGet Q x)) : tDGet td ty σ H Q := q
theorem g_kDGet {H : Hp} {Q : VK} {h : Addr} {kvs : List (Key × V)} {f : Str} {v : V} (e : H h = some (.dK kvs)) (l : valV kvs (.inr f) = some v) (q : Q v H) : kDGet Q (.ref h) (.str f) H := ⟨h, v, rfl, by rw [← l]; exact DGet.k (k := .inr f) e, q⟩
section
variable {da hp rd : Addr} {t nx : Int}
theorem kv_days : valV (kvH da hp rd t nx) (.inr "days") = some (.ref da) := by rfl
theorem kv_heaps : valV (kvH da hp rd t nx) (.inr "heaps") = some (.ref hp) := by rfl
theorem kv_reading : valV (kvH da hp rd t nx) (.inr "reading") = some (.ref rd) := by rfl
theorem kv_today : valV (kvH da hp rd t nx) (.inr "today") = some (.int t) := by rfl
theorem kv_next : valV (kvH da hp rd t nx) (.inr "next") = some (.int nx) := by rfl
theorem kv_put {u : Int} : putK (kvH da hp rd t nx) (.inr "today") (.int u) = kvH da hp rd u nx := by rfl
theorem kv_putn {u : Int} : putK (kvH da hp rd t nx) (.inr "next") (.int u) = kvH da hp rd t u := by rfl
end
local macro_rules | `(tactic| walk_at "lk") => `(tactic| first | with_reducible exact kv_days | with_reducible exact kv_heaps | with_reducible exact kv_reading | with_reducible exact kv_today | with_reducible exact kv_next)
local macro_rules | `(tactic| walk_at "g1") => `(tactic| first
  | with_reducible apply g_dget
  | ((with_reducible apply g_kDGet); (focus walk_at "hp"); (focus walk_at "lk")))

def hpS (s : Sc) (k : Nat) : List Int := if s.en k = none then s.st k else (s.st k).tail
def RdB (K : PySem.W.Frag) (H : Hp) (x : V) (o : Option Int) (l : List Int) : Prop := (x = .non ∧ o = none) ∨ ∃ (e : Int) (p : Addr), o = some e ∧ x = .ref p ∧ SqT K H p [.int (l.headD 0), .int e]
theorem RdB.exs {K : PySem.W.Frag} {H H' : Hp} {S : List Addr} (e : Exs S H H') (hS : ∀ l ∈ S, ∃ ys, H l = some (.lst ys)) {x : V} {o : Option Int} {l : List Int} (h : RdB K H x o l) : RdB K H' x o l := by
  rcases h with h | ⟨i, p, h1, h2, h3⟩
  · exact .inl h
  · exact .inr ⟨i, p, h1, h2, exs_t e hS h3⟩
/-- the own ring at h: the scene s -/
structure DG (K : PySem.W.Frag) (H : Hp) (h da hp rd : Addr) (hA : Nat → Addr) (N : Nat) (s : Sc) : Prop where
  dict : H h = some (.dK (kvH da hp rd s.day s.nb))
  days : H da = some (.lst (spV N s.sp))
  Hh : H hp = some (.lst (stV N hA))
  Hr : ∃ rv, H rd = some (.lst rv) ∧ rv.length = N ∧ ∀ j, j < N → ∃ x, rv[j]? = some x ∧ RdB K H x (s.en j) (s.st j)
  heap : ∀ j, j < N → H (hA j) = some (.lst ((hpS s j).map V.int))
  nh : ∀ i j, i < N → j < N → hA i = hA j → i = j
  nhp : ∀ j, j < N → hA j ≠ hp ∧ hA j ≠ rd ∧ hA j ≠ da
  np : hp ≠ rd ∧ hp ≠ da ∧ rd ≠ da
/-- all but the own ring's parts stand -/
def Frm (h rd : Addr) (hA : Nat → Addr) (N : Nat) (H H' : Hp) : Prop := ∀ b o, b ≠ h → b ≠ rd → (∀ j, j < N → b ≠ hA j) → H b = some o → H' b = some o
section
variable {K : PySem.W.Frag} {C SC : Addr} {H H' : Hp} {h da hp rd : Addr} {hA : Nat → Addr} {N : Nat} {s s' : Sc}
theorem Frm.of (e : Ex H H') : Frm h rd hA N H H' := fun b o _ _ _ z => e b o z
theorem Frm.trans {H1 : Hp} (e : Frm h rd hA N H H1) (e2 : Frm h rd hA N H1 H') : Frm h rd hA N H H' := fun b o x y w z => e2 b o x y w (e b o x y w z)
theorem Frm.ofS {k : Nat} (hk : k < N) (e : Exs [hA k, rd] H H') : Frm h rd hA N H H' := fun b o x y w z => e b o (fun q => by
  rcases List.mem_cons.mp q with q | q
  · exact w k hk q
  · exact y (List.mem_singleton.mp q)) z
theorem Frm.exb {l : Addr} {H1 : Hp} (hl : H l = none) (f : Frm h rd hA N H H1) (e : Exb l H1 H') : Frm h rd hA N H H' := fun b o x y w z => e b o (fun q => by rw [q, hl] at z; cases z) (f b o x y w z)
theorem DG.congr (hd : s'.day = s.day) (hn : s'.nb = s.nb) (h1 : ∀ j, j < N → s'.st j = s.st j) (h2 : ∀ j, j < N → s'.en j = s.en j) (h3 : ∀ j, j < N → s'.sp j = s.sp j) (P : DG K H h da hp rd hA N s) : DG K H h da hp rd hA N s' where
  dict := by rw [hd, hn]; exact P.dict
  days := by
    rw [show spV N s'.sp = spV N s.sp from mapV_congr fun j hj => by rw [h3 j hj]]
    exact P.days
  Hh := P.Hh
  Hr := let ⟨rv, a, b, c⟩ := P.Hr; ⟨rv, a, b, fun j hj => let ⟨x, y, z⟩ := c j hj; ⟨x, y, by rw [h1 j hj, h2 j hj]; exact z⟩⟩
  heap := fun j hj => by
    have : hpS s' j = hpS s j := by unfold hpS; rw [h1 j hj, h2 j hj]
    rw [this]
    exact P.heap j hj
  nh := P.nh
  nhp := P.nhp
  np := P.np
theorem DG.lists (P : DG K H h da hp rd hA N s) {i : Nat} (hi : i < N) : ∀ l ∈ [hA i, rd], ∃ ys, H l = some (.lst ys) := fun l hl => by
  rcases List.mem_cons.mp hl with rfl | hl
  · exact ⟨_, P.heap i hi⟩
  · rw [List.mem_singleton.mp hl]
    obtain ⟨vs, z, _⟩ := P.Hr
    exact ⟨vs, z⟩
theorem DG.step (P : DG K H h da hp rd hA N s) {i : Nat} (hi : i < N) (e : Exs [hA i, rd] H H') (h1 : H' (hA i) = some (.lst ((hpS s' i).map V.int))) (h2 : ∃ rv, H' rd = some (.lst rv) ∧ rv.length = N ∧ ∀ j, j < N → ∃ x, rv[j]? = some x ∧ RdB K H' x (s'.en j) (s'.st j))
    (h3 : s'.day = s.day ∧ s'.nb = s.nb ∧ s'.sp = s.sp) (h4 : ∀ j, j < N → j ≠ i → hpS s' j = hpS s j) : DG K H' h da hp rd hA N s' := by
  have hS := P.lists hi
  have ni : ∀ x, x ≠ hA i → x ≠ rd → x ∉ [hA i, rd] := fun x a b z => by
    rcases List.mem_cons.mp z with z | z
    · exact a z
    · exact b (List.mem_singleton.mp z)
  refine ⟨?_, ?_, e _ _ (ni _ (Ne.symm (P.nhp i hi).1) P.np.1) P.Hh, h2, fun j hj => ?_, P.nh, P.nhp, P.np⟩
  · rw [h3.1, h3.2.1]
    refine e _ _ (fun z => ?_) P.dict
    obtain ⟨ys, hy⟩ := hS _ z
    rw [P.dict] at hy
    cases hy
  · rw [h3.2.2]
    exact e _ _ (ni _ (Ne.symm (P.nhp i hi).2.2) (Ne.symm P.np.2.2)) P.days
  · by_cases z : j = i
    · rw [z]; exact h1
    · rw [h4 j hj z]
      exact e _ _ (ni _ (fun y => z (P.nh _ _ hj hi y)) (P.nhp j hj).2.1) (P.heap j hj)
theorem DG.exs {S : List Addr} (P : DG K H h da hp rd hA N s) (e : Exs S H H') (hS : ∀ l ∈ S, ∃ ys, H l = some (.lst ys)) (n1 : ∀ l ∈ S, l ≠ da ∧ l ≠ hp ∧ l ≠ rd ∧ ∀ j, j < N → hA j ≠ l) : DG K H' h da hp rd hA N s := by
  refine ⟨e _ _ (fun z => ?_) P.dict, e _ _ (fun z => (n1 _ z).1 rfl) P.days, e _ _ (fun z => (n1 _ z).2.1 rfl) P.Hh, ?_, fun j hj => e _ _ (fun z => (n1 _ z).2.2.2 j hj rfl) (P.heap j hj), P.nh, P.nhp, P.np⟩
  · obtain ⟨ys, hy⟩ := hS _ z
    rw [P.dict] at hy
    cases hy
  · obtain ⟨rv, r1, r2, r3⟩ := P.Hr
    exact ⟨rv, e _ _ (fun z => (n1 _ z).2.2.1 rfl) r1, r2, fun j hj => let ⟨x, x1, x2⟩ := r3 j hj; ⟨x, x1, x2.exs e hS⟩⟩
theorem DG.ex (P : DG K H h da hp rd hA N s) (e : Ex H H') : DG K H' h da hp rd hA N s := P.exs (S := []) (Exs.of e) (fun l hl => by cases hl) fun l hl => by cases hl
theorem DG.exb {l : Addr} {ys : List V} (P : DG K H h da hp rd hA N s) (e : Exb l H H') (hl : H l = some (.lst ys)) (n1 : l ≠ da ∧ l ≠ hp ∧ l ≠ rd ∧ ∀ j, j < N → hA j ≠ l) : DG K H' h da hp rd hA N s :=
  P.exs (S := [l]) (Exs.ofb List.mem_cons_self e) (fun x hx => by rw [List.mem_singleton.mp hx]; exact ⟨ys, hl⟩) fun x hx => by rw [List.mem_singleton.mp hx]; exact n1
/-- what was not there is none of the ring's parts -/
theorem DG.fresh (P : DG K H h da hp rd hA N s) {l : Addr} (nl : H l = none) : l ≠ h ∧ l ≠ da ∧ l ≠ hp ∧ l ≠ rd ∧ ∀ j, j < N → hA j ≠ l := by
  obtain ⟨rv, r1, _⟩ := P.Hr
  refine ⟨fun z => ?_, fun z => ?_, fun z => ?_, fun z => ?_, fun j hj z => ?_⟩
  · rw [z, P.dict] at nl; cases nl
  · rw [z, P.days] at nl; cases nl
  · rw [z, P.Hh] at nl; cases nl
  · rw [z, r1] at nl; cases nl
  · rw [← z, P.heap j hj] at nl; cases nl
theorem DG.at_h {j : Nat} (hj : j < N) : (stV N hA)[j]? = some (.ref (hA j)) := mapV_at hj
theorem DG.at_d {sp : Nat → Int} {j : Nat} (hj : j < N) : (spV N sp)[j]? = some (.int (sp j)) := mapV_at hj
/-- what is no list and no dict stands -/
theorem DG.keep (P : DG K H h da hp rd hA N s) (e : Frm h rd hA N H H') {b : Addr} {o : HO} (ho : H b = some o) (n1 : ∀ ys, o ≠ .lst ys) (n2 : ∀ ys, o ≠ .dK ys) : H' b = some o := by
  refine e b o (fun z => ?_) (fun z => ?_) (fun j hj z => ?_) ho
  · rw [z, P.dict] at ho
    exact n2 _ (Option.some.inj ho).symm
  · obtain ⟨rv, r1, _⟩ := P.Hr
    rw [z, r1] at ho
    exact n1 _ (Option.some.inj ho).symm
  · rw [z, P.heap j hj] at ho
    exact n1 _ (Option.some.inj ho).symm
theorem DG.tup (P : DG K H h da hp rd hA N s) (e : Frm h rd hA N H H') {b : Addr} {xs : List V} (hb : SqT K H b xs) : SqT K H' b xs := by
  rcases hb with (hb | ⟨o, hb⟩) | hb
  · exact .inl (.inl (P.keep e hb (fun ys z => by cases z) fun ys z => by cases z))
  · exact .inl (.inr ⟨o, P.keep e hb (fun ys z => by cases z) fun ys z => by cases z⟩)
  · exact .inr hb
theorem DG.ins (P : DG K H h da hp rd hA N s) (e : Frm h rd hA N H H') {b X dx : Addr} {fs : List (Str × V)} (hb : H b = some (.ins X dx fs)) : H' b = some (.ins X dx fs) := P.keep e hb (fun ys z => by cases z) fun ys z => by cases z
theorem DG.ring (P : DG K H h da hp rd hA N s) (e : Frm h rd hA N H H') {r b1 b2 : Addr} {es fs : List Int} (R : RingIn K C H r b1 b2 es fs) : RingIn K C H' r b1 b2 es fs :=
  ⟨let ⟨dx, ho⟩ := R.obj; ⟨dx, P.ins e ho⟩, P.tup e R.sp, P.tup e R.hp, R.ok⟩
theorem DG.ent (P : DG K H h da hp rd hA N s) (e : Frm h rd hA N H H') {zs : List V} {es : List (Int × Int × Int)} (E : Ent K H zs es) : Ent K H' zs es := ⟨E.1, fun m x hx => let ⟨p, h1, h2⟩ := E.2 m x hx; ⟨p, h1, P.tup e h2⟩⟩
theorem DG.today {t nx : Int} (P : DG K H h da hp rd hA N s) : DG K (upd H h (.dK (kvH da hp rd t nx))) h da hp rd hA N { s with day := t, nb := nx } := by
  have ne : ∀ {x : Addr} {ys : List V}, H x = some (.lst ys) → x ≠ h := fun hx z => by rw [z, P.dict] at hx; cases hx
  have tp : ∀ {b : Addr} {xs : List V}, SqT K H b xs → SqT K (upd H h (.dK (kvH da hp rd t nx))) b xs := fun {b xs} hb => by
    have nn : ∀ {o : HO}, H b = some o → (∀ ys, o ≠ .dK ys) → upd H h (.dK (kvH da hp rd t nx)) b = some o := fun {o} ho n2 => by
      rw [upd_ne (fun z => n2 _ (by rw [z, P.dict] at ho; exact (Option.some.inj ho).symm))]
      exact ho
    rcases hb with (hb | ⟨o, hb⟩) | hb
    · exact .inl (.inl (nn hb fun ys z => by cases z))
    · exact .inl (.inr ⟨o, nn hb fun ys z => by cases z⟩)
    · exact .inr hb
  refine ⟨upd_same, by rw [upd_ne (ne P.days)]; exact P.days, by rw [upd_ne (ne P.Hh)]; exact P.Hh, ?_, fun j hj => by rw [upd_ne (ne (P.heap j hj))]; exact P.heap j hj, P.nh, P.nhp, P.np⟩
  obtain ⟨rv, r1, r2, r3⟩ := P.Hr
  refine ⟨rv, by rw [upd_ne (ne r1)]; exact r1, r2, fun j hj => ?_⟩
  obtain ⟨x, x1, x2⟩ := r3 j hj
  refine ⟨x, x1, ?_⟩
  rcases x2 with x2 | ⟨i, p, x2, x3, x4⟩
  · exact .inl x2
  · exact .inr ⟨i, p, x2, x3, tp x4⟩
end
section
variable {P : Program} {w : World} {K : PySem.W.Frag} {mg : Str → Option Value} {base : Heap} {C SC : Addr}
def sp_begin (K : PySem.W.Frag) : Sp := fun vs H Q _ => ∃ (h da hp rd : Addr) (hA : Nat → Addr) (N : Nat) (s : Sc), vs = [.ref h] ∧ N ≤ 8 ∧ DG K H h da hp rd hA N s ∧
  ∀ H', Frm h rd hA N H H' → DG K H' h da hp rd hA N s.begun → Q .non H'
set_option maxHeartbeats 16000000 in
theorem ok_begin (Z : Blt mg) (G : GFun K mg "_law_begin" s__law_begin) : Df P w K mg base 1 "_law_begin" ["_law_h"] (sp_begin K) := by
  refine Df.of G sc__law_begin b__law_begin (fun vs H Q E h => ?_) (fun f cdv A outer st H vs Q E hr h => ?_)
  · obtain ⟨h, da, hp, rd, hA, N, s, rfl, _⟩ := h
    rfl
  · obtain ⟨h, da, hp, rd, hA, N, s, rfl, o8, P0, q⟩ := h
    have hd0 := P0.dict
    have hda0 := P0.days
    have hln := spV_len (N := N) (sp := s.sp)
    refine ⟨_, PSs.nox (pss_one (ps_for PassesOwn.never rfl (pi_range1 (by rfl) Z.zrange (pa_cons (pe_callB c_len (by rfl) Z.zlen PySem.boot_len (pa_cons (pe_dget (u1 hr) (pv 0) pe_str (fun _ _ => rfl)) pa_nil)) pa_nil)) (pg_name (i := 1) sc__law_begin.nd rfl (by first | exact Or.inl rfl | exact Or.inr rfl)) (pss_one (ps_if (PW.pt (pw_and (pt_cmpR op_isN (pe_ix ix_list (pe_dget (u1 hr) (pv 0) pe_str (fun _ _ => rfl)) (pv 1) (fun _ _ => rfl)) pe_non (nomark _)) (pw_and1 (pt_cmpR (op_neD hr.units) (pe_ix ix_list (pe_dget (u1 hr) (pv 0) pe_str (fun _ _ => rfl)) (pv 1) (fun _ _ => rfl)) (pe_lst pa_nil) (nomark _))))) (pss_one (ps_asg (pe_tup (pa_cons (pe_bm PySem.F.plainAttrs_list PySem.F.slot_list_pop PySem.F.type_list_pop mt_popAt (pe_ix ix_list (pe_dget (u1 hr) (pv 0) pe_str (fun _ _ => rfl)) (pv 1) (fun _ _ => rfl)) (pa_cons pe_int pa_nil)) (pa_cons (pe_op op_add (pe_dget (u1 hr) (pv 0) pe_str (fun _ _ => rfl)) (pe_ix ix_list (pe_dget (u1 hr) (pv 0) pe_str (fun _ _ => rfl)) (pv 1) (fun _ _ => rfl))) pa_nil))) (pg_sub (pe_dget (u1 hr) (pv 0) pe_str (fun _ _ => rfl)) (pv 1) set_list))) pss_nil)))), ?_⟩
    walk_at "g0"
    walk_at "go"
    let mix : Nat → Sc := fun k => { s with en := fun j => if j < k then s.begun.en j else s.en j }
    rw [hln]
    refine g_kForR1 ⟨by omega, by omega⟩ (fun k σ H' => ∃ (v1 : Option V), σ = [some (.ref h), v1] ∧ Frm h rd hA N H H' ∧ DG K H' h da hp rd hA N (mix k))
      ⟨_, rfl, Frm.of (Ex.refl _), P0.congr rfl rfl (fun _ _ => rfl) (fun j _ => (if_neg (Nat.not_lt_zero j) : (if j < 0 then s.begun.en j else s.en j) = s.en j)) fun _ _ => rfl⟩ ?_ ?_
    · rintro k σ H1 hk ⟨v1, rfl, f1, P1⟩
      have hkl : k < N := by omega
      have hd1 := P1.dict
      have hda1 := P1.days
      have hh1 := P1.Hh
      have hhk := DG.at_h (hA := hA) hkl
      have hdk := DG.at_d (sp := s.sp) hkl
      have hp1 := P1.heap k hkl
      obtain ⟨rv, r1, r2, r3⟩ := P1.Hr
      obtain ⟨x, hx, hread⟩ := r3 k hkl
      have ek : (mix k).en k = s.en k := if_neg (Nat.lt_irrefl k)
      rw [ek] at hread
      have same : s.begun.en k = s.en k → DG K H1 h da hp rd hA N (mix (k + 1)) := fun hse => P1.congr (s := mix k) (s' := mix (k + 1)) rfl rfl (fun _ _ => rfl) (fun j hj => by
        show (if j < k + 1 then s.begun.en j else s.en j) = if j < k then s.begun.en j else s.en j
        by_cases z : j < k
        · rw [if_pos z, if_pos (by omega)]
        · by_cases y : j = k
          · rw [if_pos (by omega), if_neg z, y, hse]
          · rw [if_neg (by omega), if_neg z]) fun _ _ => rfl
      rcases hread with ⟨rfl, hen⟩ | ⟨e, p, hen, rfl, hpp⟩
      · have hpe : hpS (mix k) k = s.st k := by unfold hpS; rw [ek, if_pos hen]
        rw [hpe] at hp1
        walk_at "go"
        refine ⟨rfl, ?_⟩
        rw [dec_nn]
        walk_at "go"
        rename_i l2 H2 n2 e2 h2
        refine g_neLI (ys := []) (SqL.of (e2 _ _ hp1)) (SqL.of h2) ?_
        by_cases hz : s.st k = []
        · rw [decide_eq_true hz]
          walk_at "go"
          exact ⟨_, rfl, f1.trans (Frm.of e2), (same (if_neg fun z => z.2 hz)).ex e2⟩
        · obtain ⟨b, t, hb⟩ := List.exists_cons_of_ne_nil hz
          have hbe : s.begun.en k = some (s.day + s.sp k) := if_pos ⟨hen, hz⟩
          rw [decide_eq_false hz]
          rw [hb] at hp1
          have hd2 := e2 _ _ hd1
          have hda2 := e2 _ _ hda1
          have hh2 := e2 _ _ hh1
          have hp2 := e2 _ _ hp1
          have r12 := e2 _ _ r1
          walk_at "go"
          refine g_kBM_list (SqL.of hp2) ?_
          walk_at "go"
          have e3 : Exb (hA k) H2 (upd H2 (hA k) (.lst (t.map V.int))) := Exb.upd
          have h3 : upd H2 (hA k) (.lst (t.map V.int)) (hA k) = some (.lst (t.map V.int)) := upd_same
          refine ⟨hA k, _, 0, 0, .int b, rfl, rfl, hp2, by decide, by decide, by simp [seqIndex?], rfl, ?_⟩
          have ei : List.eraseIdx ((b :: t).map V.int) 0 = t.map V.int := rfl
          rw [ei]
          generalize upd H2 (hA k) (.lst (t.map V.int)) = H3 at *
          have hd3 := e3 _ _ (fun z => by rw [z, hp2] at hd2; cases hd2) hd2
          have hda3 := e3 _ _ (Ne.symm (P1.nhp k hkl).2.2) hda2
          have r13 := e3 _ _ (Ne.symm (P1.nhp k hkl).2.1) r12
          have hix : ixN rv.length (k : Int) = some k := by
            unfold ixN
            rw [if_pos (by omega), if_pos (by omega), Int.toNat_natCast]
          walk_at "go"
          rename_i q4 H4 n4 e4 h4 H5 e5 h5
          have hS := P1.lists hkl
          have eS : Exs [hA k, rd] H1 H5 := (((Exs.of e2).trans (Exs.ofb List.mem_cons_self e3)).trans (Exs.of e4)).trans (Exs.ofb (List.mem_cons_of_mem _ List.mem_cons_self) e5)
          have nq : q4 ≠ rd := Ne.symm (ne_of_none r13 n4)
          have hq5 := SqT.of (K := K) (e5 _ _ nq h4)
          have ek1 : (mix (k + 1)).en k = some (s.day + s.sp k) := (if_pos (Nat.lt_succ_self k)).trans hbe
          have eo : ∀ j, j ≠ k → (mix (k + 1)).en j = (mix k).en j := fun j z => by
            show (if j < k + 1 then s.begun.en j else s.en j) = if j < k then s.begun.en j else s.en j
            by_cases y : j < k
            · rw [if_pos y, if_pos (by omega)]
            · rw [if_neg y, if_neg (by omega)]
          refine ⟨_, rfl, f1.trans (Frm.ofS hkl eS), P1.step (s' := mix (k + 1)) hkl eS ?_ ⟨_, h5, by rw [List.length_set]; exact r2, fun j hj => ?_⟩ ⟨rfl, rfl, rfl⟩ fun j hj hne => ?_⟩
          · have : hpS (mix (k + 1)) k = t := by
              unfold hpS
              rw [ek1, if_neg (by intro z; cases z)]
              show (s.st k).tail = t
              rw [hb]
              rfl
            rw [this]
            exact e5 _ _ (P1.nhp k hkl).2.1 (e4 _ _ h3)
          · by_cases z : j = k
            · rw [z]
              refine ⟨_, by rw [List.getElem?_set_self (by omega)], .inr ⟨_, q4, ek1, rfl, ?_⟩⟩
              show SqT K H5 q4 [.int ((s.st k).headD 0), .int (s.day + s.sp k)]
              rw [hb]
              exact hq5
            · obtain ⟨x, x1, x2⟩ := r3 j hj
              refine ⟨x, by rw [List.getElem?_set_ne (by omega)]; exact x1, ?_⟩
              rw [eo j z]
              exact x2.exs eS hS
          · unfold hpS
            rw [eo j hne]
      · walk_at "go"
        refine ⟨rfl, ?_⟩
        rw [dec_rn]
        walk_at "go"
        exact ⟨_, rfl, f1, same (if_neg fun z => by rw [hen] at z; cases z.1)⟩
    · rintro σ H1 ⟨v1, rfl, f1, P1⟩
      walk_at "go"
      rw [Int.toNat_natCast] at P1
      exact q H1 f1 (P1.congr (s := mix N) (s' := s.begun) rfl rfl (fun _ _ => rfl) (fun j hj => (if_pos hj : (if j < N then s.begun.en j else s.en j) = s.begun.en j).symm) fun _ _ => rfl)
end
end G48

namespace G48
open PySem PySem.Spec PyProof.Rows L2 Evl
abbrev N__law_first : List Str := ["_law_parts_here", "_law_days", "_law_starts", "_law_h", "_law_number", "_law_many"]
theorem sc__law_first : FnScope N__law_first ["_law_parts_here"] (defScope s__law_first) := ⟨rfl, rfl, rfl, by decide +kernel, rfl, by decide +kernel, by decide +kernel⟩
theorem b__law_first : BindL "_law_first" "_law_first" s__law_first ["_law_parts_here"] := fun _ _ _ _ _ _ us hl => match us, hl with | [_], _ => rfl
abbrev N__law_day : List Str := ["_law_h", "_law_ended", "_law_size", "_law_k", "_law_day_here", "_law_book"]
theorem sc__law_day : FnScope N__law_day ["_law_h"] (defScope s__law_day) := ⟨rfl, rfl, rfl, by decide +kernel, rfl, by decide +kernel, by decide +kernel⟩
theorem b__law_day : BindL "_law_day" "_law_day" s__law_day ["_law_h"] := fun _ _ _ _ _ _ us hl => match us, hl with | [_], _ => rfl
end G48
/-! the own ring made; a day passes -/
namespace G48
open PySem PySem.Spec PyProof.Rows L2 Evl
/-! the steps -/
local macro_rules | `(tactic| walk_at "as") => `(tactic| with_reducible assumption)
local macro_rules | `(tactic| walk_at "hp") => `(tactic| first
  | with_reducible assumption
  | ((with_reducible apply SqT.of); walk_at "as")
  | ((with_reducible apply SqL.of); walk_at "as")
  | ((with_reducible apply ex_at); (focus walk_at "as"); walk_at "hp")
  | ((with_reducible apply ex_t); (focus walk_at "as"); walk_at "hp")
  | ((with_reducible apply ex_l); (focus walk_at "as"); walk_at "hp")
  | ((with_reducible apply exb_ins); (focus walk_at "as"); (focus walk_at "hp"); walk_at "hp")
  | ((with_reducible apply exb_t); (focus walk_at "as"); (focus walk_at "hp"); walk_at "hp")
  | ((with_reducible apply exb_at); (focus walk_at "as"); (focus walk_at "ne"); walk_at "hp")
  | ((with_reducible apply exb_l); (focus walk_at "as"); (focus walk_at "ne"); walk_at "hp"))
local macro_rules | `(tactic| walk_at "ne") => `(tactic| first
  | with_reducible assumption
  | exact Ne.symm (by with_reducible assumption)
  | exact ne_of_none (by with_reducible assumption) (by with_reducible assumption)
  | exact Ne.symm (ne_of_none (by with_reducible assumption) (by with_reducible assumption)))
local macro_rules | `(tactic| walk_at "tr") => `(tactic| first
  | rfl
  | with_reducible assumption
  | exact decide_eq_true (by first | with_reducible assumption | omega)
  | exact decide_eq_false (by first | with_reducible assumption | omega)
  | (rw [Bool.not_eq_true']; exact decide_eq_false (by first | with_reducible assumption | omega))
  | (rw [Bool.not_eq_false']; exact decide_eq_true (by first | with_reducible assumption | omega)))
local macro_rules | `(tactic| walk_at "nn") => `(tactic| first | with_reducible assumption | (exact List.cons_ne_nil _ _))
local macro_rules | `(tactic| walk_at "sz") => `(tactic| first | (exact sz1000 (Nat.le_of_ble_eq_true rfl)) | (refine sz1000 ?_; simp only [List.length_map, List.length_cons, List.length_nil, List.length_append]; omega) | with_reducible assumption)
local macro_rules | `(tactic| walk_at "sl") => `(tactic| first | with_reducible assumption | (refine lt1000 ?_; simp only [List.length_map, List.length_cons, List.length_nil, List.length_append]; omega) | (refine lt1000 ?_; omega))
local macro_rules | `(tactic| walk_at "ix") => `(tactic| first | rfl | with_reducible assumption)
local macro_rules | `(tactic| walk_at "rg") => `(tactic| exact RgOk.of_le (by omega) (by omega) (by omega) (by omega))
local macro_rules | `(tactic| walk_at "sp") => `(tactic| fail "sp")
local macro_rules | `(tactic| walk_at "cl") => `(tactic| with_reducible assumption)
local macro_rules | `(tactic| walk_at "lk") => `(tactic| with_reducible assumption)
local macro_rules | `(tactic| walk_at "it") => `(tactic| first | rfl | with_reducible assumption | exact atI_nat (by with_reducible assumption))
local macro_rules | `(tactic| walk_at "g1") => `(tactic| first
  | (with_reducible apply g_var); (focus rfl)
  | with_reducible apply g_c
  | with_reducible apply g_seq
  | with_reducible apply g_asg
  | with_reducible apply gg_name
  | with_reducible apply g_op
  | with_reducible apply g_cons
  | with_reducible apply g_nil
  | with_reducible apply g_cb
  | with_reducible apply g_fld
  | ((with_reducible apply g_kFld); (focus walk_at "hp"); (focus walk_at "cl"); (focus walk_at "cl"); (focus walk_at "lk"))
  | with_reducible apply g_call
  | walk_at "sp"
  | with_reducible apply g_ret
  | with_reducible apply g_drop
  | with_reducible apply g_test
  | with_reducible apply g_B
  | with_reducible apply g_kTest
  | with_reducible apply g_ifS
  | with_reducible apply g_kIfST
  | with_reducible apply g_kIfSF
  | with_reducible apply g_add
  | with_reducible apply g_sub
  | with_reducible apply g_lt
  | with_reducible apply g_le
  | with_reducible apply g_gt
  | with_reducible apply g_ge
  | with_reducible apply g_eqI
  | with_reducible apply g_neI
  | ((with_reducible apply g_mod); (focus first | decide | omega))
  | ((with_reducible apply g_mul); (focus first | (left; constructor <;> omega) | (right; constructor <;> omega)))
  | ((with_reducible apply g_fdiv); (focus (constructor <;> omega)))
  | ((with_reducible apply g_ixT); (focus walk_at "hp"); (focus walk_at "it"))
  | ((with_reducible apply g_ixL); (focus walk_at "hp"); (focus walk_at "it"))
  | with_reducible apply g_and
  | with_reducible apply g_or
  | with_reducible apply g_not
  | with_reducible apply g_kNotT
  | with_reducible apply g_kNotF
  | with_reducible apply g_if
  | with_reducible apply g_kAndT
  | with_reducible apply g_kAndF
  | with_reducible apply g_kOrT
  | with_reducible apply g_kOrF
  | with_reducible apply g_kIfT
  | with_reducible apply g_kIfF
  | with_reducible apply g_next
  | with_reducible apply g_andV
  | with_reducible apply g_orV
  | with_reducible apply g_notV
  | with_reducible apply g_kNotV
  | with_reducible apply g_kAndVT
  | with_reducible apply g_kAndVF
  | with_reducible apply g_chain
  | with_reducible apply g_kChainT
  | with_reducible apply g_kChainF
  | with_reducible apply g_tup
  | with_reducible apply g_lst
  | ((with_reducible apply g_kT); (focus walk_at "sz"); intro _ _ _ _ _)
  | ((with_reducible apply g_kL); (focus walk_at "sz"); intro _ _ _ _ _)
  | with_reducible apply g_un
  | with_reducible apply g_neg
  | with_reducible apply g_meth
  | ((with_reducible apply g_kMeth); (focus walk_at "hp"); (focus walk_at "lk"))
  | with_reducible apply g_prop
  | ((with_reducible apply g_kProp); (focus walk_at "hp"))
  | with_reducible apply g_make
  | with_reducible apply g_par
  | with_reducible apply g_kPar
  | ((with_reducible apply g_lenLM); (focus walk_at "hp"))
  | ((with_reducible apply g_lenTM); (focus walk_at "hp"))
  | ((with_reducible apply g_lenL); (focus walk_at "hp"))
  | ((with_reducible apply g_lenT); (focus walk_at "hp"))
  | with_reducible apply g_int1
  | with_reducible apply g_max2
  | with_reducible apply g_min2
  | ((with_reducible apply g_listL); (focus walk_at "hp"); intro _ _ _ _ _)
  | ((with_reducible apply g_listT); (focus walk_at "hp"); intro _ _ _ _ _)
  | ((with_reducible apply g_tupL); (focus walk_at "hp"); intro _ _ _ _ _)
  | ((with_reducible apply g_sum); (focus walk_at "hp"))
  | with_reducible apply g_sfld
  | with_reducible apply g_sl
  | with_reducible apply g_nopart
  | with_reducible apply g_part
  | with_reducible apply g_kPart
  | with_reducible apply g_lstRg
  | with_reducible apply g_rg1
  | with_reducible apply g_kRg1
  | with_reducible apply g_bm
  | with_reducible apply gg_sub
  | ((with_reducible apply gg_tup); (focus walk_at "hp"); (focus rfl))
  | with_reducible apply gg_cons
  | with_reducible apply gg_nil
  | with_reducible apply g_forL
  | with_reducible apply g_forT
  | with_reducible apply g_forR1
  | with_reducible apply g_forR2
  | with_reducible apply g_forE
  | with_reducible apply g_forEL
  | ((with_reducible apply g_maxT); (focus walk_at "hp"); (focus walk_at "nn"))
  | ((with_reducible apply g_maxL); (focus walk_at "hp"); (focus walk_at "nn"))
  | ((with_reducible apply g_catA); (focus walk_at "hp"); (focus walk_at "hp"); (focus walk_at "sz"); intro _ _ _ _)
  | ((with_reducible apply g_slA); (focus walk_at "hp"); intro _ _ _ _)
  | ((with_reducible apply g_tupD); (focus walk_at "hp"); intro _ _ _ _ _)
  | ((with_reducible apply g_setL); (focus walk_at "hp"); (focus walk_at "ix"); intro _ _ _)
  | ((with_reducible apply g_append); (focus walk_at "hp"); (focus walk_at "sl"); intro _ _ _)
  | ((with_reducible apply g_aug); (focus rfl))
  | with_reducible apply g_ipI
  | with_reducible apply g_retN
  | with_reducible apply g_lcR1
  | with_reducible apply g_lcR2
  | with_reducible apply g_lcL
  | with_reducible apply g_lcU
  | with_reducible apply g_lcN
  | ((with_reducible apply g_kLcG); (focus rfl))
  | with_reducible apply g_yes
  | with_reducible apply g_kLcTT
  | with_reducible apply g_kLcTF
  | ((with_reducible apply g_kLcE); (focus walk_at "hp"); (focus walk_at "sl"); intro _ _ _)
  | ((with_reducible apply g_pow); (focus (constructor <;> (try constructor) <;> decide)))
  | ((with_reducible apply g_kLRg); (focus walk_at "rg"); intro _ _ _ _ _)
  | ((with_reducible apply g_cat); (focus walk_at "hp"); (focus walk_at "hp"); (focus walk_at "sz"); intro _ _ _ _ _)
  | ((with_reducible apply g_slL); (focus walk_at "hp"); intro _ _ _ _ _)
  | with_reducible apply g_bmT
  | with_reducible apply g_break
  | with_reducible apply g_cont)
local macro_rules | `(tactic| walk_at "g0") => `(tactic| try dsimp only [L2.cxOf, L2.Cx.nox, L2.Cx.wish])
local macro_rules | `(tactic| walk_at "yn") => `(tactic| first
  | ((with_reducible apply y_kIfS); (focus walk_at "tr"))
  | ((with_reducible apply n_kIfS); (focus walk_at "tr"))
  | ((with_reducible apply y_kOr); (focus walk_at "tr"))
  | ((with_reducible apply n_kOr); (focus walk_at "tr"))
  | ((with_reducible apply y_kAnd); (focus walk_at "tr"))
  | ((with_reducible apply n_kAnd); (focus walk_at "tr"))
  | ((with_reducible apply y_kNot); (focus walk_at "tr"))
  | ((with_reducible apply n_kNot); (focus walk_at "tr"))
  | ((with_reducible apply y_kIf); (focus walk_at "tr"))
  | ((with_reducible apply n_kIf); (focus walk_at "tr"))
  | ((with_reducible apply y_kAndV); (focus walk_at "tr"))
  | ((with_reducible apply n_kAndV); (focus walk_at "tr"))
  | ((with_reducible apply y_kOrV); (focus walk_at "tr"))
  | ((with_reducible apply n_kOrV); (focus walk_at "tr"))
  | ((with_reducible apply y_kChain); (focus walk_at "tr"))
  | ((with_reducible apply n_kChain); (focus walk_at "tr"))
  | ((with_reducible apply y_kLcT); (focus walk_at "tr"))
  | ((with_reducible apply n_kLcT); (focus walk_at "tr"))
  | ((with_reducible apply y_kWh); (focus walk_at "tr"))
  | ((with_reducible apply n_kWh); (focus walk_at "tr")))
local macro_rules | `(tactic| walk_at "go") => `(tactic| repeat (first | walk_at "g1" | walk_at "yn"))
local macro_rules | `(tactic| walk_at "hp") => `(tactic| first
  | ((with_reducible apply RingIn.ex); (focus walk_at "as"); walk_at "hp")
  | ((with_reducible apply RingAt.ex); (focus walk_at "as"); walk_at "hp")
  | ((with_reducible apply RingIn.exb); (focus walk_at "as"); (focus walk_at "hp"); walk_at "hp")
  | ((with_reducible apply RingAt.exb); (focus walk_at "as"); (focus walk_at "hp"); walk_at "hp")
  | ((with_reducible apply TupK.ex); (focus walk_at "as"); walk_at "hp")
  | ((with_reducible apply TupK.exb); (focus walk_at "as"); (focus walk_at "hp"); walk_at "hp"))
local macro_rules | `(tactic| walk_at "lk") => `(tactic| first | with_reducible exact rf_spans | with_reducible exact rf_heaps | with_reducible exact rf_total | with_reducible exact rf_nr | with_reducible exact rf_wd)
local macro_rules | `(tactic| walk_at "sp") => `(tactic| first
  | ((with_reducible apply g_isiTup); (focus walk_at "hp"))
  | ((with_reducible apply g_isiLst); (focus walk_at "hp"))
  | ((with_reducible apply g_isint); (focus omega); (focus omega))
  | ((with_reducible apply g_checkn); (focus omega); (focus omega))
  | ((with_reducible apply g_rbooks); (focus walk_at "hp"))
  | ((with_reducible apply g_rpace); (focus walk_at "hp"); intro _ _ _ _)
  | ((with_reducible apply g_rlen); (focus walk_at "hp"))
  | ((with_reducible apply g_rneed); (focus walk_at "hp"); (focus omega))
  | ((with_reducible apply g_rneedM); (focus walk_at "hp"))
  | ((with_reducible apply g_rwithM); (focus walk_at "hp"))
  | ((with_reducible apply g_rspans); (focus walk_at "hp"); (focus with_reducible assumption))
  | ((with_reducible apply g_rheaps); (focus walk_at "hp"); (focus with_reducible assumption))
  | ((with_reducible apply g_rtotal); (focus walk_at "hp"); (focus with_reducible assumption)))

local macro_rules | `(tactic| walk_at "lk") => `(tactic| first | with_reducible exact kv_days | with_reducible exact kv_heaps | with_reducible exact kv_reading | with_reducible exact kv_today | with_reducible exact kv_next)
local macro_rules | `(tactic| walk_at "g1") => `(tactic| first
  | with_reducible apply g_dget
  | ((with_reducible apply g_kDGet); (focus walk_at "hp"); (focus walk_at "lk")))

def kDisp (Q : VK) (p : Addr) (ps : List (V × V)) (H2 : Hp) : Prop := H2 p = some (.dK []) ∧ ∃ kvs : List (Key × V), ps = kvs.map (fun kv => (kV kv.1, kv.2)) ∧ kvs.length ≤ 15 ∧ Q (.ref p) (upd H2 p (.dK (mergeK [] kvs)))
theorem g_disp {trs : List (TE × TE)} {σ : L2.St} {H : Hp} {Q : VK} (q : ∀ p H1, H p = none → Ex H H1 → H1 p = some (.dK []) → tPairs trs σ H1 (kDisp Q p)) : tDisp trs σ H Q := fun p hp => q p _ hp (Ex.new hp) upd_same
theorem g_pcons {tk tv : TE} {r : List (TE × TE)} {σ : L2.St} {H : Hp} {Q : List (V × V) → Hp → Prop} (q : tk σ H fun x H1 => tv σ H1 fun y H2 => tPairs r σ H2 fun ps H3 => Q ((x, y) :: ps) H3) : tPairs ((tk, tv) :: r) σ H Q := q
theorem g_pnil {σ : L2.St} {H : Hp} {Q : List (V × V) → Hp → Prop} (q : Q [] H) : tPairs [] σ H Q := q
theorem g_kDisp {Q : VK} {p da hp rd : Addr} {t nx : Int} {H : Hp} (h : H p = some (.dK [])) (q : ∀ H', Exb p H H' → H' p = some (.dK (kvH da hp rd t nx)) → Q (.ref p) H') : kDisp Q p [(.str "days", .ref da), (.str "heaps", .ref hp), (.str "reading", .ref rd), (.str "today", .int t), (.str "next", .int nx)] H := by
  refine ⟨h, kvH da hp rd t nx, rfl, (show 5 ≤ 15 by decide), ?_⟩
  have e : mergeK [] (kvH da hp rd t nx) = kvH da hp rd t nx := by rfl
  rw [e]
  exact q _ Exb.upd upd_same
def sDPk (td ty : TE) (D : Ends) (σ : L2.St) (v : V) (H1 : Hp) : Prop := td σ H1 fun x H2 => ty σ H2 fun y H3 => ∃ a H4, x = .ref a ∧ DPut H3 a y v H4 ∧ D.nx σ H4
theorem g_dput {td ty tv : TE} {σ : L2.St} {H : Hp} {D : Ends} (q : tv σ H (sDPk td ty D σ)) : sDPut td ty tv D σ H := q
theorem g_sDPk {td ty : TE} {σ : L2.St} {H : Hp} {D : Ends} {v : V} (q : td σ H fun x H2 => ty σ H2 fun y H3 => ∃ a H4, x = .ref a ∧ DPut H3 a y v H4 ∧ D.nx σ H4) : sDPk td ty D σ v H := q
theorem g_repD {H : Hp} {Q : VK} {l : Addr} {n : Nat} {x : V} (h : H l = some (.lst [x])) (hn : n ≤ 900) (q : ∀ p H', H p = none → Ex H H' → H' p = some (.lst (List.replicate n x)) → Q (.ref p) H') : rRep (.ref l) (.int (n : Int)) H Q := by
  refine ⟨l, n, [x], rfl, rfl, h, by omega, by omega, ?_, fun p hp => q p _ hp (Ex.new hp) ?_⟩
  · refine sz1000 ?_
    simp
    omega
  · rw [upd_same, Int.toNat_natCast, List.flatten_replicate_singleton]
section
variable {P : Program} {w : World} {K : PySem.W.Frag} {mg : Str → Option Value} {base : Heap} {C SC : Addr}
def sp_first (K : PySem.W.Frag) : Sp := fun vs H Q _ => ∃ (p a b : Addr) (ds hs : List Int), vs = [.ref p] ∧ SqT K H p [.ref a, .ref b] ∧ SqT K H a (ds.map V.int) ∧ SqT K H b (hs.map V.int) ∧ RingOk ds hs ∧
  ∀ h da hp rd hA H', H h = none → H rd = none → (∀ j, j < ds.length → H (hA j) = none) → Ex H H' → DG K H' h da hp rd hA ds.length (Sc.first ds hs) → Q (.ref h) H'
set_option maxHeartbeats 16000000 in
theorem ok_first (Z : Blt mg) (D__law_begin : Df P w K mg base 1 "_law_begin" ["_law_h"] (sp_begin K)) (G : GFun K mg "_law_first" s__law_first) : Df P w K mg base 2 "_law_first" ["_law_parts_here"] (sp_first K) := by
  refine Df.of G sc__law_first b__law_first (fun vs H Q E h => ?_) (fun f cdv A outer s H vs Q E hr h => ?_)
  · obtain ⟨p, a, b, ds, hs, rfl, _⟩ := h
    rfl
  · obtain ⟨p, a, b, ds, hs, rfl, hp0, ha, hb, O, q⟩ := h
    have o2 := O.two
    have o8 := O.eight
    have o1 := O.one
    have o12 := O.twelve
    have nn : ∀ x ∈ hs, 0 ≤ x := fun x hx => (O.hh x hx).1
    refine ⟨_, PSs.nox (pss_cons (ps_asg (pv 0) (pg_tup (by rfl) (pgs_cons (pg_name (i := 1) sc__law_first.nd rfl (by first | exact Or.inl rfl | exact Or.inr rfl)) (pgs_cons (pg_name (i := 2) sc__law_first.nd rfl (by first | exact Or.inl rfl | exact Or.inr rfl)) pgs_nil))))
      (pss_cons (ps_set (i := 3) sc__law_first.nd rfl (by first | exact Or.inl rfl | exact Or.inr rfl) (pe_disp (pps_cons pe_str (pe_callTy c_list_of (by rfl) Z.zlist (by decide +kernel) (pa_cons (pv 1) pa_nil)) (pps_cons pe_str (pe_lst pa_nil) (pps_cons pe_str (pe_op op_rep (pe_lst (pa_cons pe_non pa_nil)) (pe_callB c_len (by rfl) Z.zlen PySem.boot_len (pa_cons (pv 1) pa_nil))) (pps_cons pe_str pe_int (pps_cons pe_str (pe_callB (cr_sumT rfl) (by rfl) Z.zsum (by decide +kernel) (pa_cons (pv 2) pa_nil)) pps_nil))))) rfl rfl (by simp) (by decide)))
      (pss_cons (ps_set (i := 4) sc__law_first.nd rfl (by first | exact Or.inl rfl | exact Or.inr rfl) pe_int)
      (pss_cons (ps_for PassesOwn.never rfl (pi_tup (pv 2)) (pg_name (i := 5) sc__law_first.nd rfl (by first | exact Or.inl rfl | exact Or.inr rfl)) (pss_cons (ps_expr (pe_bm PySem.F.plainAttrs_list PySem.F.slot_list_append PySem.F.type_list_append mt_append (pe_dget (u1 hr) (pv 3) pe_str (fun _ _ => rfl)) (pa_cons (pe_listRg rfl (by rfl) Z.zlist (prg_2 (by rfl) Z.zrange (pv 4) (pe_op op_add (pv 4) (pv 5)))) pa_nil)))
          (pss_one (ps_set (i := 4) sc__law_first.nd rfl (by first | exact Or.inl rfl | exact Or.inr rfl) (pe_op op_add (pv 4) (pv 5))))))
      (pss_cons (ps_expr (pg D__law_begin hr (pa_cons (pv 3) pa_nil)))
      (pss_one (ps_ret (pv 3)))))))), ?_⟩
    walk_at "g0"
    walk_at "go"
    refine g_disp fun h H1 n1 e1 h1 => ?_
    refine g_pcons ?_
    have ha1 := ex_t e1 ha
    have hb1 := ex_t e1 hb
    walk_at "go"
    rename_i da H2 n2 e2 h2
    refine g_pcons ?_
    walk_at "go"
    rename_i hp H3 n3 e3 h3
    refine g_pcons ?_
    walk_at "go"
    rename_i l4 H4 n4 e4 h4
    have ha4 := ex_t e4 (ex_t e3 (ex_t e2 ha1))
    walk_at "go"
    refine g_repD h4 (by omega) fun rd H5 n5 e5 h5 => ?_
    refine g_pcons ?_
    walk_at "go"
    refine g_pcons ?_
    have hb5 := ex_t e5 (ex_t e4 (ex_t e3 (ex_t e2 hb1)))
    walk_at "go"
    refine g_sumT (ns := hs) hb5 ?_
    refine g_pnil ?_
    have hd5 := e5 _ _ (e4 _ _ (e3 _ _ (e2 _ _ h1)))
    refine g_kDisp hd5 fun H6 e6 h6 => ?_
    have e15 := ((e2.trans e3).trans e4).trans e5
    have e06 : Ex H H6 := Exb.ex n1 (e1.trans e15) e6
    have n2h : da ≠ h := Ne.symm (ne_of_none h1 n2)
    have n3h : hp ≠ h := Ne.symm (ne_of_none (e2 _ _ h1) n3)
    have n5h : rd ≠ h := Ne.symm (ne_of_none (e4 _ _ (e3 _ _ (e2 _ _ h1))) n5)
    have hda6 := e6 _ _ n2h (e5 _ _ (e4 _ _ (e3 _ _ h2)))
    have hhp6 := e6 _ _ n3h (e5 _ _ (e4 _ _ h3))
    have hrd6 := e6 _ _ n5h h5
    have hb6 := ex_t e06 hb
    have nhpda : hp ≠ da := Ne.symm (ne_of_none h2 n3)
    have nhprd : hp ≠ rd := ne_of_none (e4 _ _ h3) n5
    have nrdda : rd ≠ da := Ne.symm (ne_of_none (e4 _ _ (e3 _ _ h2)) n5)
    have nhp0 : H hp = none := by
      cases hz : H hp with
      | none => rfl
      | some o => rw [e2 _ _ (e1 _ _ hz)] at n3; cases n3
    have nh0 : H h = none := n1
    have nrd0 : H rd = none := by
      cases hz : H rd with
      | none => rfl
      | some o => rw [e4 _ _ (e3 _ _ (e2 _ _ (e1 _ _ hz)))] at n5; cases n5
    clear h1 h2 h3 h4 h5 e1 e2 e3 e4 e5 e6 e15 hd5 hb5 ha4 ha1 hb1 n1 n2 n3 n4 n5
    walk_at "go"
    refine g_kForT hb6 (fun i σ H' => ∃ (hA : Nat → Addr) (v5 : Option V), σ = [some (.ref p), some (.ref a), some (.ref b), some (.ref h), some (.int (hs.take i).sum), v5] ∧ Exb hp H6 H' ∧ H' hp = some (.lst (stV i hA)) ∧
        (∀ j, j < i → H6 (hA j) = none ∧ H' (hA j) = some (.lst ((firstSt hs j).map V.int))) ∧ ∀ j k, j < i → k < i → hA j = hA k → j = k)
      ⟨fun _ => 0, _, rfl, Exb.of (Ex.refl _), hhp6, fun j hj => absurd hj (Nat.not_lt_zero j), fun j k hj => absurd hj (Nat.not_lt_zero j)⟩ (fun i σ H' _ hP => by
        obtain ⟨_, _, _, e, _⟩ := hP
        exact exb_t e hhp6 hb6) ?_ ?_
    · rintro i x σ H7 hx ⟨hA, v5, rfl, e7, hp7, hh7, hinj⟩
      have hil : i < ds.length := by
        have := (List.getElem?_eq_some_iff.mp hx).1
        rw [List.length_map, O.len] at this
        exact this
      have hB := (O.fH_at hil).2
      rw [(O.fH_at hil).1] at hx
      cases hx
      have htk : 0 ≤ (hs.take i).sum ∧ (hs.take i).sum ≤ 12 := by
        have h1 := first_len nn (k := i) (by rw [O.len]; omega)
        have h2 := (ScW.first0 O).few
        have h3 : sumN i (fun j => (firstSt hs j).length) ≤ sumN ds.length (fun j => (firstSt hs j).length) := by
          have : ∀ (n m : Nat) (f : Nat → Nat), n ≤ m → sumN n f ≤ sumN m f := fun n m f h => by
            induction h with
            | refl => exact Nat.le_refl _
            | step _ ih => rw [sumN_succ]; omega
          exact this _ _ _ (by omega)
        have h4 : sumN ds.length (fun j => (firstSt hs j).length) ≤ 12 := h2
        omega
      have hnx := ftake nn (k := i) (by rw [O.len]; exact hil)
      have hd7 := e7 _ _ (Ne.symm n3h) h6
      walk_at "go"
      refine g_kBM_list (SqL.of hp7) ?_
      walk_at "go"
      refine g_rg2 ?_
      walk_at "go"
      refine ⟨_, _, rfl, rfl, g_kLRg (RgOk.of_le (by omega) (by omega) (by omega) (by omega)) fun D H8 nD e8 h8 => ?_⟩
      rw [frng_V] at h8
      have hp8 := e8 _ _ hp7
      walk_at "go"
      refine g_append hp8 (lt1000 (by rw [stV_len]; omega)) fun H9 e9 h9 => ?_
      have h9 : H9 hp = some (.lst (stV (i + 1) fun j => if j = i then D else hA j)) := by
        rw [h9]
        unfold stV
        rw [← mapV_next]
        refine congrArg (fun z => some (HO.lst z)) ?_
        congr 1
        · exact mapV_congr fun j hj => by
            dsimp only
            rw [if_neg (by omega)]
        · simp
      have nDp : D ≠ hp := Ne.symm (ne_of_none hp7 nD)
      have e79 : Exb hp H7 H9 := (Exb.of e8).trans e9
      have nD6 : H6 D = none := by
        cases hz : H6 D with
        | none => rfl
        | some o => rw [e7 _ _ nDp hz] at nD; cases nD
      walk_at "go"
      rw [← hnx]
      refine ⟨fun j => if j = i then D else hA j, _, rfl, e7.trans e79, h9, fun j hj => ?_, fun j k hj hk hjk => ?_⟩
      · by_cases z : j = i
        · simp only [if_pos z]
          rw [z]
          exact ⟨nD6, e9 _ _ nDp h8⟩
        · simp only [if_neg z]
          obtain ⟨y1, y2⟩ := hh7 j (by omega)
          exact ⟨y1, e79 _ _ (fun y => by rw [y, hhp6] at y1; cases y1) y2⟩
      · by_cases z : j = i
        · by_cases z2 : k = i
          · omega
          · simp only [if_pos z, if_neg z2] at hjk
            obtain ⟨_, y3⟩ := hh7 k (by omega)
            rw [← hjk, nD] at y3
            cases y3
        · by_cases z2 : k = i
          · simp only [if_neg z, if_pos z2] at hjk
            obtain ⟨_, y3⟩ := hh7 j (by omega)
            rw [hjk, nD] at y3
            cases y3
          · simp only [if_neg z, if_neg z2] at hjk
            exact hinj j k (by omega) (by omega) hjk
    · rintro σ H7 ⟨hA, v5, rfl, e7, hp7, hh7, hinj⟩
      rw [List.length_map, O.len] at hp7 hh7 hinj
      have P7 : DG K H7 h da hp rd hA ds.length (Sc.first0 ds hs) := by
        refine ⟨e7 _ _ (Ne.symm n3h) h6, ?_, hp7, ⟨_, e7 _ _ (Ne.symm nhprd) hrd6, List.length_replicate, fun j hj => ⟨.non, by rw [List.getElem?_replicate, if_pos hj], .inl ⟨rfl, rfl⟩⟩⟩, fun j hj => (hh7 j hj).2, hinj, fun j hj => ?_, nhprd, nhpda, nrdda⟩
        · have : spV ds.length (Sc.first0 ds hs).sp = ds.map V.int := by
            unfold spV
            refine List.ext_getElem? fun j => ?_
            by_cases hj : j < ds.length
            · rw [mapV_at hj, List.getElem?_map, List.getElem?_eq_getElem hj]
              show some (V.int (ds.getD j 0)) = _
              rw [List.getD_eq_getElem?_getD, List.getElem?_eq_getElem hj]
              rfl
            · rw [List.getElem?_eq_none (by simp; omega), List.getElem?_eq_none (by simp; omega)]
          rw [this]
          exact e7 _ _ (Ne.symm nhpda) hda6
        · have y := (hh7 j hj).1
          exact ⟨Ne.symm (ne_of_none hhp6 y), Ne.symm (ne_of_none hrd6 y), Ne.symm (ne_of_none hda6 y)⟩
      have e07 : Ex H H7 := Exb.ex nhp0 e06 e7
      have hfr : ∀ j, j < ds.length → H (hA j) = none := fun j hj => by
        cases hz : H (hA j) with
        | none => rfl
        | some o =>
          have y := (hh7 j hj).1
          rw [e06 _ _ hz] at y
          cases y
      walk_at "go"
      refine ⟨h, da, hp, rd, hA, ds.length, _, rfl, o8, P7, fun H8 f8 P8 => ?_⟩
      have e08 : Ex H H8 := fun x o hx => f8 x o (fun z => by rw [z, nh0] at hx; cases hx) (fun z => by rw [z, nrd0] at hx; cases hx) (fun j hj z => by rw [z, hfr j hj] at hx; cases hx) (e07 _ _ hx)
      walk_at "go"
      exact q h da hp rd hA H8 nh0 nrd0 hfr e08 P8
def sp_day (K : PySem.W.Frag) : Sp := fun vs H Q _ => ∃ (h da hp rd : Addr) (hA : Nat → Addr) (N : Nat) (s : Sc), vs = [.ref h] ∧ ScOk N s ∧ DG K H h da hp rd hA N s ∧
  ∀ l zs H', H l = none → Frm h rd hA N H H' → H' l = some (.lst zs) → Ent K H' zs (s.ended N) → DG K H' h da hp rd hA N (s.next N) → Q (.ref l) H'
set_option maxHeartbeats 16000000 in
theorem ok_day (Z : Blt mg) (D__law_begin : Df P w K mg base 1 "_law_begin" ["_law_h"] (sp_begin K)) (G : GFun K mg "_law_day" s__law_day) : Df P w K mg base 2 "_law_day" ["_law_h"] (sp_day K) := by
  refine Df.of G sc__law_day b__law_day (fun vs H Q E h => ?_) (fun f cdv A outer st H vs Q E hr h => ?_)
  · obtain ⟨h, da, hp, rd, hA, N, s, rfl, _⟩ := h
    rfl
  · obtain ⟨h, da, hp, rd, hA, N, s, rfl, W, P0, q⟩ := h
    have o2 := W.two
    have o8 := W.eight
    have hd0 := P0.dict
    refine ⟨_, PSs.nox (pss_cons (ps_dput (u1 hr) (pv 0) pe_str (pe_op op_add (pe_dget (u1 hr) (pv 0) pe_str (fun _ _ => rfl)) pe_int) (by rfl))
      (pss_cons (ps_par (i := 1) (j := 2) rfl sc__law_day.nd rfl rfl (by decide) rfl rfl (pa_cons (pe_lst pa_nil) (pa_cons (pe_callB c_len (by rfl) Z.zlen PySem.boot_len (pa_cons (pe_dget (u1 hr) (pv 0) pe_str (fun _ _ => rfl)) pa_nil)) pa_nil)) (by rfl))
      (pss_cons (ps_for PassesOwn.never rfl (pi_range1 (by rfl) Z.zrange (pa_cons (pv 2) pa_nil)) (pg_name (i := 3) sc__law_day.nd rfl (by first | exact Or.inl rfl | exact Or.inr rfl)) (pss_one (ps_if (PW.pt (pw_and (pt_cmpR op_notN (pe_ix ix_list (pe_dget (u1 hr) (pv 0) pe_str (fun _ _ => rfl)) (pv 3) (fun _ _ => rfl)) pe_non (nomark _)) (pw_and1 (pt_cmpR op_eq (pe_ix ix_tup (pe_ix ix_list (pe_dget (u1 hr) (pv 0) pe_str (fun _ _ => rfl)) (pv 3) (fun _ _ => rfl)) pe_int (fun _ _ => rfl)) (pe_dget (u1 hr) (pv 0) pe_str (fun _ _ => rfl)) (nomark _))))) (pss_cons (ps_expr (pe_bm PySem.F.plainAttrs_list PySem.F.slot_list_append PySem.F.type_list_append mt_append (pv 1) (pa_cons (pe_tup (pa_cons (pe_dget (u1 hr) (pv 0) pe_str (fun _ _ => rfl)) (pa_cons (pv 3) (pa_cons (pe_ix ix_tup (pe_ix ix_list (pe_dget (u1 hr) (pv 0) pe_str (fun _ _ => rfl)) (pv 3) (fun _ _ => rfl)) pe_int (fun _ _ => rfl)) pa_nil)))) pa_nil)))
          (pss_one (ps_asg pe_non (pg_sub (pe_dget (u1 hr) (pv 0) pe_str (fun _ _ => rfl)) (pv 3) set_list)))) pss_nil)))
      (pss_cons (ps_for PassesOwn.never rfl (pi_list (pv 1)) (pg_tup (by rfl) (pgs_cons (pg_name (i := 4) sc__law_day.nd rfl (by first | exact Or.inl rfl | exact Or.inr rfl)) (pgs_cons (pg_name (i := 3) sc__law_day.nd rfl (by first | exact Or.inl rfl | exact Or.inr rfl)) (pgs_cons (pg_name (i := 5) sc__law_day.nd rfl (by first | exact Or.inl rfl | exact Or.inr rfl)) pgs_nil)))) (pss_one (ps_expr (pe_bm PySem.F.plainAttrs_list PySem.F.slot_list_append PySem.F.type_list_append mt_append (pe_ix ix_list (pe_dget (u1 hr) (pv 0) pe_str (fun _ _ => rfl)) (pe_op op_mod (pe_callTy c_int1 (by rfl) Z.zint (by decide +kernel) (pa_cons (pe_op op_add (pv 3) pe_int) pa_nil)) (pv 2)) (fun _ _ => rfl)) (pa_cons (pv 5) pa_nil)))))
      (pss_cons (ps_expr (pg D__law_begin hr (pa_cons (pv 0) pa_nil)))
      (pss_one (ps_ret (pv 1)))))))), ?_⟩
    walk_at "g0"
    walk_at "go"
    refine g_dput ?_
    walk_at "go"
    refine g_sDPk ?_
    walk_at "go"
    refine ⟨h, _, rfl, DPut.k (k := .inr "today") hd0 (lt1000 (show 5 < 1000 by decide)), ?_⟩
    rw [kv_put]
    have P1 := P0.today (t := s.day + 1) (nx := s.nb)
    have f1 : Frm h rd hA N H (upd H h (.dK (kvH da hp rd (s.day + 1) s.nb))) := fun b o x y w z => by rw [upd_ne x]; exact z
    generalize upd H h (.dK (kvH da hp rd (s.day + 1) s.nb)) = H1 at *
    have hd1 := P1.dict
    have hda1 := P1.days
    have hln := spV_len (N := N) (sp := s.sp)
    walk_at "go"
    rename_i l H2 nl e2 hl
    obtain ⟨nlh, nld, nlp, nlr, nlA⟩ := P1.fresh nl
    have nl0 : H l = none := by
      cases hz : H l with
      | none => rfl
      | some o => rw [f1 l o nlh nlr (fun j hj => Ne.symm (nlA j hj)) hz] at nl; cases nl
    have P2 := P1.ex e2
    have f2 := f1.trans (Frm.of e2)
    have hln2 : ((spV N s.sp).length : Int) = (N : Int) := by rw [hln]
    have hda2 := P2.days
    have hd2 := P2.dict
    walk_at "go"
    rw [spV_len]
    let mid : Nat → Sc := fun k => { day := s.day + 1, st := fun j => if j < k ∧ s.due j then (s.st j).tail else s.st j, en := fun j => if j < k ∧ s.due j then none else s.en j, sp := s.sp, nb := s.nb }
    let endF : Nat → List (Int × Int × Int) := fun i => (s.dueK i).map fun (k : Nat) => (s.day + 1, (k : Int), (s.st k).headD 0)
    refine g_kForR1 ⟨by omega, by omega⟩ (fun k σ H' => ∃ (zs : List V) (v3 v4 v5 : Option V), σ = [some (.ref h), some (.ref l), some (.int (N : Int)), v3, v4, v5] ∧ Frm h rd hA N H H' ∧ H' l = some (.lst zs) ∧ Ent K H' zs (endF k) ∧ DG K H' h da hp rd hA N (mid k))
      ⟨[], _, _, _, rfl, f2, hl, Ent.nil, P2.congr (s' := mid 0) rfl rfl (fun j _ => (if_neg fun z => absurd z.1 (Nat.not_lt_zero j) : (if j < 0 ∧ s.due j then (s.st j).tail else s.st j) = s.st j))
        (fun j _ => (if_neg fun z => absurd z.1 (Nat.not_lt_zero j) : (if j < 0 ∧ s.due j then none else s.en j) = s.en j)) fun _ _ => rfl⟩ ?_ ?_
    · rintro k σ H3 hk ⟨zs, v3, v4, v5, rfl, f3, hl3, hz, P3⟩
      have hkl : k < N := by omega
      have hd3 := P3.dict
      obtain ⟨rv, r1, r2, r3⟩ := P3.Hr
      obtain ⟨x, hx, hread⟩ := r3 k hkl
      have ek : (mid k).en k = s.en k := if_neg fun z => absurd z.1 (Nat.lt_irrefl k)
      have sk : (mid k).st k = s.st k := if_neg fun z => absurd z.1 (Nat.lt_irrefl k)
      rw [ek, sk] at hread
      have stay : ¬ s.due k → Ent K H3 zs (endF (k + 1)) ∧ DG K H3 h da hp rd hA N (mid (k + 1)) := fun hn => by
        have cc : ∀ j, (j < k + 1 ∧ s.due j) ↔ (j < k ∧ s.due j) := fun j => ⟨fun z => ⟨by
          by_cases y : j = k
          · rw [y] at z; exact absurd z.2 hn
          · omega, z.2⟩, fun z => ⟨by omega, z.2⟩⟩
        refine ⟨?_, P3.congr (s := mid k) (s' := mid (k + 1)) rfl rfl (fun j _ => ?_) (fun j _ => ?_) fun _ _ => rfl⟩
        · show Ent K H3 zs ((s.dueK (k + 1)).map _)
          rw [dueK_no hn]
          exact hz
        · show (if j < k + 1 ∧ s.due j then (s.st j).tail else s.st j) = if j < k ∧ s.due j then (s.st j).tail else s.st j
          simp only [cc]
        · show (if j < k + 1 ∧ s.due j then none else s.en j) = if j < k ∧ s.due j then none else s.en j
          simp only [cc]
      rcases hread with ⟨rfl, hen⟩ | ⟨e, p, hen, rfl, hpp⟩
      · have hn : ¬ s.due k := fun z => by
          have : s.en k = some (s.day + 1) := z
          rw [hen] at this
          cases this
        walk_at "go"
        refine ⟨rfl, ?_⟩
        rw [dec_nn]
        walk_at "go"
        obtain ⟨y1, y2⟩ := stay hn
        exact ⟨zs, _, _, _, rfl, f3, hl3, y1, y2⟩
      · walk_at "go"
        refine ⟨rfl, ?_⟩
        rw [dec_rn]
        walk_at "go"
        refine g_kIfS (fun he => ?_) (fun he => ?_)
        · have he := of_decide_eq_true he
          have hdue : s.due k := by
            show s.en k = some (s.day + 1)
            rw [hen]
            exact congrArg some he
          walk_at "go"
          refine g_kBM_list (SqL.of hl3) ?_
          walk_at "go"
          rename_i q4 H4 n4 e4 h4
          have hl4 := e4 _ _ hl3
          have hklen : zs.length ≤ N := by
            rw [hz.1]
            show ((s.dueK k).map _).length ≤ N
            rw [List.length_map]
            exact Nat.le_trans ended_nodup (by omega)
          refine g_append hl4 (lt1000 (by omega)) fun H5 e5 hl5 => ?_
          have nq : q4 ≠ l := Ne.symm (ne_of_none hl3 n4)
          have r5 : H5 rd = some (.lst rv) := e5 _ _ (Ne.symm nlr) (e4 _ _ r1)
          have hd5 := e5 _ _ (Ne.symm nlh) (e4 _ _ hd3)
          have hix : ixN rv.length (k : Int) = some k := by
            unfold ixN
            rw [if_pos (by omega), if_pos (by omega), Int.toNat_natCast]
          walk_at "go"
          rename_i H6 e6 h6
          have P5 := (P3.ex e4).exb e5 hl4 ⟨nld, nlp, nlr, nlA⟩
          have eS : Exs [hA k, rd] H5 H6 := Exs.ofb (List.mem_cons_of_mem _ List.mem_cons_self) e6
          have hS := P5.lists hkl
          have ek1 : (mid (k + 1)).en k = none := if_pos ⟨Nat.lt_succ_self k, hdue⟩
          have sk1 : (mid (k + 1)).st k = (s.st k).tail := if_pos ⟨Nat.lt_succ_self k, hdue⟩
          have eo : ∀ j, j ≠ k → (mid (k + 1)).en j = (mid k).en j ∧ (mid (k + 1)).st j = (mid k).st j := fun j z => by
            have cc : (j < k + 1 ∧ s.due j) ↔ (j < k ∧ s.due j) := ⟨fun z => ⟨by omega, z.2⟩, fun z => ⟨by omega, z.2⟩⟩
            refine ⟨?_, ?_⟩
            · show (if j < k + 1 ∧ s.due j then none else s.en j) = if j < k ∧ s.due j then none else s.en j
              simp only [cc]
            · show (if j < k + 1 ∧ s.due j then (s.st j).tail else s.st j) = if j < k ∧ s.due j then (s.st j).tail else s.st j
              simp only [cc]
          have hz5 : Ent K H5 (zs ++ [.ref q4]) (endF (k + 1)) := by
            show Ent K H5 _ ((s.dueK (k + 1)).map _)
            rw [dueK_yes hdue, List.map_append]
            exact ((hz.ex e4).exb e5 hl4).snoc (exb_t e5 hl4 (SqT.of h4))
          refine ⟨zs ++ [.ref q4], _, _, _, rfl, ((f3.trans (Frm.of e4)).exb nl0 e5).trans (Frm.ofS hkl eS), e6 _ _ nlr hl5, hz5.exb e6 r5, ?_⟩
          refine P5.step (s' := mid (k + 1)) hkl eS ?_ ⟨_, h6, by rw [List.length_set]; exact r2, fun j hj => ?_⟩ ⟨rfl, rfl, rfl⟩ fun j hj hne => ?_
          · have : hpS (mid (k + 1)) k = hpS (mid k) k := by
              unfold hpS
              rw [ek1, sk1, ek, sk, if_pos rfl, if_neg (by rw [hen]; intro z; cases z)]
            rw [this]
            exact e6 _ _ (P3.nhp k hkl).2.1 (P5.heap k hkl)
          · by_cases z : j = k
            · rw [z]
              exact ⟨.non, by rw [List.getElem?_set_self (by omega)], .inl ⟨rfl, ek1⟩⟩
            · obtain ⟨x, x1, x2⟩ := r3 j hj
              rw [(eo j z).1, (eo j z).2]
              refine ⟨x, by rw [List.getElem?_set_ne (by omega)]; exact x1, ?_⟩
              rcases x2 with x2 | ⟨i, p, y1, y2, y3⟩
              · exact .inl x2
              · exact .inr ⟨i, p, y1, y2, exb_t e6 r5 (exb_t e5 hl4 (ex_t e4 y3))⟩
          · unfold hpS
            rw [(eo j hne).1, (eo j hne).2]
        · have he := of_decide_eq_false he
          have hn : ¬ s.due k := fun z => by
            have : s.en k = some (s.day + 1) := z
            rw [hen] at this
            exact he (Option.some.inj this)
          walk_at "go"
          obtain ⟨y1, y2⟩ := stay hn
          exact ⟨zs, _, _, _, rfl, f3, hl3, y1, y2⟩
    · rintro σ H3 ⟨zs, v3, v4, v5, rfl, f3, hl3, hz, P3⟩
      rw [Int.toNat_natCast] at hz P3
      have hzN : zs.length = (s.dueK N).length := by rw [hz.1]; exact List.length_map _
      let mj : Nat → Sc := fun m => { day := s.day + 1, st := fun j => (if s.due j then (s.st j).tail else s.st j) ++ (if sprv N j ∈ (s.dueK N).take m then (s.st (sprv N j)).take 1 else []), en := (s.next0 N).en, sp := s.sp, nb := s.nb }
      have P3 : DG K H3 h da hp rd hA N (mj 0) := P3.congr (s := mid N) (s' := mj 0) rfl rfl (fun j hj => by
        show (if s.due j then (s.st j).tail else s.st j) ++ (if sprv N j ∈ (s.dueK N).take 0 then (s.st (sprv N j)).take 1 else []) = if j < N ∧ s.due j then (s.st j).tail else s.st j
        rw [if_neg (show ¬ sprv N j ∈ (s.dueK N).take 0 by simp), List.append_nil]
        simp only [hj, true_and]) (fun j hj => by
        show (if s.due j then none else s.en j) = if j < N ∧ s.due j then none else s.en j
        simp only [hj, true_and]) fun _ _ => rfl
      walk_at "go"
      refine g_kForL (SqL.of hl3) (fun m σ H' => ∃ (v3 v4 v5 : Option V), σ = [some (.ref h), some (.ref l), some (.int (N : Int)), v3, v4, v5] ∧ Frm h rd hA N H H' ∧ H' l = some (.lst zs) ∧ Ent K H' zs (endF N) ∧ DG K H' h da hp rd hA N (mj m))
        ⟨_, _, _, rfl, f3, hl3, hz, P3⟩ (fun m σ H' _ hP => by
          obtain ⟨_, _, _, _, _, hlx, _⟩ := hP
          exact SqL.of hlx) ?_ ?_
      · rintro m x σ H4 hx ⟨v3, v4, v5, rfl, f4, hl4, hz4, P4⟩
        have hml := (List.getElem?_eq_some_iff.mp hx).1
        obtain ⟨k, hk⟩ : ∃ k, (s.dueK N)[m]? = some k := ⟨_, List.getElem?_eq_getElem (by omega)⟩
        have hen : (endF N)[m]? = some (s.day + 1, (k : Int), (s.st k).headD 0) := by
          show ((s.dueK N).map _)[m]? = _
          rw [List.getElem?_map, hk]
          rfl
        obtain ⟨p, hp1, hp2⟩ := hz4.2 m _ hen
        rw [hx] at hp1
        cases hp1
        have hp2 : SqT K H4 p [.int (s.day + 1), .int (k : Int), .int ((s.st k).headD 0)] := hp2
        obtain ⟨hkl, hkd⟩ := Sc.mem_due.mp (List.mem_of_getElem? hk)
        obtain ⟨b, t, hb, hbt⟩ := W.head hkl hkd
        rw [show (s.st k).headD 0 = b by rw [hb]; rfl] at hp2
        have hnl := snxt_lt hkl
        have hnm := snxt_mod hkl
        have hps := sprv_snxt hkl
        have hnot : k ∉ (s.dueK N).take m := fun z => by
          obtain ⟨hm, e⟩ := List.getElem?_eq_some_iff.mp hk
          obtain ⟨i, hi, hik⟩ := List.getElem_of_mem z
          rw [List.getElem_take] at hik
          rw [List.length_take] at hi
          exact List.pairwise_iff_getElem.mp Sc.due_nodup i m (by omega) hm (by omega) (by rw [hik, e])
        have htk : (s.dueK N).take (m + 1) = (s.dueK N).take m ++ [k] := by
          obtain ⟨hm, e⟩ := List.getElem?_eq_some_iff.mp hk
          rw [← List.take_append_getElem hm, e]
        have stn : (mj (m + 1)).st (snxt N k) = (mj m).st (snxt N k) ++ [b] := by
          show (if s.due (snxt N k) then _ else _) ++ (if sprv N (snxt N k) ∈ (s.dueK N).take (m + 1) then _ else _) = ((if s.due (snxt N k) then _ else _) ++ (if sprv N (snxt N k) ∈ (s.dueK N).take m then _ else _)) ++ [b]
          rw [hps, htk, if_pos (show k ∈ (s.dueK N).take m ++ [k] by simp), if_neg hnot, hb, List.append_nil]
          rfl
        have sto : ∀ j, j < N → j ≠ snxt N k → (mj (m + 1)).st j = (mj m).st j := fun j hj hne => by
          have e2 : (sprv N j ∈ (s.dueK N).take m ++ [k]) = (sprv N j ∈ (s.dueK N).take m) := by
            rw [eq_iff_iff, List.mem_append, List.mem_singleton]
            exact ⟨fun h => h.elim id fun z => absurd ((sprv_eq hj hkl).mp z) hne, .inl⟩
          show (if s.due j then _ else _) ++ (if sprv N j ∈ (s.dueK N).take (m + 1) then _ else _) = (if s.due j then _ else _) ++ (if sprv N j ∈ (s.dueK N).take m then _ else _)
          rw [htk]
          simp only [e2]
        have hpn : hpS (mj (m + 1)) (snxt N k) = hpS (mj m) (snxt N k) ++ [b] := by
          unfold hpS
          show (if (s.next0 N).en (snxt N k) = none then (mj (m + 1)).st (snxt N k) else ((mj (m + 1)).st (snxt N k)).tail) = (if (s.next0 N).en (snxt N k) = none then (mj m).st (snxt N k) else ((mj m).st (snxt N k)).tail) ++ [b]
          rw [stn]
          by_cases z : (s.next0 N).en (snxt N k) = none
          · rw [if_pos z, if_pos z]
          · rw [if_neg z, if_neg z]
            have : (mj m).st (snxt N k) ≠ [] := by
              have z' : ¬ (if s.due (snxt N k) then none else s.en (snxt N k)) = none := z
              by_cases y : s.due (snxt N k)
              · rw [if_pos y] at z'; exact absurd rfl z'
              · rw [if_neg y] at z'
                obtain ⟨e, he⟩ := Option.ne_none_iff_exists'.mp z'
                obtain ⟨u1, _⟩ := W.ends _ hnl _ he
                show (if s.due (snxt N k) then _ else _) ++ _ ≠ []
                rw [if_neg y]
                intro u
                exact u1 (List.append_eq_nil_iff.mp u).1
            obtain ⟨c, r, hc⟩ := List.exists_cons_of_ne_nil this
            rw [hc]
            rfl
        have hd4 := P4.dict
        have hhp4 := P4.heap _ hnl
        have hln4 : (hpS (mj m) (snxt N k)).length ≤ 12 := by
          have hmid : (mj m).st (snxt N k) = midSt N ((s.dueK N).take m) s.st (snxt N k) ∨ (mj m).st (snxt N k) = (midSt N ((s.dueK N).take m) s.st (snxt N k)).tail := by
            unfold midSt movSt
            show (if s.due (snxt N k) then _ else _) ++ _ = _ ∨ (if s.due (snxt N k) then _ else _) ++ _ = _
            by_cases y : s.due (snxt N k)
            · by_cases u : snxt N k ∈ (s.dueK N).take m
              · left; rw [if_pos y, if_pos u]
              · right
                obtain ⟨c, r, hc, _⟩ := W.head hnl y
                rw [if_pos y, if_neg u, hc]
                rfl
            · have u : ¬ snxt N k ∈ (s.dueK N).take m := fun z => y (Sc.mem_due.mp (List.mem_of_mem_take z)).2
              left; rw [if_neg y, if_neg u]
          have hm2 := mid_len W.toScW (ks := (s.dueK N).take m) hnl
          have : ((mj m).st (snxt N k)).length ≤ 12 := by
            rcases hmid with e | e
            · rw [e]; exact hm2
            · rw [e, List.length_tail]; omega
          unfold hpS
          show (if (s.next0 N).en (snxt N k) = none then (mj m).st (snxt N k) else ((mj m).st (snxt N k)).tail).length ≤ 12
          by_cases z : (s.next0 N).en (snxt N k) = none
          · rw [if_pos z]; exact this
          · rw [if_neg z, List.length_tail]; omega
        have hat := DG.at_h (hA := hA) hnl
        have hH4 := P4.Hh
        refine gg_tup hp2 rfl ?_
        walk_at "go"
        rw [hnm]
        walk_at "go"
        refine g_kBM_list (SqL.of hhp4) ?_
        walk_at "go"
        rename_i H5 e5 h5
        have h5 : H5 (hA (snxt N k)) = some (.lst ((hpS (mj (m + 1)) (snxt N k)).map V.int)) := by rw [h5, hpn, List.map_append]; rfl
        have eS : Exs [hA (snxt N k), rd] H4 H5 := Exs.ofb List.mem_cons_self e5
        have hS := P4.lists hnl
        refine ⟨_, _, _, rfl, f4.trans (Frm.ofS hnl eS), e5 _ _ (Ne.symm (nlA _ hnl)) hl4, hz4.exb e5 hhp4, P4.step (s' := mj (m + 1)) hnl eS h5 ?_ ⟨rfl, rfl, rfl⟩ fun j hj hne => ?_⟩
        · obtain ⟨rv, r1, r2, r3⟩ := P4.Hr
          refine ⟨rv, e5 _ _ (Ne.symm (P4.nhp _ hnl).2.1) r1, r2, fun j hj => ?_⟩
          obtain ⟨x, x1, x2⟩ := r3 j hj
          refine ⟨x, x1, ?_⟩
          have x3 := x2.exs eS hS
          by_cases z : j = snxt N k
          · rcases x3 with ⟨y1, y2⟩ | ⟨i, p, y1, y2, y3⟩
            · exact .inl ⟨y1, y2⟩
            · refine .inr ⟨i, p, y1, y2, ?_⟩
              have y4 : (if s.due j then none else s.en j) = some i := y1
              by_cases y : s.due j
              · rw [if_pos y] at y4; cases y4
              · rw [if_neg y] at y4
                obtain ⟨u1, _⟩ := W.ends _ hj _ y4
                obtain ⟨c, r, hc⟩ := List.exists_cons_of_ne_nil u1
                have h1 : ((mj (m + 1)).st j).headD 0 = c := by
                  show List.headD ((if s.due j then (s.st j).tail else s.st j) ++ _) 0 = c
                  rw [if_neg y, hc]; rfl
                have h2 : ((mj m).st j).headD 0 = c := by
                  show List.headD ((if s.due j then (s.st j).tail else s.st j) ++ _) 0 = c
                  rw [if_neg y, hc]; rfl
                rw [h1]
                rw [h2] at y3
                exact y3
          · rw [sto j hj z]
            exact x3
        · unfold hpS
          rw [sto j hj hne]
      · rintro σ H4 ⟨v3, v4, v5, rfl, f4, hl4, hz4, P4⟩
        have P4 : DG K H4 h da hp rd hA N (s.next0 N) := P4.congr (s := mj zs.length) (s' := s.next0 N) rfl rfl (fun j hj => by
          show (if s.due j then (s.st j).tail else s.st j) ++ (if s.due (sprv N j) then _ else _) = (if s.due j then _ else _) ++ (if sprv N j ∈ (s.dueK N).take zs.length then _ else _)
          have e2 : (sprv N j ∈ s.dueK N) = s.due (sprv N j) := by rw [eq_iff_iff, Sc.mem_due]; exact ⟨fun h => h.2, fun h => ⟨sprv_lt hj, h⟩⟩
          rw [hzN, List.take_length]
          simp only [e2]) (fun _ _ => rfl) fun _ _ => rfl
        walk_at "go"
        refine ⟨h, da, hp, rd, hA, N, _, rfl, o8, P4, fun H5 f5 P5 => ?_⟩
        walk_at "go"
        exact q l zs H5 nl0 (f4.trans f5) (f5 _ _ nlh nlr (fun j hj => Ne.symm (nlA j hj)) hl4) (P4.ent f5 hz4) P5
end
end G48

namespace G48
open PySem PySem.Spec PyProof.Rows L2 Evl
abbrev N_diary_of : List Str := ["ring", "count", "scene", "left", "ended", "entry"]
theorem sc_diary_of : GScope N_diary_of ["ring", "count"] (defScope s_diary_of) := ⟨rfl, rfl, rfl, by decide +kernel, rfl, by decide +kernel, by decide +kernel⟩
theorem b_diary_of : BindL "diary_of" "diary_of" s_diary_of ["ring", "count"] := fun _ _ _ _ _ _ us hl => match us, hl with | [_, _], _ => rfl
end G48
--lib G
/-! diaries -/
namespace G48
open PySem PySem.Spec PyProof.Rows L2 Evl GenW
/-! the steps -/
local macro_rules | `(tactic| walk_at "as") => `(tactic| with_reducible assumption)
local macro_rules | `(tactic| walk_at "hp") => `(tactic| first
  | with_reducible assumption
  | ((with_reducible apply SqT.of); walk_at "as")
  | ((with_reducible apply SqL.of); walk_at "as")
  | ((with_reducible apply ex_at); (focus walk_at "as"); walk_at "hp")
  | ((with_reducible apply ex_t); (focus walk_at "as"); walk_at "hp")
  | ((with_reducible apply ex_l); (focus walk_at "as"); walk_at "hp")
  | ((with_reducible apply exb_ins); (focus walk_at "as"); (focus walk_at "hp"); walk_at "hp")
  | ((with_reducible apply exb_t); (focus walk_at "as"); (focus walk_at "hp"); walk_at "hp")
  | ((with_reducible apply exb_at); (focus walk_at "as"); (focus walk_at "ne"); walk_at "hp")
  | ((with_reducible apply exb_l); (focus walk_at "as"); (focus walk_at "ne"); walk_at "hp"))
local macro_rules | `(tactic| walk_at "ne") => `(tactic| first
  | with_reducible assumption
  | exact Ne.symm (by with_reducible assumption)
  | exact ne_of_none (by with_reducible assumption) (by with_reducible assumption)
  | exact Ne.symm (ne_of_none (by with_reducible assumption) (by with_reducible assumption)))
local macro_rules | `(tactic| walk_at "tr") => `(tactic| first
  | rfl
  | with_reducible assumption
  | exact decide_eq_true (by first | with_reducible assumption | omega)
  | exact decide_eq_false (by first | with_reducible assumption | omega)
  | (rw [Bool.not_eq_true']; exact decide_eq_false (by first | with_reducible assumption | omega))
  | (rw [Bool.not_eq_false']; exact decide_eq_true (by first | with_reducible assumption | omega)))
local macro_rules | `(tactic| walk_at "nn") => `(tactic| first | with_reducible assumption | (exact List.cons_ne_nil _ _))
local macro_rules | `(tactic| walk_at "sz") => `(tactic| first | (exact sz1000 (Nat.le_of_ble_eq_true rfl)) | (refine sz1000 ?_; simp only [List.length_map, List.length_cons, List.length_nil, List.length_append]; omega) | with_reducible assumption)
local macro_rules | `(tactic| walk_at "sl") => `(tactic| first | with_reducible assumption | (refine lt1000 ?_; simp only [List.length_map, List.length_cons, List.length_nil, List.length_append]; omega) | (refine lt1000 ?_; omega))
local macro_rules | `(tactic| walk_at "ix") => `(tactic| first | rfl | with_reducible assumption)
local macro_rules | `(tactic| walk_at "rg") => `(tactic| exact RgOk.of_le (by omega) (by omega) (by omega) (by omega))
local macro_rules | `(tactic| walk_at "sp") => `(tactic| fail "sp")
local macro_rules | `(tactic| walk_at "cl") => `(tactic| with_reducible assumption)
local macro_rules | `(tactic| walk_at "lk") => `(tactic| with_reducible assumption)
local macro_rules | `(tactic| walk_at "it") => `(tactic| first | rfl | with_reducible assumption | exact atI_nat (by with_reducible assumption))
local macro_rules | `(tactic| walk_at "g1") => `(tactic| first
  | (with_reducible apply g_var); (focus rfl)
  | with_reducible apply g_c
  | with_reducible apply g_seq
  | with_reducible apply g_asg
  | with_reducible apply gg_name
  | with_reducible apply g_op
  | with_reducible apply g_cons
  | with_reducible apply g_nil
  | with_reducible apply g_cb
  | with_reducible apply g_fld
  | ((with_reducible apply g_kFld); (focus walk_at "hp"); (focus walk_at "cl"); (focus walk_at "cl"); (focus walk_at "lk"))
  | with_reducible apply g_call
  | walk_at "sp"
  | with_reducible apply g_ret
  | with_reducible apply g_drop
  | with_reducible apply g_test
  | with_reducible apply g_B
  | with_reducible apply g_kTest
  | with_reducible apply g_ifS
  | with_reducible apply g_kIfST
  | with_reducible apply g_kIfSF
  | with_reducible apply g_add
  | with_reducible apply g_sub
  | with_reducible apply g_lt
  | with_reducible apply g_le
  | with_reducible apply g_gt
  | with_reducible apply g_ge
  | with_reducible apply g_eqI
  | with_reducible apply g_neI
  | ((with_reducible apply g_mod); (focus first | decide | omega))
  | ((with_reducible apply g_mul); (focus first | (left; constructor <;> omega) | (right; constructor <;> omega)))
  | ((with_reducible apply g_fdiv); (focus (constructor <;> omega)))
  | ((with_reducible apply g_ixT); (focus walk_at "hp"); (focus walk_at "it"))
  | ((with_reducible apply g_ixL); (focus walk_at "hp"); (focus walk_at "it"))
  | with_reducible apply g_and
  | with_reducible apply g_or
  | with_reducible apply g_not
  | with_reducible apply g_kNotT
  | with_reducible apply g_kNotF
  | with_reducible apply g_if
  | with_reducible apply g_kAndT
  | with_reducible apply g_kAndF
  | with_reducible apply g_kOrT
  | with_reducible apply g_kOrF
  | with_reducible apply g_kIfT
  | with_reducible apply g_kIfF
  | with_reducible apply g_next
  | with_reducible apply g_andV
  | with_reducible apply g_orV
  | with_reducible apply g_notV
  | with_reducible apply g_kNotV
  | with_reducible apply g_kAndVT
  | with_reducible apply g_kAndVF
  | with_reducible apply g_chain
  | with_reducible apply g_kChainT
  | with_reducible apply g_kChainF
  | with_reducible apply g_tup
  | with_reducible apply g_lst
  | ((with_reducible apply g_kT); (focus walk_at "sz"); intro _ _ _ _ _)
  | ((with_reducible apply g_kL); (focus walk_at "sz"); intro _ _ _ _ _)
  | with_reducible apply g_un
  | with_reducible apply g_neg
  | with_reducible apply g_meth
  | ((with_reducible apply g_kMeth); (focus walk_at "hp"); (focus walk_at "lk"))
  | with_reducible apply g_prop
  | ((with_reducible apply g_kProp); (focus walk_at "hp"))
  | with_reducible apply g_make
  | with_reducible apply g_par
  | with_reducible apply g_kPar
  | ((with_reducible apply g_lenLM); (focus walk_at "hp"))
  | ((with_reducible apply g_lenTM); (focus walk_at "hp"))
  | ((with_reducible apply g_lenL); (focus walk_at "hp"))
  | ((with_reducible apply g_lenT); (focus walk_at "hp"))
  | with_reducible apply g_int1
  | with_reducible apply g_max2
  | with_reducible apply g_min2
  | ((with_reducible apply g_listL); (focus walk_at "hp"); intro _ _ _ _ _)
  | ((with_reducible apply g_listT); (focus walk_at "hp"); intro _ _ _ _ _)
  | ((with_reducible apply g_tupL); (focus walk_at "hp"); intro _ _ _ _ _)
  | ((with_reducible apply g_sum); (focus walk_at "hp"))
  | with_reducible apply g_sfld
  | with_reducible apply g_sl
  | with_reducible apply g_nopart
  | with_reducible apply g_part
  | with_reducible apply g_kPart
  | with_reducible apply g_lstRg
  | with_reducible apply g_rg1
  | with_reducible apply g_kRg1
  | with_reducible apply g_bm
  | with_reducible apply gg_sub
  | ((with_reducible apply gg_tup); (focus walk_at "hp"); (focus rfl))
  | with_reducible apply gg_cons
  | with_reducible apply gg_nil
  | with_reducible apply g_forL
  | with_reducible apply g_forT
  | with_reducible apply g_forR1
  | with_reducible apply g_forR2
  | with_reducible apply g_forE
  | with_reducible apply g_forEL
  | ((with_reducible apply g_maxT); (focus walk_at "hp"); (focus walk_at "nn"))
  | ((with_reducible apply g_maxL); (focus walk_at "hp"); (focus walk_at "nn"))
  | ((with_reducible apply g_catA); (focus walk_at "hp"); (focus walk_at "hp"); (focus walk_at "sz"); intro _ _ _ _)
  | ((with_reducible apply g_slA); (focus walk_at "hp"); intro _ _ _ _)
  | ((with_reducible apply g_tupD); (focus walk_at "hp"); intro _ _ _ _ _)
  | ((with_reducible apply g_setL); (focus walk_at "hp"); (focus walk_at "ix"); intro _ _ _)
  | ((with_reducible apply g_append); (focus walk_at "hp"); (focus walk_at "sl"); intro _ _ _)
  | ((with_reducible apply g_aug); (focus rfl))
  | with_reducible apply g_ipI
  | with_reducible apply g_retN
  | with_reducible apply g_lcR1
  | with_reducible apply g_lcR2
  | with_reducible apply g_lcL
  | with_reducible apply g_lcU
  | with_reducible apply g_lcN
  | ((with_reducible apply g_kLcG); (focus rfl))
  | with_reducible apply g_yes
  | with_reducible apply g_kLcTT
  | with_reducible apply g_kLcTF
  | ((with_reducible apply g_kLcE); (focus walk_at "hp"); (focus walk_at "sl"); intro _ _ _)
  | ((with_reducible apply g_pow); (focus (constructor <;> (try constructor) <;> decide)))
  | ((with_reducible apply g_kLRg); (focus walk_at "rg"); intro _ _ _ _ _)
  | ((with_reducible apply g_cat); (focus walk_at "hp"); (focus walk_at "hp"); (focus walk_at "sz"); intro _ _ _ _ _)
  | ((with_reducible apply g_slL); (focus walk_at "hp"); intro _ _ _ _ _)
  | with_reducible apply g_bmT
  | with_reducible apply g_break
  | with_reducible apply g_cont)
local macro_rules | `(tactic| walk_at "g0") => `(tactic| try dsimp only [L2.cxOf, L2.Cx.nox, L2.Cx.wish])
local macro_rules | `(tactic| walk_at "yn") => `(tactic| first
  | ((with_reducible apply y_kIfS); (focus walk_at "tr"))
  | ((with_reducible apply n_kIfS); (focus walk_at "tr"))
  | ((with_reducible apply y_kOr); (focus walk_at "tr"))
  | ((with_reducible apply n_kOr); (focus walk_at "tr"))
  | ((with_reducible apply y_kAnd); (focus walk_at "tr"))
  | ((with_reducible apply n_kAnd); (focus walk_at "tr"))
  | ((with_reducible apply y_kNot); (focus walk_at "tr"))
  | ((with_reducible apply n_kNot); (focus walk_at "tr"))
  | ((with_reducible apply y_kIf); (focus walk_at "tr"))
  | ((with_reducible apply n_kIf); (focus walk_at "tr"))
  | ((with_reducible apply y_kAndV); (focus walk_at "tr"))
  | ((with_reducible apply n_kAndV); (focus walk_at "tr"))
  | ((with_reducible apply y_kOrV); (focus walk_at "tr"))
  | ((with_reducible apply n_kOrV); (focus walk_at "tr"))
  | ((with_reducible apply y_kChain); (focus walk_at "tr"))
  | ((with_reducible apply n_kChain); (focus walk_at "tr"))
  | ((with_reducible apply y_kLcT); (focus walk_at "tr"))
  | ((with_reducible apply n_kLcT); (focus walk_at "tr"))
  | ((with_reducible apply y_kWh); (focus walk_at "tr"))
  | ((with_reducible apply n_kWh); (focus walk_at "tr")))
local macro_rules | `(tactic| walk_at "go") => `(tactic| repeat (first | walk_at "g1" | walk_at "yn"))
local macro_rules | `(tactic| walk_at "hp") => `(tactic| first
  | ((with_reducible apply RingIn.ex); (focus walk_at "as"); walk_at "hp")
  | ((with_reducible apply RingAt.ex); (focus walk_at "as"); walk_at "hp")
  | ((with_reducible apply RingIn.exb); (focus walk_at "as"); (focus walk_at "hp"); walk_at "hp")
  | ((with_reducible apply RingAt.exb); (focus walk_at "as"); (focus walk_at "hp"); walk_at "hp")
  | ((with_reducible apply TupK.ex); (focus walk_at "as"); walk_at "hp")
  | ((with_reducible apply TupK.exb); (focus walk_at "as"); (focus walk_at "hp"); walk_at "hp"))
local macro_rules | `(tactic| walk_at "lk") => `(tactic| first | with_reducible exact rf_spans | with_reducible exact rf_heaps | with_reducible exact rf_total | with_reducible exact rf_nr | with_reducible exact rf_wd)
local macro_rules | `(tactic| walk_at "sp") => `(tactic| first
  | ((with_reducible apply g_isiTup); (focus walk_at "hp"))
  | ((with_reducible apply g_isiLst); (focus walk_at "hp"))
  | ((with_reducible apply g_isint); (focus omega); (focus omega))
  | ((with_reducible apply g_checkn); (focus omega); (focus omega))
  | ((with_reducible apply g_rbooks); (focus walk_at "hp"))
  | ((with_reducible apply g_rpace); (focus walk_at "hp"); intro _ _ _ _)
  | ((with_reducible apply g_rlen); (focus walk_at "hp"))
  | ((with_reducible apply g_rneed); (focus walk_at "hp"); (focus omega))
  | ((with_reducible apply g_rneedM); (focus walk_at "hp"))
  | ((with_reducible apply g_rwithM); (focus walk_at "hp"))
  | ((with_reducible apply g_rspans); (focus walk_at "hp"); (focus with_reducible assumption))
  | ((with_reducible apply g_rheaps); (focus walk_at "hp"); (focus with_reducible assumption))
  | ((with_reducible apply g_rtotal); (focus walk_at "hp"); (focus with_reducible assumption)))

local macro_rules | `(tactic| walk_at "g1") => `(tactic| first | with_reducible apply g_gThen | with_reducible apply g_gPlain | with_reducible apply g_g0 | with_reducible apply g_gForL)
/-! the entries of the first days -/
def evt (ds hs : List Int) : Nat → List (Int × Int × Int)
  | 0 => []
  | t + 1 => evt ds hs t ++ (scAt ds hs t).ended ds.length
/-- es: the first n entries -/
def Diary (ds hs : List Int) (n : Nat) (es : List (Int × Int × Int)) : Prop := ∃ t, n ≤ (evt ds hs t).length ∧ es = (evt ds hs t).take n
theorem evt_pre {ds hs : List Int} {t u : Nat} (h : t ≤ u) : ∃ r, evt ds hs u = evt ds hs t ++ r := by
  induction h with
  | refl => exact ⟨[], by rw [List.append_nil]⟩
  | step _ ih =>
    obtain ⟨r, e⟩ := ih
    exact ⟨r ++ (scAt ds hs _).ended ds.length, by show evt ds hs _ ++ _ = _; rw [e, List.append_assoc]⟩
theorem Diary.uni {ds hs : List Int} {n : Nat} {es fs : List (Int × Int × Int)} (h1 : Diary ds hs n es) (h2 : Diary ds hs n fs) : es = fs := by
  obtain ⟨t, h1, rfl⟩ := h1
  obtain ⟨u, h2, rfl⟩ := h2
  rcases Nat.le_total t u with h | h
  · obtain ⟨r, e⟩ := evt_pre (ds := ds) (hs := hs) h
    rw [e, List.take_append_of_le_length h1]
  · obtain ⟨r, e⟩ := evt_pre (ds := ds) (hs := hs) h
    rw [e, List.take_append_of_le_length h2]
theorem Diary.len {ds hs : List Int} {n : Nat} {es : List (Int × Int × Int)} (h : Diary ds hs n es) : es.length = n := by
  obtain ⟨t, h1, rfl⟩ := h
  rw [List.length_take]
  omega
/-! a reader always reads -/
theorem sumN_pos {f : Nat → Nat} : ∀ {N : Nat}, 1 ≤ sumN N f → ∃ k, k < N ∧ 1 ≤ f k
  | 0, h => by
    have : sumN 0 f = 0 := rfl
    omega
  | N + 1, h => by
    rw [sumN_succ] at h
    by_cases z : 1 ≤ f N
    · exact ⟨N, by omega, z⟩
    · obtain ⟨k, hk, hf⟩ := sumN_pos (f := f) (N := N) (by omega)
      exact ⟨k, by omega, hf⟩
theorem scAt_sum {ds hs : List Int} : ∀ t, sumN ds.length (fun k => ((scAt ds hs t).st k).length) = sumN ds.length (fun k => (firstSt hs k).length)
  | 0 => rfl
  | t + 1 => by
    rw [← scAt_sum t]
    show sumN ds.length (fun k => (movSt ds.length (scAt ds hs t).due (scAt ds hs t).st k).length) = _
    rw [mov_len]
theorem sc_busy {ds hs : List Int} (O : RingOk ds hs) (t : Nat) : ∃ k e, k < ds.length ∧ (scAt ds hs t).en k = some e := by
  have h1 := first_len (hs := hs) (fun x hx => (O.hh x hx).1) (k := ds.length) (by rw [O.len]; exact Nat.le_refl _)
  rw [show hs.take ds.length = hs by rw [← O.len, List.take_length], ← scAt_sum t] at h1
  have := O.one
  obtain ⟨k, hk, hp⟩ := sumN_pos (f := fun k => ((scAt ds hs t).st k).length) (N := ds.length) (by omega)
  have W := scAt_ok O t
  cases he : (scAt ds hs t).en k with
  | none =>
    have := W.busy k hk he
    rw [this] at hp
    exact absurd hp (by decide)
  | some e => exact ⟨k, e, hk, he⟩
theorem Sc.keeps {N : Nat} {s : Sc} {k : Nat} {e : Int} (h : s.en k = some e) (hd : ¬ s.due k) : (s.next N).en k = some e := by
  have h0 : (s.next0 N).en k = some e := by
    show (if s.due k then none else s.en k) = some e
    rw [if_neg hd, h]
  show (if (s.next0 N).en k = none ∧ (s.next0 N).st k ≠ [] then _ else (s.next0 N).en k) = some e
  rw [if_neg (by rw [h0]; intro z; cases z.1), h0]
theorem ended_len8 {N : Nat} {s : Sc} : (s.ended N).length ≤ N := by
  unfold Sc.ended Sc.dueK
  rw [List.length_map]
  exact Nat.le_trans (List.length_filter_le _ _) (by rw [List.length_range]; exact Nat.le_refl _)
/-- the measure: what is left and how far off the next end is -/
def Wt (ds hs : List Int) (t left m : Nat) : Prop := ∃ k e, k < ds.length ∧ (scAt ds hs t).en k = some e ∧ m = left * 31 + (e - (scAt ds hs t).day).toNat
theorem Wt.ex {ds hs : List Int} (O : RingOk ds hs) (t left : Nat) : ∃ m, Wt ds hs t left m := let ⟨k, e, h1, h2⟩ := sc_busy O t; ⟨_, k, e, h1, h2, rfl⟩
theorem Wt.next {ds hs : List Int} (O : RingOk ds hs) {t left m : Nat} (hl : 0 < left) (h : Wt ds hs t left m) : ∃ m', m' < m ∧ Wt ds hs (t + 1) (left - ((scAt ds hs t).ended ds.length).length) m' := by
  obtain ⟨k, e, h1, h2, rfl⟩ := h
  have W := scAt_ok O t
  obtain ⟨_, hd1, hd2⟩ := W.ends k h1 e h2
  have day : (scAt ds hs (t + 1)).day = (scAt ds hs t).day + 1 := rfl
  by_cases z : ((scAt ds hs t).ended ds.length).length = 0
  · have hnd : ¬ (scAt ds hs t).due k := fun y => by
      have : k ∈ (scAt ds hs t).dueK ds.length := Sc.mem_due.mpr ⟨h1, y⟩
      unfold Sc.ended at z
      rw [List.length_map] at z
      rw [List.length_eq_zero_iff.mp z] at this
      cases this
    have ne : e ≠ (scAt ds hs t).day + 1 := fun y => hnd (by show (scAt ds hs t).en k = _; rw [h2, y])
    refine ⟨(left - ((scAt ds hs t).ended ds.length).length) * 31 + (e - (scAt ds hs (t + 1)).day).toNat, ?_, k, e, h1, Sc.keeps h2 hnd, rfl⟩
    rw [z, day]
    omega
  · obtain ⟨k', e', h1', h2'⟩ := sc_busy O (t + 1)
    obtain ⟨_, hd1', hd2'⟩ := (scAt_ok O (t + 1)).ends k' h1' e' h2'
    refine ⟨_, ?_, k', e', h1', h2', rfl⟩
    omega
section
variable {P : Program} {w : World} {K : PySem.W.Frag} {mg : Str → Option Value} {base : Heap} {C SC : Addr}
def sp_diary (K : PySem.W.Frag) (C : Addr) : SpG := fun vs H Q _ => ∃ (r a b : Addr) (ds hs : List Int) (n : Nat), vs = [.ref r, .int (n : Int)] ∧ RingIn K C H r a b ds hs ∧ n ≤ 500 ∧
  ∀ H' zs es, Ex H H' → Ent K H' zs es → Diary ds hs n es → Q zs H'
theorem Ent.take {H : Hp} {zs : List V} {es : List (Int × Int × Int)} (h : Ent K H zs es) (n : Nat) : Ent K H (zs.take n) (es.take n) := by
  refine ⟨by rw [List.length_take, List.length_take, h.1], fun m e he => ?_⟩
  rw [List.getElem?_take] at he
  split at he
  · rename_i hm
    obtain ⟨p, h1, h2⟩ := h.2 m e he
    exact ⟨p, by rw [List.getElem?_take_of_lt hm]; exact h1, h2⟩
  · cases he
theorem Ent.app {H : Hp} {zs ys : List V} {es fs : List (Int × Int × Int)} (h : Ent K H zs es) (h' : Ent K H ys fs) : Ent K H (zs ++ ys) (es ++ fs) := by
  refine ⟨by rw [List.length_append, List.length_append, h.1, h'.1], fun m e he => ?_⟩
  by_cases z : m < es.length
  · rw [List.getElem?_append_left z] at he
    obtain ⟨p, h1, h2⟩ := h.2 m e he
    exact ⟨p, by rw [List.getElem?_append_left (by rw [h.1]; exact z)]; exact h1, h2⟩
  · rw [List.getElem?_append_right (by omega)] at he
    obtain ⟨p, h1, h2⟩ := h'.2 _ e he
    exact ⟨p, by rw [List.getElem?_append_right (by rw [h.1]; omega), h.1]; exact h1, h2⟩
set_option maxHeartbeats 8000000 in
theorem ok_diary (Z : Blt mg) (R : RingC K C) (RS : SceneC K SC) (c_MAX_ENTRIES : ∃ t, mg "MAX_ENTRIES" = some (.int 500 t)) (D_check_number : Df P w K mg base 2 "check_number" ["number", "low", "high"] sp_check_number)
    (D_first_scene : Df P w K mg base 4 "first_scene" ["ring"] (sp_first_scene K C SC)) (M_Scene_following : Mf P w K mg base SC 4 "following" ["self"] (sp_following K SC)) (G : GFun K mg "diary_of" s_diary_of) : Gf P w K mg base 5 "diary_of" ["ring", "count"] (sp_diary K C) := by
  refine Gf.of G sc_diary_of b_diary_of (fun vs H Q E h => ?_) (fun f cdv A outer st H vs Q E pn hr h => ?_)
  · obtain ⟨r, a, b, ds, hs, n, rfl, _⟩ := h
    rfl
  · obtain ⟨r, a, b, ds, hs, n, rfl, RI, hn, q⟩ := h
    obtain ⟨cl_Scene, n1, n2, n3, n4, n5⟩ := RS
    have O := RI.ok
    have o8 := O.eight
    refine ⟨_, (gss_cons (gs_ps (ps_expr (pg D_check_number hr (pa_cons (pv 1) (pa_cons pe_int (pa_cons (pint c_MAX_ENTRIES) pa_nil))))))
      (gss_cons (gs_ps (ps_par (i := 2) (j := 3) rfl sc_diary_of.nd rfl rfl (by decide) rfl rfl (pa_cons (pg D_first_scene hr (pa_cons (pv 0) pa_nil)) (pa_cons (pv 1) pa_nil)) (by rfl)))
      (gss_cons (gs_while owns_gcx (pt_cmpR op_gt (pv 3) pe_int (nomark _)) (gss_cons (gs_ps (ps_asg (pm0 (pv 2) cl_Scene M_Scene_following hr) (pg_tup (by rfl) (pgs_cons (pg_name (i := 2) sc_diary_of.nd rfl (by first | exact Or.inl rfl | exact Or.inr rfl)) (pgs_cons (pg_name (i := 4) sc_diary_of.nd rfl (by first | exact Or.inl rfl | exact Or.inr rfl)) pgs_nil)))))
          (gss_cons (gs_for owns_gcx rfl (pi_list (pe_slice sl_list (pv 4) po_none (po_some (pv 3)))) (pg_name (i := 5) sc_diary_of.nd rfl (by first | exact Or.inl rfl | exact Or.inr rfl)) (gss_cons (gs_yield (pv 5))
          gss_nil))
          (gss_cons (gs_ps (ps_aug (i := 3) sc_diary_of.nd rfl (by first | exact Or.inl rfl | exact Or.inr rfl) (pe_callB (c_min2 rfl) (by rfl) Z.zmin (by decide +kernel) (pa_cons (pv 3) (pa_cons (pe_callB c_len (by rfl) Z.zlen PySem.boot_len (pa_cons (pv 4) pa_nil)) pa_nil))) ip_sub))
          gss_nil))))
      gss_nil))), ?_⟩
    dsimp only [L2.gcxOf, L2.cxOf]
    walk_at "go"
    refine ⟨r, a, b, ds, hs, rfl, RI, fun sc H1 nsc e1 S1 => ?_⟩
    walk_at "go"
    obtain ⟨m0, hm0⟩ := Wt.ex O 0 n
    refine g_gWh (fun m ys σ H' => ∃ (t left : Nat) (s : Addr) (v4 v5 : Option V), σ = [some (.ref r), some (.int (n : Int)), some (.ref s), some (.int (left : Int)), v4, v5] ∧ Ex H H' ∧ ScIn K SC H' s ds.length (scAt ds hs t) ∧
        Ent K H' ys ((evt ds hs t).take n) ∧ left = n - (evt ds hs t).length ∧ Wt ds hs t left m) m0 ⟨0, n, sc, _, _, rfl, e1, S1, by show Ent K H1 [] (([] : List (Int × Int × Int)).take n); rw [List.take_nil]; exact Ent.nil, by show n = n - 0; omega, hm0⟩ ?_
    rintro m ys σ H2 ⟨t, left, s, v4, v5, rfl, e2, S2, E2, hleft, hm⟩
    walk_at "go"
    refine g_kGWh (fun hb => ?_) fun hb => ?_
    · have hl : 0 < left := by
        have := of_decide_eq_true hb
        omega
      have hlen : ys.length = (evt ds hs t).length := by rw [E2.1, List.length_take]; omega
      obtain ⟨dx2, fs2, p2, q2, r2, ho2, ⟨f1, f2, f3, f4, f5, f6, f7, f8⟩, _⟩ := id S2.obj
      walk_at "go"
      refine ⟨s, ds.length, _, rfl, scAt_ok O t, S2, fun p s' l zs H3 np ns nl nlp e3 hp S3 hl3 E3 => ?_⟩
      have hel := ended_len8 (N := ds.length) (s := scAt ds hs t)
      have hz := E3.1
      refine gg_tup (SqT.of (K := K) hp) rfl ?_
      walk_at "go"
      rename_i l4 H4 nl4 e4 hl4
      have hcut : cutV zs none (some ((left : Nat) : Int)) = zs.take left := by
        unfold cutV
        rw [HT.sIx_none, HT.sIx_nat, List.drop_zero, Nat.sub_zero, ← List.take_take, List.take_length]
      rw [hcut] at hl4
      refine g_kGForL (xs := zs.take left) (SqL.of hl4) (fun i ys' σ H' => ∃ v5, σ = [some (.ref r), some (.int (n : Int)), some (.ref s'), some (.int (left : Int)), some (.ref l), v5] ∧ H' = H4 ∧ ys' = ys ++ (zs.take left).take i)
        ⟨_, rfl, rfl, by rw [List.take_zero, List.append_nil]⟩ (fun i ys' σ H' _ hP => by
          obtain ⟨_, _, rfl, _⟩ := hP
          exact SqL.of hl4) ?_ ?_
      · rintro i x ys' σ H' hx ⟨v5, rfl, rfl, rfl⟩
        have hi := (List.getElem?_eq_some_iff.mp hx).1
        rw [List.length_take] at hi
        walk_at "go"
        refine g_gYield (sz1000 ?_) ?_
        · rw [List.length_append, List.length_take]
          omega
        walk_at "go"
        exact ⟨_, rfl, rfl, by rw [List.append_assoc, List.take_add_one, hx]; rfl⟩
      · rintro ys' σ H' ⟨v5, rfl, rfl, rfl⟩
        rw [List.take_length]
        walk_at "go"
        have e24 := e3.trans e4
        obtain ⟨m', hmm, hw⟩ := Wt.next O hl hm
        rw [show (left : Int) - min (left : Int) (zs.length : Int) = ((left - ((scAt ds hs t).ended ds.length).length : Nat) : Int) by rw [hz]; omega]
        refine ⟨m', hmm, t + 1, left - ((scAt ds hs t).ended ds.length).length, s', _, _, rfl, e2.trans e24, S3.ex e4, ?_, ?_, hw⟩
        · have e : (evt ds hs (t + 1)).take n = (evt ds hs t).take n ++ ((scAt ds hs t).ended ds.length).take left := by
            show (evt ds hs t ++ (scAt ds hs t).ended ds.length).take n = _
            rw [List.take_append, ← hleft]
          rw [e]
          exact (E2.ex e24).app ((E3.ex e4).take left)
        · show _ = n - (evt ds hs t ++ (scAt ds hs t).ended ds.length).length
          rw [List.length_append]
          omega
    · have hl : left = 0 := by
        have := of_decide_eq_false hb
        omega
      exact q H2 ys _ e2 E2 ⟨t, by omega, rfl⟩
/-! entries as data -/
def entD (e : Int × Int × Int) : PyData := .tuple [.int e.1, .int e.2.1, .int e.2.2]
theorem entD_lay (e : Int × Int × Int) : (entD e).canLay0 = true := by simp [entD, PyData.canLay0, PyData.canLayAll0]
theorem entD_depth (e : Int × Int × Int) : (entD e).depth = 1 := by simp [entD, PyData.depth, PyData.depthAll]
theorem entsD_lay : ∀ ps : List (Int × Int × Int), PyData.canLayAll0 (ps.map entD) = true
  | [] => by simp [PyData.canLayAll0]
  | z :: zs => by simp [PyData.canLayAll0, entD_lay z, entsD_lay zs]
theorem entsD_depth : ∀ ps : List (Int × Int × Int), PyData.depthAll (ps.map entD) ≤ 1
  | [] => by simp [PyData.depthAll]
  | z :: zs => by
    have h1 := entsD_depth zs
    have h2 := entD_depth z
    simp only [List.map_cons, PyData.depthAll]
    omega
theorem entsL_sh (ps : List (Int × Int × Int)) : SeqAt.shaped (.list (ps.map entD)) = true := by
  have h1 := entsD_depth ps
  have h2 : PyData.depth (.list (ps.map entD)) ≤ 64 := by
    simp only [PyData.depth]
    omega
  show (PyData.canLay0 (.list (ps.map entD)) && decide (PyData.depth (.list (ps.map entD)) ≤ 64)) = true
  rw [Bool.and_eq_true]
  exact ⟨by simp only [PyData.canLay0]; exact entsD_lay ps, decide_eq_true h2⟩
theorem Ent.dp {H : Hp} : ∀ {zs : List V} {es : List (Int × Int × Int)}, Ent K H zs es → DpAll K H zs (es.map entD)
  | [], [], _ => .nil
  | [], _ :: _, h => by cases h.1
  | _ :: _, [], h => by cases h.1
  | z :: zs, e :: es, h => by
    obtain ⟨p, h1, h2⟩ := h.2 0 e rfl
    cases h1
    exact .cons (.tup h2 (.cons (.int _) (.cons (.int _) (.cons (.int _) .nil)))) (Ent.dp (zs := zs) (es := es) ⟨by have := h.1; simpa using this, fun i y hy => h.2 (i + 1) y hy⟩)
theorem g_eqEnt {H : Hp} {Q : VK} {a b : Addr} {zs ys : List V} {es : List (Int × Int × Int)} (h1 : SqL K H a zs) (s1 : Ent K H zs es) (h2 : SqL K H b ys) (s2 : Ent K H ys es) (q : Q (.bl true) H) : rEqD K (.ref a) (.ref b) H Q :=
  g_eqD (.lst h1 s1.dp) (.lst h2 s2.dp) (entsL_sh _) (entsL_sh _) (by rw [SeqAt.eqv_refl _ (SeqAt.canLay_of_shaped (entsL_sh es))]; exact q)
theorem g_neEnt {H : Hp} {Q : VK} {a b : Addr} {zs ys : List V} {es : List (Int × Int × Int)} (h1 : SqL K H a zs) (s1 : Ent K H zs es) (h2 : SqL K H b ys) (s2 : Ent K H ys es) (q : Q (.bl false) H) : rNeD K (.ref a) (.ref b) H Q :=
  g_neD (.lst h1 s1.dp) (.lst h2 s2.dp) (entsL_sh _) (entsL_sh _) (by rw [SeqAt.eqv_refl _ (SeqAt.canLay_of_shaped (entsL_sh es))]; exact q)
end
end G48

--lib G
--lib F
/-! diaries, entry by entry, amid the consumer's turns -/
namespace G48
open PySem PySem.Spec PyProof.Rows L2 Evl GenW
/-! the steps -/
local macro_rules | `(tactic| walk_at "as") => `(tactic| with_reducible assumption)
local macro_rules | `(tactic| walk_at "hp") => `(tactic| first
  | with_reducible assumption
  | ((with_reducible apply SqT.of); walk_at "as")
  | ((with_reducible apply SqL.of); walk_at "as")
  | ((with_reducible apply ex_at); (focus walk_at "as"); walk_at "hp")
  | ((with_reducible apply ex_t); (focus walk_at "as"); walk_at "hp")
  | ((with_reducible apply ex_l); (focus walk_at "as"); walk_at "hp")
  | ((with_reducible apply exb_ins); (focus walk_at "as"); (focus walk_at "hp"); walk_at "hp")
  | ((with_reducible apply exb_t); (focus walk_at "as"); (focus walk_at "hp"); walk_at "hp")
  | ((with_reducible apply exb_at); (focus walk_at "as"); (focus walk_at "ne"); walk_at "hp")
  | ((with_reducible apply exb_l); (focus walk_at "as"); (focus walk_at "ne"); walk_at "hp"))
local macro_rules | `(tactic| walk_at "ne") => `(tactic| first
  | with_reducible assumption
  | exact Ne.symm (by with_reducible assumption)
  | exact ne_of_none (by with_reducible assumption) (by with_reducible assumption)
  | exact Ne.symm (ne_of_none (by with_reducible assumption) (by with_reducible assumption)))
local macro_rules | `(tactic| walk_at "tr") => `(tactic| first
  | rfl
  | with_reducible assumption
  | exact decide_eq_true (by first | with_reducible assumption | omega)
  | exact decide_eq_false (by first | with_reducible assumption | omega)
  | (rw [Bool.not_eq_true']; exact decide_eq_false (by first | with_reducible assumption | omega))
  | (rw [Bool.not_eq_false']; exact decide_eq_true (by first | with_reducible assumption | omega)))
local macro_rules | `(tactic| walk_at "nn") => `(tactic| first | with_reducible assumption | (exact List.cons_ne_nil _ _))
local macro_rules | `(tactic| walk_at "sz") => `(tactic| first | (exact sz1000 (Nat.le_of_ble_eq_true rfl)) | (refine sz1000 ?_; simp only [List.length_map, List.length_cons, List.length_nil, List.length_append]; omega) | with_reducible assumption)
local macro_rules | `(tactic| walk_at "sl") => `(tactic| first | with_reducible assumption | (refine lt1000 ?_; simp only [List.length_map, List.length_cons, List.length_nil, List.length_append]; omega) | (refine lt1000 ?_; omega))
local macro_rules | `(tactic| walk_at "ix") => `(tactic| first | rfl | with_reducible assumption)
local macro_rules | `(tactic| walk_at "rg") => `(tactic| exact RgOk.of_le (by omega) (by omega) (by omega) (by omega))
local macro_rules | `(tactic| walk_at "sp") => `(tactic| fail "sp")
local macro_rules | `(tactic| walk_at "cl") => `(tactic| with_reducible assumption)
local macro_rules | `(tactic| walk_at "lk") => `(tactic| with_reducible assumption)
local macro_rules | `(tactic| walk_at "it") => `(tactic| first | rfl | with_reducible assumption | exact atI_nat (by with_reducible assumption))
local macro_rules | `(tactic| walk_at "g1") => `(tactic| first
  | (with_reducible apply g_var); (focus rfl)
  | with_reducible apply g_c
  | with_reducible apply g_seq
  | with_reducible apply g_asg
  | with_reducible apply gg_name
  | with_reducible apply g_op
  | with_reducible apply g_cons
  | with_reducible apply g_nil
  | with_reducible apply g_cb
  | with_reducible apply g_fld
  | ((with_reducible apply g_kFld); (focus walk_at "hp"); (focus walk_at "cl"); (focus walk_at "cl"); (focus walk_at "lk"))
  | with_reducible apply g_call
  | walk_at "sp"
  | with_reducible apply g_ret
  | with_reducible apply g_drop
  | with_reducible apply g_test
  | with_reducible apply g_B
  | with_reducible apply g_kTest
  | with_reducible apply g_ifS
  | with_reducible apply g_kIfST
  | with_reducible apply g_kIfSF
  | with_reducible apply g_add
  | with_reducible apply g_sub
  | with_reducible apply g_lt
  | with_reducible apply g_le
  | with_reducible apply g_gt
  | with_reducible apply g_ge
  | with_reducible apply g_eqI
  | with_reducible apply g_neI
  | ((with_reducible apply g_mod); (focus first | decide | omega))
  | ((with_reducible apply g_mul); (focus first | (left; constructor <;> omega) | (right; constructor <;> omega)))
  | ((with_reducible apply g_fdiv); (focus (constructor <;> omega)))
  | ((with_reducible apply g_ixT); (focus walk_at "hp"); (focus walk_at "it"))
  | ((with_reducible apply g_ixL); (focus walk_at "hp"); (focus walk_at "it"))
  | with_reducible apply g_and
  | with_reducible apply g_or
  | with_reducible apply g_not
  | with_reducible apply g_kNotT
  | with_reducible apply g_kNotF
  | with_reducible apply g_if
  | with_reducible apply g_kAndT
  | with_reducible apply g_kAndF
  | with_reducible apply g_kOrT
  | with_reducible apply g_kOrF
  | with_reducible apply g_kIfT
  | with_reducible apply g_kIfF
  | with_reducible apply g_next
  | with_reducible apply g_andV
  | with_reducible apply g_orV
  | with_reducible apply g_notV
  | with_reducible apply g_kNotV
  | with_reducible apply g_kAndVT
  | with_reducible apply g_kAndVF
  | with_reducible apply g_chain
  | with_reducible apply g_kChainT
  | with_reducible apply g_kChainF
  | with_reducible apply g_tup
  | with_reducible apply g_lst
  | ((with_reducible apply g_kT); (focus walk_at "sz"); intro _ _ _ _ _)
  | ((with_reducible apply g_kL); (focus walk_at "sz"); intro _ _ _ _ _)
  | with_reducible apply g_un
  | with_reducible apply g_neg
  | with_reducible apply g_meth
  | ((with_reducible apply g_kMeth); (focus walk_at "hp"); (focus walk_at "lk"))
  | with_reducible apply g_prop
  | ((with_reducible apply g_kProp); (focus walk_at "hp"))
  | with_reducible apply g_make
  | with_reducible apply g_par
  | with_reducible apply g_kPar
  | ((with_reducible apply g_lenLM); (focus walk_at "hp"))
  | ((with_reducible apply g_lenTM); (focus walk_at "hp"))
  | ((with_reducible apply g_lenL); (focus walk_at "hp"))
  | ((with_reducible apply g_lenT); (focus walk_at "hp"))
  | with_reducible apply g_int1
  | with_reducible apply g_max2
  | with_reducible apply g_min2
  | ((with_reducible apply g_listL); (focus walk_at "hp"); intro _ _ _ _ _)
  | ((with_reducible apply g_listT); (focus walk_at "hp"); intro _ _ _ _ _)
  | ((with_reducible apply g_tupL); (focus walk_at "hp"); intro _ _ _ _ _)
  | ((with_reducible apply g_sum); (focus walk_at "hp"))
  | with_reducible apply g_sfld
  | with_reducible apply g_sl
  | with_reducible apply g_nopart
  | with_reducible apply g_part
  | with_reducible apply g_kPart
  | with_reducible apply g_lstRg
  | with_reducible apply g_rg1
  | with_reducible apply g_kRg1
  | with_reducible apply g_bm
  | with_reducible apply gg_sub
  | ((with_reducible apply gg_tup); (focus walk_at "hp"); (focus rfl))
  | with_reducible apply gg_cons
  | with_reducible apply gg_nil
  | with_reducible apply g_forL
  | with_reducible apply g_forT
  | with_reducible apply g_forR1
  | with_reducible apply g_forR2
  | with_reducible apply g_forE
  | with_reducible apply g_forEL
  | ((with_reducible apply g_maxT); (focus walk_at "hp"); (focus walk_at "nn"))
  | ((with_reducible apply g_maxL); (focus walk_at "hp"); (focus walk_at "nn"))
  | ((with_reducible apply g_catA); (focus walk_at "hp"); (focus walk_at "hp"); (focus walk_at "sz"); intro _ _ _ _)
  | ((with_reducible apply g_slA); (focus walk_at "hp"); intro _ _ _ _)
  | ((with_reducible apply g_tupD); (focus walk_at "hp"); intro _ _ _ _ _)
  | ((with_reducible apply g_setL); (focus walk_at "hp"); (focus walk_at "ix"); intro _ _ _)
  | ((with_reducible apply g_append); (focus walk_at "hp"); (focus walk_at "sl"); intro _ _ _)
  | ((with_reducible apply g_aug); (focus rfl))
  | with_reducible apply g_ipI
  | with_reducible apply g_retN
  | with_reducible apply g_lcR1
  | with_reducible apply g_lcR2
  | with_reducible apply g_lcL
  | with_reducible apply g_lcU
  | with_reducible apply g_lcN
  | ((with_reducible apply g_kLcG); (focus rfl))
  | with_reducible apply g_yes
  | with_reducible apply g_kLcTT
  | with_reducible apply g_kLcTF
  | ((with_reducible apply g_kLcE); (focus walk_at "hp"); (focus walk_at "sl"); intro _ _ _)
  | ((with_reducible apply g_pow); (focus (constructor <;> (try constructor) <;> decide)))
  | ((with_reducible apply g_kLRg); (focus walk_at "rg"); intro _ _ _ _ _)
  | ((with_reducible apply g_cat); (focus walk_at "hp"); (focus walk_at "hp"); (focus walk_at "sz"); intro _ _ _ _ _)
  | ((with_reducible apply g_slL); (focus walk_at "hp"); intro _ _ _ _ _)
  | with_reducible apply g_bmT
  | with_reducible apply g_break
  | with_reducible apply g_cont)
local macro_rules | `(tactic| walk_at "g0") => `(tactic| try dsimp only [L2.cxOf, L2.Cx.nox, L2.Cx.wish])
local macro_rules | `(tactic| walk_at "yn") => `(tactic| first
  | ((with_reducible apply y_kIfS); (focus walk_at "tr"))
  | ((with_reducible apply n_kIfS); (focus walk_at "tr"))
  | ((with_reducible apply y_kOr); (focus walk_at "tr"))
  | ((with_reducible apply n_kOr); (focus walk_at "tr"))
  | ((with_reducible apply y_kAnd); (focus walk_at "tr"))
  | ((with_reducible apply n_kAnd); (focus walk_at "tr"))
  | ((with_reducible apply y_kNot); (focus walk_at "tr"))
  | ((with_reducible apply n_kNot); (focus walk_at "tr"))
  | ((with_reducible apply y_kIf); (focus walk_at "tr"))
  | ((with_reducible apply n_kIf); (focus walk_at "tr"))
  | ((with_reducible apply y_kAndV); (focus walk_at "tr"))
  | ((with_reducible apply n_kAndV); (focus walk_at "tr"))
  | ((with_reducible apply y_kOrV); (focus walk_at "tr"))
  | ((with_reducible apply n_kOrV); (focus walk_at "tr"))
  | ((with_reducible apply y_kChain); (focus walk_at "tr"))
  | ((with_reducible apply n_kChain); (focus walk_at "tr"))
  | ((with_reducible apply y_kLcT); (focus walk_at "tr"))
  | ((with_reducible apply n_kLcT); (focus walk_at "tr"))
  | ((with_reducible apply y_kWh); (focus walk_at "tr"))
  | ((with_reducible apply n_kWh); (focus walk_at "tr")))
local macro_rules | `(tactic| walk_at "go") => `(tactic| repeat (first | walk_at "g1" | walk_at "yn"))
local macro_rules | `(tactic| walk_at "hp") => `(tactic| first
  | ((with_reducible apply RingIn.ex); (focus walk_at "as"); walk_at "hp")
  | ((with_reducible apply RingAt.ex); (focus walk_at "as"); walk_at "hp")
  | ((with_reducible apply RingIn.exb); (focus walk_at "as"); (focus walk_at "hp"); walk_at "hp")
  | ((with_reducible apply RingAt.exb); (focus walk_at "as"); (focus walk_at "hp"); walk_at "hp")
  | ((with_reducible apply TupK.ex); (focus walk_at "as"); walk_at "hp")
  | ((with_reducible apply TupK.exb); (focus walk_at "as"); (focus walk_at "hp"); walk_at "hp"))
local macro_rules | `(tactic| walk_at "lk") => `(tactic| first | with_reducible exact rf_spans | with_reducible exact rf_heaps | with_reducible exact rf_total | with_reducible exact rf_nr | with_reducible exact rf_wd)
local macro_rules | `(tactic| walk_at "sp") => `(tactic| first
  | ((with_reducible apply g_isiTup); (focus walk_at "hp"))
  | ((with_reducible apply g_isiLst); (focus walk_at "hp"))
  | ((with_reducible apply g_isint); (focus omega); (focus omega))
  | ((with_reducible apply g_checkn); (focus omega); (focus omega))
  | ((with_reducible apply g_rbooks); (focus walk_at "hp"))
  | ((with_reducible apply g_rpace); (focus walk_at "hp"); intro _ _ _ _)
  | ((with_reducible apply g_rlen); (focus walk_at "hp"))
  | ((with_reducible apply g_rneed); (focus walk_at "hp"); (focus omega))
  | ((with_reducible apply g_rneedM); (focus walk_at "hp"))
  | ((with_reducible apply g_rwithM); (focus walk_at "hp"))
  | ((with_reducible apply g_rspans); (focus walk_at "hp"); (focus with_reducible assumption))
  | ((with_reducible apply g_rheaps); (focus walk_at "hp"); (focus with_reducible assumption))
  | ((with_reducible apply g_rtotal); (focus walk_at "hp"); (focus with_reducible assumption)))

local macro_rules | `(tactic| walk_at "g1") => `(tactic| first | with_reducible apply g_zThen | with_reducible apply g_zPlain | with_reducible apply g_z0 | with_reducible apply g_zForL)
theorem Diary.ex {ds hs : List Int} (O : RingOk ds hs) (n : Nat) : ∃ es, Diary ds hs n es := by
  have go : ∀ m t left, left = n - (evt ds hs t).length → Wt ds hs t left m → ∃ u, n ≤ (evt ds hs u).length := by
    intro m
    induction m using Nat.strongRecOn with
    | ind m ih =>
      intro t left hl hw
      by_cases z : 0 < left
      · obtain ⟨m', h1, h2⟩ := Wt.next O z hw
        refine ih m' h1 (t + 1) _ ?_ h2
        show _ = n - (evt ds hs t ++ (scAt ds hs t).ended ds.length).length
        rw [List.length_append]
        omega
      · exact ⟨t, by omega⟩
  obtain ⟨m, hm⟩ := Wt.ex O 0 (n - (evt ds hs 0).length)
  obtain ⟨u, hu⟩ := go m 0 _ rfl hm
  exact ⟨_, u, hu, rfl⟩
/-- an entry of the first days is one of the diary's -/
theorem Diary.at_ {ds hs : List Int} {n m t : Nat} {es : List (Int × Int × Int)} {e : Int × Int × Int} (h : Diary ds hs n es) (hm : m < n) (he : (evt ds hs t)[m]? = some e) : es[m]? = some e := by
  obtain ⟨u, hu, rfl⟩ := h
  rw [List.getElem?_take_of_lt hm]
  rcases Nat.le_total t u with z | z
  · obtain ⟨r, e2⟩ := evt_pre (ds := ds) (hs := hs) z
    rw [e2, List.getElem?_append_left (List.getElem?_eq_some_iff.mp he).1]
    exact he
  · obtain ⟨r, e2⟩ := evt_pre (ds := ds) (hs := hs) z
    rw [e2, List.getElem?_append_left (by omega)] at he
    exact he
section
variable {P : Program} {w : World} {K : PySem.W.Frag} {mg : Str → Option Value} {base : Heap} {C SC : Addr}
def EntA (K : PySem.W.Frag) (H : Hp) (x : V) (e : Int × Int × Int) : Prop := ∃ p, x = .ref p ∧ SqT K H p [.int e.1, .int e.2.1, .int e.2.2]
/-- the consumer has a list fl, which alone it changes while the generator sleeps -/
def sp_diaryZ (K : PySem.W.Frag) (C : Addr) : SpZ := fun vs H S Yd Q => ∃ (r a b fl : Addr) (ds hs : List Int) (n : Nat) (es : List (Int × Int × Int)), vs = [.ref r, .int (n : Int)] ∧ RingIn K C H r a b ds hs ∧ n ≤ 500 ∧ Diary ds hs n es ∧ (∃ xs, H fl = some (.lst xs)) ∧ (∀ H1 H2, S H1 H2 → Exb fl H1 H2 ∧ ∃ xs, H2 fl = some (.lst xs)) ∧
  (∀ ys x H' e, es[ys.length]? = some e → EntA K H' x e → Yd ys x H') ∧ ∀ (ys : List V) H', ys.length = n → Q ys H'
set_option maxHeartbeats 8000000 in
theorem okz_diary (Z : Blt mg) (R : RingC K C) (RS : SceneC K SC) (c_MAX_ENTRIES : ∃ t, mg "MAX_ENTRIES" = some (.int 500 t)) (D_check_number : Df P w K mg base 2 "check_number" ["number", "low", "high"] sp_check_number)
    (D_first_scene : Df P w K mg base 4 "first_scene" ["ring"] (sp_first_scene K C SC)) (M_Scene_following : Mf P w K mg base SC 4 "following" ["self"] (sp_following K SC)) (G : GFun K mg "diary_of" s_diary_of) : Zf P w K mg base 5 "diary_of" ["ring", "count"] (sp_diaryZ K C) := by
  refine Zf.of G sc_diary_of (fun _ => rfl) b_diary_of (fun vs H S Yd Q h => ?_) (fun f cdv A outer l go e Phi H vs Sl Yd Q hr h => ?_)
  · obtain ⟨r, a, b, fl, ds, hs, n, es, rfl, _⟩ := h
    rfl
  · obtain ⟨r, a, b, fl, ds, hs, n, es, rfl, RI, hn, hes, ⟨xs0, hfl⟩, hsl, hyd, hq⟩ := h
    obtain ⟨cl_Scene, n1, n2, n3, n4, n5⟩ := RS
    have O := RI.ok
    have o8 := O.eight
    refine ⟨_, (zss_cons (zs_ps fun _ _ _ => (ps_expr (pg D_check_number hr (pa_cons (pv 1) (pa_cons pe_int (pa_cons (pint c_MAX_ENTRIES) pa_nil))))))
      (zss_cons (zs_ps fun _ _ _ => (ps_par (i := 2) (j := 3) rfl sc_diary_of.nd rfl rfl (by decide) rfl rfl (pa_cons (pg D_first_scene hr (pa_cons (pv 0) pa_nil)) (pa_cons (pv 1) pa_nil)) (by rfl)))
      (zss_cons (zs_while (fun _ _ _ => (pt_cmpR op_gt (pv 3) pe_int (nomark _))) (zss_cons (zs_ps fun _ _ _ => (ps_asg (pm0 (pv 2) cl_Scene M_Scene_following hr) (pg_tup (by rfl) (pgs_cons (pg_name (i := 2) sc_diary_of.nd rfl (by first | exact Or.inl rfl | exact Or.inr rfl)) (pgs_cons (pg_name (i := 4) sc_diary_of.nd rfl (by first | exact Or.inl rfl | exact Or.inr rfl)) pgs_nil)))))
          (zss_cons (zs_for (fun _ _ _ => (pi_list (pe_slice sl_list (pv 4) po_none (po_some (pv 3))))) (fun _ _ _ => (pg_name (i := 5) sc_diary_of.nd rfl (by first | exact Or.inl rfl | exact Or.inr rfl))) (zss_cons (zs_yield rfl fun _ _ _ => (pv 5))
          zss_nil))
          (zss_cons (zs_ps fun _ _ _ => (ps_aug (i := 3) sc_diary_of.nd rfl (by first | exact Or.inl rfl | exact Or.inr rfl) (pe_callB (c_min2 rfl) (by rfl) Z.zmin (by decide +kernel) (pa_cons (pv 3) (pa_cons (pe_callB c_len (by rfl) Z.zlen PySem.boot_len (pa_cons (pv 4) pa_nil)) pa_nil))) ip_sub))
          zss_nil))))
      zss_nil))), ?_⟩
    dsimp only [G48.ZF.cx, L2.cxOf]
    walk_at "go"
    refine ⟨r, a, b, ds, hs, rfl, RI, fun sc H1 nsc e1 S1 => ?_⟩
    walk_at "go"
    obtain ⟨m0, hm0⟩ := Wt.ex O 0 n
    refine g_zWh (fun m Hr ys σ H' => ∃ (t left : Nat) (s : Addr) (v4 v5 : Option V), σ = [some (.ref r), some (.int (n : Int)), some (.ref s), some (.int (left : Int)), v4, v5] ∧ Ex Hr H' ∧ (∃ xs, H' fl = some (.lst xs)) ∧ ScIn K SC H' s ds.length (scAt ds hs t) ∧
        ys.length = ((evt ds hs t).take n).length ∧ left = n - (evt ds hs t).length ∧ Wt ds hs t left m) m0 ⟨0, n, sc, _, _, rfl, e1, ⟨xs0, e1 _ _ hfl⟩, S1, by show 0 = (([] : List (Int × Int × Int)).take n).length; rw [List.take_nil]; rfl, by show n = n - 0; omega, hm0⟩ ?_
    rintro m Hr ys σ H2 ⟨t, left, s, v4, v5, rfl, e2, ⟨xs2, hfl2⟩, S2, E2, hleft, hm⟩
    walk_at "go"
    refine g_kZWh (fun hb => ?_) fun hb => ?_
    · have hl : 0 < left := by
        have := of_decide_eq_true hb
        omega
      have hlen : ys.length = (evt ds hs t).length := by rw [E2, List.length_take]; omega
      obtain ⟨dx2, fs2, p2, q2, r2, ho2, ⟨f1, f2, f3, f4, f5, f6, f7, f8⟩, _⟩ := id S2.obj
      walk_at "go"
      refine ⟨s, ds.length, _, rfl, scAt_ok O t, S2, fun p s' l zs H3 np ns nl nlp e3 hp S3 hl3 E3 => ?_⟩
      have hel := ended_len8 (N := ds.length) (s := scAt ds hs t)
      have hz := E3.1
      refine gg_tup (SqT.of (K := K) hp) rfl ?_
      walk_at "go"
      rename_i l4 H4 nl4 e4 hl4
      have hcut : cutV zs none (some ((left : Nat) : Int)) = zs.take left := by
        unfold cutV
        rw [HT.sIx_none, HT.sIx_nat, List.drop_zero, Nat.sub_zero, ← List.take_take, List.take_length]
      rw [hcut] at hl4
      have hfl4 := e4 _ _ (e3 _ _ hfl2)
      have n4 : l4 ≠ fl := Ne.symm (ne_of_none (e3 _ _ hfl2) nl4)
      have nlf : l ≠ fl := Ne.symm (ne_of_none hfl2 nl)
      refine g_kZForL (xs := zs.take left) (SqL.of hl4) (fun i Hr' ys' σ H' => ∃ v5, σ = [some (.ref r), some (.int (n : Int)), some (.ref s'), some (.int (left : Int)), some (.ref l), v5] ∧ Ex Hr' H' ∧ (∃ xs, H' fl = some (.lst xs)) ∧ ScIn K SC H' s' ds.length (scAt ds hs (t + 1)) ∧ H' l4 = some (.lst (zs.take left)) ∧ H' l = some (.lst zs) ∧ Ent K H' zs ((scAt ds hs t).ended ds.length) ∧ ys'.length = ys.length + i ∧ i ≤ (zs.take left).length)
        ⟨_, rfl, e2.trans (e3.trans e4), ⟨xs2, hfl4⟩, S3.ex e4, hl4, e4 _ _ hl3, E3.ex e4, rfl, Nat.zero_le _⟩ (fun i Hr' ys' σ H' _ hP => by
          obtain ⟨_, _, _, _, _, h, _⟩ := hP
          exact SqL.of h) ?_ ?_
      · rintro i x Hr' ys' σ H' hx ⟨v5, rfl, e5, ⟨xs5, hfl5⟩, S5, h4, h5, E5, hy, _⟩
        have hi := (List.getElem?_eq_some_iff.mp hx).1
        have hi2 := hi
        rw [List.length_take] at hi
        walk_at "go"
        refine g_zYield (sz1000 ?_) ?_
        · omega
        walk_at "go"
        have hee : ((scAt ds hs t).ended ds.length)[i]? = some ((scAt ds hs t).ended ds.length)[i] := List.getElem?_eq_getElem (by omega)
        obtain ⟨p5, hx5, hp5⟩ := E5.2 i _ hee
        rw [List.getElem?_take_of_lt (by omega)] at hx
        rw [hx] at hx5
        refine ⟨e5, hyd ys' x H' _ (hes.at_ (t := t + 1) (by omega) ?_) ⟨p5, Option.some.inj hx5, hp5⟩, fun H6 hS => ?_⟩
        · show (evt ds hs t ++ (scAt ds hs t).ended ds.length)[ys'.length]? = _
          rw [List.getElem?_append_right (by omega), hy, hlen, Nat.add_sub_cancel_left]
          exact hee
        · obtain ⟨e6, xs6, hfl6⟩ := hsl _ _ hS
          refine ⟨_, rfl, Ex.refl _, ⟨xs6, hfl6⟩, S5.exb e6 hfl5, e6 _ _ n4 h4, e6 _ _ nlf h5, E5.exb e6 hfl5, by rw [List.length_append, hy]; rfl, by rw [List.length_take] at hi2 ⊢; omega⟩
      · rintro Hr' ys' σ H' ⟨v5, rfl, e5, hfl5, S5, h4, h5, E5, hy, _⟩
        walk_at "go"
        obtain ⟨m', hmm, hw⟩ := Wt.next O hl hm
        rw [show (left : Int) - min (left : Int) (zs.length : Int) = ((left - ((scAt ds hs t).ended ds.length).length : Nat) : Int) by rw [hz]; omega]
        refine ⟨m', hmm, t + 1, left - ((scAt ds hs t).ended ds.length).length, s', _, _, rfl, e5, hfl5, S5, ?_, ?_, hw⟩
        · show _ = ((evt ds hs t ++ (scAt ds hs t).ended ds.length).take n).length
          rw [hy, List.length_take, List.length_take, List.length_append]
          omega
        · show _ = n - (evt ds hs t ++ (scAt ds hs t).ended ds.length).length
          rw [List.length_append]
          omega
    · have hl : left = 0 := by
        have := of_decide_eq_false hb
        omega
      exact ⟨e2, hq ys H2 (by rw [E2, List.length_take]; omega)⟩
end
end G48

namespace G48
open PySem PySem.Spec PyProof.Rows L2 Evl
abbrev N_DiaryError___init__ : List Str := ["self", "entry"]
theorem sc_DiaryError___init__ : FnScope N_DiaryError___init__ ["self", "entry"] (defScope s_DiaryError___init__) := ⟨rfl, rfl, rfl, by decide +kernel, rfl, by decide +kernel, by decide +kernel⟩
theorem b_DiaryError___init__ : BindL "DiaryError.__init__" "__init__" s_DiaryError___init__ ["self", "entry"] := fun _ _ _ _ _ _ us hl => match us, hl with | [_, _], _ => rfl
end G48
--lib Q
--lib P
/-! DiaryError(entry): the error made, its field -/
namespace G48
open PySem PySem.Spec PyProof.Rows L2 Evl
/-! the steps -/
local macro_rules | `(tactic| walk_at "as") => `(tactic| with_reducible assumption)
local macro_rules | `(tactic| walk_at "hp") => `(tactic| first
  | with_reducible assumption
  | ((with_reducible apply SqT.of); walk_at "as")
  | ((with_reducible apply SqL.of); walk_at "as")
  | ((with_reducible apply ex_at); (focus walk_at "as"); walk_at "hp")
  | ((with_reducible apply ex_t); (focus walk_at "as"); walk_at "hp")
  | ((with_reducible apply ex_l); (focus walk_at "as"); walk_at "hp")
  | ((with_reducible apply exb_ins); (focus walk_at "as"); (focus walk_at "hp"); walk_at "hp")
  | ((with_reducible apply exb_t); (focus walk_at "as"); (focus walk_at "hp"); walk_at "hp")
  | ((with_reducible apply exb_at); (focus walk_at "as"); (focus walk_at "ne"); walk_at "hp")
  | ((with_reducible apply exb_l); (focus walk_at "as"); (focus walk_at "ne"); walk_at "hp"))
local macro_rules | `(tactic| walk_at "ne") => `(tactic| first
  | with_reducible assumption
  | exact Ne.symm (by with_reducible assumption)
  | exact ne_of_none (by with_reducible assumption) (by with_reducible assumption)
  | exact Ne.symm (ne_of_none (by with_reducible assumption) (by with_reducible assumption)))
local macro_rules | `(tactic| walk_at "tr") => `(tactic| first
  | rfl
  | with_reducible assumption
  | exact decide_eq_true (by first | with_reducible assumption | omega)
  | exact decide_eq_false (by first | with_reducible assumption | omega)
  | (rw [Bool.not_eq_true']; exact decide_eq_false (by first | with_reducible assumption | omega))
  | (rw [Bool.not_eq_false']; exact decide_eq_true (by first | with_reducible assumption | omega)))
local macro_rules | `(tactic| walk_at "nn") => `(tactic| first | with_reducible assumption | (exact List.cons_ne_nil _ _))
local macro_rules | `(tactic| walk_at "sz") => `(tactic| first | (exact sz1000 (Nat.le_of_ble_eq_true rfl)) | (refine sz1000 ?_; simp only [List.length_map, List.length_cons, List.length_nil, List.length_append]; omega) | with_reducible assumption)
local macro_rules | `(tactic| walk_at "sl") => `(tactic| first | with_reducible assumption | (refine lt1000 ?_; simp only [List.length_map, List.length_cons, List.length_nil, List.length_append]; omega) | (refine lt1000 ?_; omega))
local macro_rules | `(tactic| walk_at "ix") => `(tactic| first | rfl | with_reducible assumption)
local macro_rules | `(tactic| walk_at "rg") => `(tactic| exact RgOk.of_le (by omega) (by omega) (by omega) (by omega))
local macro_rules | `(tactic| walk_at "sp") => `(tactic| fail "sp")
local macro_rules | `(tactic| walk_at "cl") => `(tactic| with_reducible assumption)
local macro_rules | `(tactic| walk_at "lk") => `(tactic| with_reducible assumption)
local macro_rules | `(tactic| walk_at "it") => `(tactic| first | rfl | with_reducible assumption | exact atI_nat (by with_reducible assumption))
local macro_rules | `(tactic| walk_at "g1") => `(tactic| first
  | (with_reducible apply g_var); (focus rfl)
  | with_reducible apply g_c
  | with_reducible apply g_seq
  | with_reducible apply g_asg
  | with_reducible apply gg_name
  | with_reducible apply g_op
  | with_reducible apply g_cons
  | with_reducible apply g_nil
  | with_reducible apply g_cb
  | with_reducible apply g_fld
  | ((with_reducible apply g_kFld); (focus walk_at "hp"); (focus walk_at "cl"); (focus walk_at "cl"); (focus walk_at "lk"))
  | with_reducible apply g_call
  | walk_at "sp"
  | with_reducible apply g_ret
  | with_reducible apply g_drop
  | with_reducible apply g_test
  | with_reducible apply g_B
  | with_reducible apply g_kTest
  | with_reducible apply g_ifS
  | with_reducible apply g_kIfST
  | with_reducible apply g_kIfSF
  | with_reducible apply g_add
  | with_reducible apply g_sub
  | with_reducible apply g_lt
  | with_reducible apply g_le
  | with_reducible apply g_gt
  | with_reducible apply g_ge
  | with_reducible apply g_eqI
  | with_reducible apply g_neI
  | ((with_reducible apply g_mod); (focus first | decide | omega))
  | ((with_reducible apply g_mul); (focus first | (left; constructor <;> omega) | (right; constructor <;> omega)))
  | ((with_reducible apply g_fdiv); (focus (constructor <;> omega)))
  | ((with_reducible apply g_ixT); (focus walk_at "hp"); (focus walk_at "it"))
  | ((with_reducible apply g_ixL); (focus walk_at "hp"); (focus walk_at "it"))
  | with_reducible apply g_and
  | with_reducible apply g_or
  | with_reducible apply g_not
  | with_reducible apply g_kNotT
  | with_reducible apply g_kNotF
  | with_reducible apply g_if
  | with_reducible apply g_kAndT
  | with_reducible apply g_kAndF
  | with_reducible apply g_kOrT
  | with_reducible apply g_kOrF
  | with_reducible apply g_kIfT
  | with_reducible apply g_kIfF
  | with_reducible apply g_next
  | with_reducible apply g_andV
  | with_reducible apply g_orV
  | with_reducible apply g_notV
  | with_reducible apply g_kNotV
  | with_reducible apply g_kAndVT
  | with_reducible apply g_kAndVF
  | with_reducible apply g_chain
  | with_reducible apply g_kChainT
  | with_reducible apply g_kChainF
  | with_reducible apply g_tup
  | with_reducible apply g_lst
  | ((with_reducible apply g_kT); (focus walk_at "sz"); intro _ _ _ _ _)
  | ((with_reducible apply g_kL); (focus walk_at "sz"); intro _ _ _ _ _)
  | with_reducible apply g_un
  | with_reducible apply g_neg
  | with_reducible apply g_meth
  | ((with_reducible apply g_kMeth); (focus walk_at "hp"); (focus walk_at "lk"))
  | with_reducible apply g_prop
  | ((with_reducible apply g_kProp); (focus walk_at "hp"))
  | with_reducible apply g_make
  | with_reducible apply g_par
  | with_reducible apply g_kPar
  | ((with_reducible apply g_lenLM); (focus walk_at "hp"))
  | ((with_reducible apply g_lenTM); (focus walk_at "hp"))
  | ((with_reducible apply g_lenL); (focus walk_at "hp"))
  | ((with_reducible apply g_lenT); (focus walk_at "hp"))
  | with_reducible apply g_int1
  | with_reducible apply g_max2
  | with_reducible apply g_min2
  | ((with_reducible apply g_listL); (focus walk_at "hp"); intro _ _ _ _ _)
  | ((with_reducible apply g_listT); (focus walk_at "hp"); intro _ _ _ _ _)
  | ((with_reducible apply g_tupL); (focus walk_at "hp"); intro _ _ _ _ _)
  | ((with_reducible apply g_sum); (focus walk_at "hp"))
  | with_reducible apply g_sfld
  | with_reducible apply g_sl
  | with_reducible apply g_nopart
  | with_reducible apply g_part
  | with_reducible apply g_kPart
  | with_reducible apply g_lstRg
  | with_reducible apply g_rg1
  | with_reducible apply g_kRg1
  | with_reducible apply g_bm
  | with_reducible apply gg_sub
  | ((with_reducible apply gg_tup); (focus walk_at "hp"); (focus rfl))
  | with_reducible apply gg_cons
  | with_reducible apply gg_nil
  | with_reducible apply g_forL
  | with_reducible apply g_forT
  | with_reducible apply g_forR1
  | with_reducible apply g_forR2
  | with_reducible apply g_forE
  | with_reducible apply g_forEL
  | ((with_reducible apply g_maxT); (focus walk_at "hp"); (focus walk_at "nn"))
  | ((with_reducible apply g_maxL); (focus walk_at "hp"); (focus walk_at "nn"))
  | ((with_reducible apply g_catA); (focus walk_at "hp"); (focus walk_at "hp"); (focus walk_at "sz"); intro _ _ _ _)
  | ((with_reducible apply g_slA); (focus walk_at "hp"); intro _ _ _ _)
  | ((with_reducible apply g_tupD); (focus walk_at "hp"); intro _ _ _ _ _)
  | ((with_reducible apply g_setL); (focus walk_at "hp"); (focus walk_at "ix"); intro _ _ _)
  | ((with_reducible apply g_append); (focus walk_at "hp"); (focus walk_at "sl"); intro _ _ _)
  | ((with_reducible apply g_aug); (focus rfl))
  | with_reducible apply g_ipI
  | with_reducible apply g_retN
  | with_reducible apply g_lcR1
  | with_reducible apply g_lcR2
  | with_reducible apply g_lcL
  | with_reducible apply g_lcU
  | with_reducible apply g_lcN
  | ((with_reducible apply g_kLcG); (focus rfl))
  | with_reducible apply g_yes
  | with_reducible apply g_kLcTT
  | with_reducible apply g_kLcTF
  | ((with_reducible apply g_kLcE); (focus walk_at "hp"); (focus walk_at "sl"); intro _ _ _)
  | ((with_reducible apply g_pow); (focus (constructor <;> (try constructor) <;> decide)))
  | ((with_reducible apply g_kLRg); (focus walk_at "rg"); intro _ _ _ _ _)
  | ((with_reducible apply g_cat); (focus walk_at "hp"); (focus walk_at "hp"); (focus walk_at "sz"); intro _ _ _ _ _)
  | ((with_reducible apply g_slL); (focus walk_at "hp"); intro _ _ _ _ _)
  | with_reducible apply g_bmT
  | with_reducible apply g_break
  | with_reducible apply g_cont)
local macro_rules | `(tactic| walk_at "g0") => `(tactic| try dsimp only [L2.cxOf, L2.Cx.nox, L2.Cx.wish])
local macro_rules | `(tactic| walk_at "yn") => `(tactic| first
  | ((with_reducible apply y_kIfS); (focus walk_at "tr"))
  | ((with_reducible apply n_kIfS); (focus walk_at "tr"))
  | ((with_reducible apply y_kOr); (focus walk_at "tr"))
  | ((with_reducible apply n_kOr); (focus walk_at "tr"))
  | ((with_reducible apply y_kAnd); (focus walk_at "tr"))
  | ((with_reducible apply n_kAnd); (focus walk_at "tr"))
  | ((with_reducible apply y_kNot); (focus walk_at "tr"))
  | ((with_reducible apply n_kNot); (focus walk_at "tr"))
  | ((with_reducible apply y_kIf); (focus walk_at "tr"))
  | ((with_reducible apply n_kIf); (focus walk_at "tr"))
  | ((with_reducible apply y_kAndV); (focus walk_at "tr"))
  | ((with_reducible apply n_kAndV); (focus walk_at "tr"))
  | ((with_reducible apply y_kOrV); (focus walk_at "tr"))
  | ((with_reducible apply n_kOrV); (focus walk_at "tr"))
  | ((with_reducible apply y_kChain); (focus walk_at "tr"))
  | ((with_reducible apply n_kChain); (focus walk_at "tr"))
  | ((with_reducible apply y_kLcT); (focus walk_at "tr"))
  | ((with_reducible apply n_kLcT); (focus walk_at "tr"))
  | ((with_reducible apply y_kWh); (focus walk_at "tr"))
  | ((with_reducible apply n_kWh); (focus walk_at "tr")))
local macro_rules | `(tactic| walk_at "go") => `(tactic| repeat (first | walk_at "g1" | walk_at "yn"))
local macro_rules | `(tactic| walk_at "hp") => `(tactic| first
  | ((with_reducible apply RingIn.ex); (focus walk_at "as"); walk_at "hp")
  | ((with_reducible apply RingAt.ex); (focus walk_at "as"); walk_at "hp")
  | ((with_reducible apply RingIn.exb); (focus walk_at "as"); (focus walk_at "hp"); walk_at "hp")
  | ((with_reducible apply RingAt.exb); (focus walk_at "as"); (focus walk_at "hp"); walk_at "hp")
  | ((with_reducible apply TupK.ex); (focus walk_at "as"); walk_at "hp")
  | ((with_reducible apply TupK.exb); (focus walk_at "as"); (focus walk_at "hp"); walk_at "hp"))
local macro_rules | `(tactic| walk_at "lk") => `(tactic| first | with_reducible exact rf_spans | with_reducible exact rf_heaps | with_reducible exact rf_total | with_reducible exact rf_nr | with_reducible exact rf_wd)
local macro_rules | `(tactic| walk_at "sp") => `(tactic| first
  | ((with_reducible apply g_isiTup); (focus walk_at "hp"))
  | ((with_reducible apply g_isiLst); (focus walk_at "hp"))
  | ((with_reducible apply g_isint); (focus omega); (focus omega))
  | ((with_reducible apply g_checkn); (focus omega); (focus omega))
  | ((with_reducible apply g_rbooks); (focus walk_at "hp"))
  | ((with_reducible apply g_rpace); (focus walk_at "hp"); intro _ _ _ _)
  | ((with_reducible apply g_rlen); (focus walk_at "hp"))
  | ((with_reducible apply g_rneed); (focus walk_at "hp"); (focus omega))
  | ((with_reducible apply g_rneedM); (focus walk_at "hp"))
  | ((with_reducible apply g_rwithM); (focus walk_at "hp"))
  | ((with_reducible apply g_rspans); (focus walk_at "hp"); (focus with_reducible assumption))
  | ((with_reducible apply g_rheaps); (focus walk_at "hp"); (focus with_reducible assumption))
  | ((with_reducible apply g_rtotal); (focus walk_at "hp"); (focus with_reducible assumption)))

section
variable {P : Program} {w : World} {K : PySem.W.Frag} {mg : Str → Option Value} {base : Heap}
theorem int_len {i : Int} (h : -1 ≤ i ∧ i ≤ 600) : i.natAbs.log2 < 1920 ∧ Str.length (toString i) ≤ 5 := by
  have key : ∀ n : Fin 602, ((n.val : Int) - 1).natAbs.log2 < 1920 ∧ Str.length (toString ((n.val : Int) - 1)) ≤ 5 := by decide +kernel
  have e := key ⟨(i + 1).toNat, by omega⟩
  rw [show (((i + 1).toNat : Nat) : Int) - 1 = i by omega] at e
  exact e
def sp_initE (K : PySem.W.Frag) (C : Addr) : Sp := fun vs H Q _ => ∃ (a : Addr) (i : Int), vs = [.ref a, .int i] ∧ H a = some (exo a C none) ∧ (-1 ≤ i ∧ i ≤ 600) ∧ ∀ dx, H dx = none → dx ≠ a → Q .non (upd (upd H dx (exd dx [("entry", .int i)])) a (exo a C (some dx)))
theorem ok_DiaryError (Z : Blt mg) (Err_DiaryError : ErrN K (He.ga K "DiaryError") erNm 6 5 ["entry"]) (Rin_ReadingError : RinC K (He.ga K "ReadingError")) (g_ReadingError : mg "ReadingError" = some (.ref (He.ga K "ReadingError"))) (g_DiaryError : mg "DiaryError" = some (.ref (He.ga K "DiaryError")))
    (G : CFun K (He.ga K "DiaryError") "__init__" "DiaryError.__init__" s_DiaryError___init__) : Ef P w K mg base "DiaryError" (He.ga K "DiaryError") 1 ["self", "entry"] (sp_initE K (He.ga K "DiaryError")) := by
  refine Ef.of G g_DiaryError sc_DiaryError___init__ b_DiaryError___init__ (fun vs H Q E h => ?_) (fun f cdv A outer s H vs Q E hr h => ?_)
  · obtain ⟨a, i, rfl, _⟩ := h
    rfl
  · obtain ⟨a, i, rfl, ha, hi, q⟩ := h
    refine ⟨_, PSs.nox (pss_cons (ps_expr (pe_rinit Rin_ReadingError g_ReadingError (pa_cons (pv 0) (pa_cons (pe_joined (.cons pe_str (.cons (pe_fmt (pv 1)) .nil))) pa_nil))))
      (pss_one (ps_ost (pv 0) (pv 1)))), ?_⟩
    walk_at "g0"
    walk_at "go"
    obtain ⟨l1, l2⟩ := int_len hi
    refine ⟨.ref a, rfl, Str.ofString "wrong entry ", rfl, (by rw [sizeLine_eq]; decide), .int i, rfl, .inr ⟨i, rfl, l1, toString i, rfl, ?_, ?_⟩⟩
    · have l3 : Str.length (Str.empty ++ Str.ofString "wrong entry ") ≤ 30 := by decide
      rw [Str.length_append, sizeLine_eq]
      omega
    · refine ⟨a, _, [.str _], rfl, (by show 1 ≤ 1000; omega), Err_DiaryError.ox, ha, .int i, rfl, .ref a, rfl, a, _, rfl, Err_DiaryError.ox, Err_DiaryError.no _ (by decide), .inl ⟨ha, fun dx n ne => ?_⟩⟩
      exact q dx n ne
def kMkO (C : Addr) (sp : Sp) (Q : XK) : List V → Hp → Prop := fun vs H1 => vs.length ≤ 1000 ∧ ∀ a, H1 a = none → sp (.ref a :: (vs ++ [])) (upd H1 a (exo a C none))
  (fun v H2 => v = .non ∧ ∃ (d : Addr) (fs : List (Str × V)), H2 a = some (exo a C (some d)) ∧ H2 d = some (exd d fs) ∧ H1 d = none ∧ Q (.ref C) (some d) (upd (del H2 a) d (.xd fs))) (fun _ _ _ => False)
theorem g_tMkO {C : Addr} {sp : Sp} {ta : TA} {σ : L2.St} {H : Hp} {Q : XK} (h : ta σ H (kMkO C sp Q)) : tMkO C sp [] ta σ H Q := h
/-- DiaryError(i) made: at a new place stands its dict -/
theorem g_mkE {C : Addr} {H : Hp} {Q : XK} {i : Int} (hi : -1 ≤ i ∧ i ≤ 600) (q : ∀ d, H d = none → Q (.ref C) (some d) (upd H d (.xd [("entry", .int i)]))) : kMkO C (sp_initE K C) Q [.int i] H := by
  refine ⟨(by show 1 ≤ 1000; omega), fun a na => ⟨a, i, rfl, upd_same, hi, fun dx nx ne => ⟨rfl, dx, [("entry", .int i)], upd_same, by rw [upd_ne ne, upd_same], ?_, ?_⟩⟩⟩
  · rw [upd_ne ne] at nx
    exact nx
  · have e : upd (del (upd (upd (upd H a (exo a C none)) dx (exd dx [("entry", .int i)])) a (exo a C (some dx))) a) dx (.xd [("entry", .int i)]) = upd H dx (.xd [("entry", .int i)]) := by
      funext b
      by_cases hb : b = dx
      · rw [hb, upd_same, upd_same]
      · rw [upd_ne hb, upd_ne hb]
        by_cases hb2 : b = a
        · rw [hb2, del_same, na]
        · rw [del_ne hb2, upd_ne hb2, upd_ne hb, upd_ne hb2]
    rw [e]
    rw [upd_ne ne] at nx
    exact q dx nx
end
end G48

namespace G48
open PySem PySem.Spec PyProof.Rows L2 Evl
abbrev N_is_alike : List Str := ["value", "due"]
theorem sc_is_alike : FnScope N_is_alike ["value", "due"] (defScope s_is_alike) := ⟨rfl, rfl, rfl, by decide +kernel, rfl, by decide +kernel, by decide +kernel⟩
theorem b_is_alike : BindL "is_alike" "is_alike" s_is_alike ["value", "due"] := fun _ _ _ _ _ _ us hl => match us, hl with | [_, _], _ => rfl
abbrev N_fits : List Str := ["entry", "due", "value", "number"]
theorem sc_fits : FnScope N_fits ["entry", "due"] (defScope s_fits) := ⟨rfl, rfl, rfl, by decide +kernel, rfl, by decide +kernel, by decide +kernel⟩
theorem b_fits : BindL "fits" "fits" s_fits ["entry", "due"] := fun _ _ _ _ _ _ us hl => match us, hl with | [_, _], _ => rfl
end G48
--lib W
--lib Q
--lib P
/-! is_alike, fits: an entry of any shape -/
namespace G48
open PySem PySem.Spec PyProof.Rows L2 Evl
/-! the steps -/
local macro_rules | `(tactic| walk_at "as") => `(tactic| with_reducible assumption)
local macro_rules | `(tactic| walk_at "hp") => `(tactic| first
  | with_reducible assumption
  | ((with_reducible apply SqT.of); walk_at "as")
  | ((with_reducible apply SqL.of); walk_at "as")
  | ((with_reducible apply ex_at); (focus walk_at "as"); walk_at "hp")
  | ((with_reducible apply ex_t); (focus walk_at "as"); walk_at "hp")
  | ((with_reducible apply ex_l); (focus walk_at "as"); walk_at "hp")
  | ((with_reducible apply exb_ins); (focus walk_at "as"); (focus walk_at "hp"); walk_at "hp")
  | ((with_reducible apply exb_t); (focus walk_at "as"); (focus walk_at "hp"); walk_at "hp")
  | ((with_reducible apply exb_at); (focus walk_at "as"); (focus walk_at "ne"); walk_at "hp")
  | ((with_reducible apply exb_l); (focus walk_at "as"); (focus walk_at "ne"); walk_at "hp"))
local macro_rules | `(tactic| walk_at "ne") => `(tactic| first
  | with_reducible assumption
  | exact Ne.symm (by with_reducible assumption)
  | exact ne_of_none (by with_reducible assumption) (by with_reducible assumption)
  | exact Ne.symm (ne_of_none (by with_reducible assumption) (by with_reducible assumption)))
local macro_rules | `(tactic| walk_at "tr") => `(tactic| first
  | rfl
  | with_reducible assumption
  | exact decide_eq_true (by first | with_reducible assumption | omega)
  | exact decide_eq_false (by first | with_reducible assumption | omega)
  | (rw [Bool.not_eq_true']; exact decide_eq_false (by first | with_reducible assumption | omega))
  | (rw [Bool.not_eq_false']; exact decide_eq_true (by first | with_reducible assumption | omega)))
local macro_rules | `(tactic| walk_at "nn") => `(tactic| first | with_reducible assumption | (exact List.cons_ne_nil _ _))
local macro_rules | `(tactic| walk_at "sz") => `(tactic| first | (exact sz1000 (Nat.le_of_ble_eq_true rfl)) | (refine sz1000 ?_; simp only [List.length_map, List.length_cons, List.length_nil, List.length_append]; omega) | with_reducible assumption)
local macro_rules | `(tactic| walk_at "sl") => `(tactic| first | with_reducible assumption | (refine lt1000 ?_; simp only [List.length_map, List.length_cons, List.length_nil, List.length_append]; omega) | (refine lt1000 ?_; omega))
local macro_rules | `(tactic| walk_at "ix") => `(tactic| first | rfl | with_reducible assumption)
local macro_rules | `(tactic| walk_at "rg") => `(tactic| exact RgOk.of_le (by omega) (by omega) (by omega) (by omega))
local macro_rules | `(tactic| walk_at "sp") => `(tactic| fail "sp")
local macro_rules | `(tactic| walk_at "cl") => `(tactic| with_reducible assumption)
local macro_rules | `(tactic| walk_at "lk") => `(tactic| with_reducible assumption)
local macro_rules | `(tactic| walk_at "it") => `(tactic| first | rfl | with_reducible assumption | exact atI_nat (by with_reducible assumption))
local macro_rules | `(tactic| walk_at "g1") => `(tactic| first
  | (with_reducible apply g_var); (focus rfl)
  | with_reducible apply g_c
  | with_reducible apply g_seq
  | with_reducible apply g_asg
  | with_reducible apply gg_name
  | with_reducible apply g_op
  | with_reducible apply g_cons
  | with_reducible apply g_nil
  | with_reducible apply g_cb
  | with_reducible apply g_fld
  | ((with_reducible apply g_kFld); (focus walk_at "hp"); (focus walk_at "cl"); (focus walk_at "cl"); (focus walk_at "lk"))
  | with_reducible apply g_call
  | walk_at "sp"
  | with_reducible apply g_ret
  | with_reducible apply g_drop
  | with_reducible apply g_test
  | with_reducible apply g_B
  | with_reducible apply g_kTest
  | with_reducible apply g_ifS
  | with_reducible apply g_kIfST
  | with_reducible apply g_kIfSF
  | with_reducible apply g_add
  | with_reducible apply g_sub
  | with_reducible apply g_lt
  | with_reducible apply g_le
  | with_reducible apply g_gt
  | with_reducible apply g_ge
  | with_reducible apply g_eqI
  | with_reducible apply g_neI
  | ((with_reducible apply g_mod); (focus first | decide | omega))
  | ((with_reducible apply g_mul); (focus first | (left; constructor <;> omega) | (right; constructor <;> omega)))
  | ((with_reducible apply g_fdiv); (focus (constructor <;> omega)))
  | ((with_reducible apply g_ixT); (focus walk_at "hp"); (focus walk_at "it"))
  | ((with_reducible apply g_ixL); (focus walk_at "hp"); (focus walk_at "it"))
  | with_reducible apply g_and
  | with_reducible apply g_or
  | with_reducible apply g_not
  | with_reducible apply g_kNotT
  | with_reducible apply g_kNotF
  | with_reducible apply g_if
  | with_reducible apply g_kAndT
  | with_reducible apply g_kAndF
  | with_reducible apply g_kOrT
  | with_reducible apply g_kOrF
  | with_reducible apply g_kIfT
  | with_reducible apply g_kIfF
  | with_reducible apply g_next
  | with_reducible apply g_andV
  | with_reducible apply g_orV
  | with_reducible apply g_notV
  | with_reducible apply g_kNotV
  | with_reducible apply g_kAndVT
  | with_reducible apply g_kAndVF
  | with_reducible apply g_chain
  | with_reducible apply g_kChainT
  | with_reducible apply g_kChainF
  | with_reducible apply g_tup
  | with_reducible apply g_lst
  | ((with_reducible apply g_kT); (focus walk_at "sz"); intro _ _ _ _ _)
  | ((with_reducible apply g_kL); (focus walk_at "sz"); intro _ _ _ _ _)
  | with_reducible apply g_un
  | with_reducible apply g_neg
  | with_reducible apply g_meth
  | ((with_reducible apply g_kMeth); (focus walk_at "hp"); (focus walk_at "lk"))
  | with_reducible apply g_prop
  | ((with_reducible apply g_kProp); (focus walk_at "hp"))
  | with_reducible apply g_make
  | with_reducible apply g_par
  | with_reducible apply g_kPar
  | ((with_reducible apply g_lenLM); (focus walk_at "hp"))
  | ((with_reducible apply g_lenTM); (focus walk_at "hp"))
  | ((with_reducible apply g_lenL); (focus walk_at "hp"))
  | ((with_reducible apply g_lenT); (focus walk_at "hp"))
  | with_reducible apply g_int1
  | with_reducible apply g_max2
  | with_reducible apply g_min2
  | ((with_reducible apply g_listL); (focus walk_at "hp"); intro _ _ _ _ _)
  | ((with_reducible apply g_listT); (focus walk_at "hp"); intro _ _ _ _ _)
  | ((with_reducible apply g_tupL); (focus walk_at "hp"); intro _ _ _ _ _)
  | ((with_reducible apply g_sum); (focus walk_at "hp"))
  | with_reducible apply g_sfld
  | with_reducible apply g_sl
  | with_reducible apply g_nopart
  | with_reducible apply g_part
  | with_reducible apply g_kPart
  | with_reducible apply g_lstRg
  | with_reducible apply g_rg1
  | with_reducible apply g_kRg1
  | with_reducible apply g_bm
  | with_reducible apply gg_sub
  | ((with_reducible apply gg_tup); (focus walk_at "hp"); (focus rfl))
  | with_reducible apply gg_cons
  | with_reducible apply gg_nil
  | with_reducible apply g_forL
  | with_reducible apply g_forT
  | with_reducible apply g_forR1
  | with_reducible apply g_forR2
  | with_reducible apply g_forE
  | with_reducible apply g_forEL
  | ((with_reducible apply g_maxT); (focus walk_at "hp"); (focus walk_at "nn"))
  | ((with_reducible apply g_maxL); (focus walk_at "hp"); (focus walk_at "nn"))
  | ((with_reducible apply g_catA); (focus walk_at "hp"); (focus walk_at "hp"); (focus walk_at "sz"); intro _ _ _ _)
  | ((with_reducible apply g_slA); (focus walk_at "hp"); intro _ _ _ _)
  | ((with_reducible apply g_tupD); (focus walk_at "hp"); intro _ _ _ _ _)
  | ((with_reducible apply g_setL); (focus walk_at "hp"); (focus walk_at "ix"); intro _ _ _)
  | ((with_reducible apply g_append); (focus walk_at "hp"); (focus walk_at "sl"); intro _ _ _)
  | ((with_reducible apply g_aug); (focus rfl))
  | with_reducible apply g_ipI
  | with_reducible apply g_retN
  | with_reducible apply g_lcR1
  | with_reducible apply g_lcR2
  | with_reducible apply g_lcL
  | with_reducible apply g_lcU
  | with_reducible apply g_lcN
  | ((with_reducible apply g_kLcG); (focus rfl))
  | with_reducible apply g_yes
  | with_reducible apply g_kLcTT
  | with_reducible apply g_kLcTF
  | ((with_reducible apply g_kLcE); (focus walk_at "hp"); (focus walk_at "sl"); intro _ _ _)
  | ((with_reducible apply g_pow); (focus (constructor <;> (try constructor) <;> decide)))
  | ((with_reducible apply g_kLRg); (focus walk_at "rg"); intro _ _ _ _ _)
  | ((with_reducible apply g_cat); (focus walk_at "hp"); (focus walk_at "hp"); (focus walk_at "sz"); intro _ _ _ _ _)
  | ((with_reducible apply g_slL); (focus walk_at "hp"); intro _ _ _ _ _)
  | with_reducible apply g_bmT
  | with_reducible apply g_break
  | with_reducible apply g_cont)
local macro_rules | `(tactic| walk_at "g0") => `(tactic| try dsimp only [L2.cxOf, L2.Cx.nox, L2.Cx.wish])
local macro_rules | `(tactic| walk_at "yn") => `(tactic| first
  | ((with_reducible apply y_kIfS); (focus walk_at "tr"))
  | ((with_reducible apply n_kIfS); (focus walk_at "tr"))
  | ((with_reducible apply y_kOr); (focus walk_at "tr"))
  | ((with_reducible apply n_kOr); (focus walk_at "tr"))
  | ((with_reducible apply y_kAnd); (focus walk_at "tr"))
  | ((with_reducible apply n_kAnd); (focus walk_at "tr"))
  | ((with_reducible apply y_kNot); (focus walk_at "tr"))
  | ((with_reducible apply n_kNot); (focus walk_at "tr"))
  | ((with_reducible apply y_kIf); (focus walk_at "tr"))
  | ((with_reducible apply n_kIf); (focus walk_at "tr"))
  | ((with_reducible apply y_kAndV); (focus walk_at "tr"))
  | ((with_reducible apply n_kAndV); (focus walk_at "tr"))
  | ((with_reducible apply y_kOrV); (focus walk_at "tr"))
  | ((with_reducible apply n_kOrV); (focus walk_at "tr"))
  | ((with_reducible apply y_kChain); (focus walk_at "tr"))
  | ((with_reducible apply n_kChain); (focus walk_at "tr"))
  | ((with_reducible apply y_kLcT); (focus walk_at "tr"))
  | ((with_reducible apply n_kLcT); (focus walk_at "tr"))
  | ((with_reducible apply y_kWh); (focus walk_at "tr"))
  | ((with_reducible apply n_kWh); (focus walk_at "tr")))
local macro_rules | `(tactic| walk_at "go") => `(tactic| repeat (first | walk_at "g1" | walk_at "yn"))
local macro_rules | `(tactic| walk_at "hp") => `(tactic| first
  | ((with_reducible apply RingIn.ex); (focus walk_at "as"); walk_at "hp")
  | ((with_reducible apply RingAt.ex); (focus walk_at "as"); walk_at "hp")
  | ((with_reducible apply RingIn.exb); (focus walk_at "as"); (focus walk_at "hp"); walk_at "hp")
  | ((with_reducible apply RingAt.exb); (focus walk_at "as"); (focus walk_at "hp"); walk_at "hp")
  | ((with_reducible apply TupK.ex); (focus walk_at "as"); walk_at "hp")
  | ((with_reducible apply TupK.exb); (focus walk_at "as"); (focus walk_at "hp"); walk_at "hp"))
local macro_rules | `(tactic| walk_at "lk") => `(tactic| first | with_reducible exact rf_spans | with_reducible exact rf_heaps | with_reducible exact rf_total | with_reducible exact rf_nr | with_reducible exact rf_wd)
local macro_rules | `(tactic| walk_at "sp") => `(tactic| first
  | ((with_reducible apply g_isiTup); (focus walk_at "hp"))
  | ((with_reducible apply g_isiLst); (focus walk_at "hp"))
  | ((with_reducible apply g_isint); (focus omega); (focus omega))
  | ((with_reducible apply g_checkn); (focus omega); (focus omega))
  | ((with_reducible apply g_rbooks); (focus walk_at "hp"))
  | ((with_reducible apply g_rpace); (focus walk_at "hp"); intro _ _ _ _)
  | ((with_reducible apply g_rlen); (focus walk_at "hp"))
  | ((with_reducible apply g_rneed); (focus walk_at "hp"); (focus omega))
  | ((with_reducible apply g_rneedM); (focus walk_at "hp"))
  | ((with_reducible apply g_rwithM); (focus walk_at "hp"))
  | ((with_reducible apply g_rspans); (focus walk_at "hp"); (focus with_reducible assumption))
  | ((with_reducible apply g_rheaps); (focus walk_at "hp"); (focus with_reducible assumption))
  | ((with_reducible apply g_rtotal); (focus walk_at "hp"); (focus with_reducible assumption)))

local macro_rules | `(tactic| walk_at "sp") => `(tactic| first
  | ((with_reducible apply g_taken); (focus walk_at "hp"); (focus first | decide | omega); (focus first | decide | omega); intro _ _ _ _ _ _))
local macro_rules | `(tactic| walk_at "hp") => `(tactic| first
  | ((with_reducible apply DiceAt.ex); (focus walk_at "as"); walk_at "hp")
  | ((with_reducible apply exb_tD); (focus walk_at "as"); (focus walk_at "hp"); walk_at "hp")
  | ((with_reducible apply exb_insD); (focus walk_at "as"); (focus walk_at "hp"); walk_at "hp")
  | ((with_reducible apply RingIn.exD); (focus walk_at "as"); (focus walk_at "hp"); walk_at "hp")
  | ((with_reducible apply TupK.exD); (focus walk_at "as"); (focus walk_at "hp"); walk_at "hp"))

local macro_rules | `(tactic| walk_at "g1") => `(tactic| first
  | with_reducible apply g_m1
  | with_reducible apply g_kM1
  | with_reducible apply g_joined
  | with_reducible apply g_jcons
  | with_reducible apply g_jnil
  | with_reducible apply g_kOut
  | with_reducible apply g_fmt
  | with_reducible apply g_lcTx
  | with_reducible apply g_lcZ
  | with_reducible apply g_lcNL
  | with_reducible apply g_forZ2
  | with_reducible apply g_forZ3
  | with_reducible apply g_inS)

section
variable {P : Program} {w : World} {K : PySem.W.Frag} {mg : Str → Option Value} {base : Heap} {C : Addr}
def alkB (n : Int) : V → Bool
  | .non => true
  | v => inB n n v
def sp_alk (K : PySem.W.Frag) : Sp := fun vs H Q _ => ∃ (v : V) (n : Int), vs = [v, .int n] ∧ Pl K H v ∧ Q (.bl (alkB n v)) H
theorem ok_alk (Z : Blt mg) (D_is_integer : Df P w K mg base 1 "is_integer" ["value", "low", "high"] (sp_is_integer K)) (G : GFun K mg "is_alike" s_is_alike) : Df P w K mg base 2 "is_alike" ["value", "due"] (sp_alk K) := by
  refine Df.of G sc_is_alike b_is_alike (fun vs H Q E h => ?_) (fun f cdv A outer s H vs Q E hr h => ?_)
  · obtain ⟨v, n, rfl, _⟩ := h
    rfl
  · obtain ⟨v, n, rfl, hp, q⟩ := h
    refine ⟨_, PSs.nox (pss_one (ps_ret (pe_or (pe_cmpR op_isN (pv 0) pe_non (nomark _)) (pe_one (pg D_is_integer hr (pa_cons (pv 0) (pa_cons (pv 1) (pa_cons (pv 1) pa_nil)))))))), ?_⟩
    walk_at "g0"
    walk_at "go"
    refine ⟨rfl, ?_⟩
    have other : ∀ u : V, u ≠ .non → Pl K H u → Q (.bl (inB n n u)) H → kOrV (tCall (sp_is_integer K) [] L2.E0 (tCons (tVar 0) (tCons (tVar 1) (tCons (tVar 1) tNil)))) (L2.start N_is_alike [u, .int n]) Q (.bl (decide (u = V.non))) H := fun u hu hp q => by
      rw [decide_eq_false hu]
      refine g_kOrVF ?_
      walk_at "go"
      exact ⟨u, n, n, rfl, hp, q⟩
    cases v with
    | non =>
      rw [decide_eq_true rfl]
      exact g_kOrVT q
    | int i => exact other _ (fun z => by cases z) hp q
    | bl b => exact other _ (fun z => by cases z) hp q
    | str s => exact other _ (fun z => by cases z) hp q
    | ref a => exact other _ (fun z => by cases z) hp q
    | _ => exact other _ (fun z => by cases z) hp q
/-- an entry: a tuple of plain values, or no tuple -/
def EntS (K : PySem.W.Frag) (H : Hp) (x : V) : Option (List V) → Prop
  | some ws => ∃ p, x = .ref p ∧ SqT K H p ws ∧ ws.length ≤ 50 ∧ ∀ v ∈ ws, ∀ H', Pl K H' v
  | none => (∃ a xs, x = .ref a ∧ SqL K H a xs) ∨ ∃ u : Value, (∀ H', TyX K H' x u) ∧ PySem.W.kitOne K u (.type "tuple") = some false
theorem EntS.ex {H H' : Hp} {x : V} (e : Ex H H') : ∀ {o : Option (List V)}, EntS K H x o → EntS K H' x o
  | some _, ⟨p, h1, h2, h3⟩ => ⟨p, h1, ex_t e h2, h3⟩
  | none, h => h.imp (fun ⟨a, xs, h1, h2⟩ => ⟨a, xs, h1, ex_l e h2⟩) id
theorem EntS.ty {H : Hp} {x : V} (h : EntS K H x none) : ∃ u : Value, TyX K H x u ∧ PySem.W.kitOne K u (.type "tuple") = some false := by
  rcases h with ⟨a, xs, rfl, h⟩ | ⟨u, h1, h2⟩
  · exact ⟨_, sqL_ty h, kit_ty (r := false) (by decide +kernel)⟩
  · exact ⟨u, h1 _, h2⟩
def fitB (e : Int × Int × Int) : Option (List V) → Bool
  | some [u, v, w] => alkB e.1 u && (alkB e.2.1 v && alkB e.2.2 w)
  | _ => false
def sp_fits (K : PySem.W.Frag) : Sp := fun vs H Q _ => ∃ (x : V) (p : Addr) (o : Option (List V)) (e : Int × Int × Int), vs = [x, .ref p] ∧ EntS K H x o ∧ SqT K H p [.int e.1, .int e.2.1, .int e.2.2] ∧ ∀ H', Ex H H' → Q (.bl (fitB e o)) H'
set_option maxHeartbeats 8000000 in
theorem ok_fits (Z : Blt mg) (c_WORDS : ∃ t, mg "WORDS" = some (.int 3 t)) (D_is_alike : Df P w K mg base 2 "is_alike" ["value", "due"] (sp_alk K)) (G : GFun K mg "fits" s_fits) : Df P w K mg base 3 "fits" ["entry", "due"] (sp_fits K) := by
  refine Df.of G sc_fits b_fits (fun vs H Q E h => ?_) (fun f cdv A outer s H vs Q E hr h => ?_)
  · obtain ⟨x, p, o, e, rfl, _⟩ := h
    rfl
  · obtain ⟨x, p, o, e, rfl, hx, hp, q⟩ := h
    refine ⟨_, PSs.nox (pss_cons (ps_if (PW.pt (pw_or (pt_not (pt_val (pe_callB call_isi (by rfl) Z.zisinstance (by decide +kernel) (pa_cons (pv 0) (pa_cons (pe_bltn rfl Z.ztuple (v := .ty "tuple") (by decide +kernel) rfl) pa_nil))))) (pw_or1 (pt_cmpR op_ne (pe_callB c_len (by rfl) Z.zlen PySem.boot_len (pa_cons (pv 0) pa_nil)) (pint c_WORDS) (nomark _))))) (pss_one (ps_ret pe_bl)) pss_nil)
      (pss_one (ps_ret (pe_callB (cr_all rfl) (by rfl) Z.zall (by decide +kernel) (pa_cons (pe_lc (own := [("value", 2), ("number", 3)]) rfl sc_fits.nd (pi_zip2 true true (by rfl) Z.zzip (pa_cons (pv 0) (pa_cons (pv 1) pa_nil))) (blkOk_by (N := N_fits) (sc := defScope s_fits) (by decide +kernel)) (fun _ _ _ _ _ => (pg_tupK K (n := 2) (by rfl) (pgs_cons (pg_name (i := 2) sc_fits.nd rfl (by first | exact Or.inl rfl | exact Or.inr rfl)) (pgs_cons (pg_name (i := 3) sc_fits.nd rfl (by first | exact Or.inl rfl | exact Or.inr rfl)) pgs_nil)))) (fun _ _ _ _ _ => pts_nil) (fun _ _ _ _ _ => (pg D_is_alike hr (pa_cons (pv 2) (pa_cons (pv 3) pa_nil))))) pa_nil))))), ?_⟩
    walk_at "g0"
    cases o with
    | none =>
      obtain ⟨u, ty, hk⟩ := EntS.ty hx
      walk_at "go"
      refine g_isi (.ty _) ty hk ?_
      walk_at "go"
      exact q H (Ex.refl _)
    | some ws =>
      obtain ⟨t, rfl, ht, hl, hw⟩ := hx
      walk_at "go"
      refine g_kIfS (fun hc => ?_) fun hc => ?_
      · walk_at "go"
        have : fitB e (some ws) = false := by
          rcases ws with _ | ⟨u, _ | ⟨v, _ | ⟨z, _ | ⟨y, ws⟩⟩⟩⟩
          · rfl
          · rfl
          · rfl
          · exact absurd hc (by simp)
          · rfl
        rw [this] at q
        exact q H (Ex.refl _)
      · have h3 : ws.length = 3 := by
          have : decide (((ws.length : Nat) : Int) = 3) = true := by
            cases hd : decide (((ws.length : Nat) : Int) = 3) with
            | true => rfl
            | false => rw [hd] at hc; cases hc
          have := of_decide_eq_true this
          omega
        obtain ⟨u, v, z, rfl⟩ : ∃ u v z, ws = [u, v, z] := by
          rcases ws with _ | ⟨u, _ | ⟨v, _ | ⟨z, _ | ⟨y, ws⟩⟩⟩⟩
          · cases h3
          · cases h3
          · cases h3
          · exact ⟨u, v, z, rfl⟩
          · simp at h3
        walk_at "go"
        refine g_kLcZ 3 (show SqB K true H t _ from ht) (show SqB K true H p _ from hp) rfl rfl
          (fun D i H' => Ex H H' ∧ H' D = some (.lst ((([alkB e.1 u, alkB e.2.1 v, alkB e.2.2 z] : List Bool).take i).map V.bl))) (fun D H1 nD eD hD => ⟨eD, hD⟩) (fun D i H' nD _ hP => ⟨ex_t hP.1 ht, ex_t hP.1 hp⟩) (fun D i x y H2 T H3 nD hi hx hy hP e3 nT hT' => ?_) (fun D H2 nD hP => ?_)
        · obtain ⟨e2, hD⟩ := hP
          have hD3 := e3 _ _ hD
          refine gg_tup (SqT.of (K := K) hT') rfl ?_
          have h : ∃ n b, y = .int n ∧ alkB n x = b ∧ ([alkB e.1 u, alkB e.2.1 v, alkB e.2.2 z] : List Bool)[i]? = some b ∧ ∀ H', Pl K H' x := by
            rcases i with _ | _ | _ | i
            · cases hx; cases hy; exact ⟨_, _, rfl, rfl, rfl, hw _ (by simp)⟩
            · cases hx; cases hy; exact ⟨_, _, rfl, rfl, rfl, hw _ (by simp)⟩
            · cases hx; cases hy; exact ⟨_, _, rfl, rfl, rfl, hw _ (by simp)⟩
            · omega
          obtain ⟨n, b, rfl, hb, hat, hpl⟩ := h
          walk_at "go"
          refine ⟨x, n, rfl, hpl _, ?_⟩
          rw [hb]
          refine g_kLcE hD3 (lt1000 (by rw [List.length_map, List.length_take]; show min i 3 < 1000; omega)) fun H4 e4 h4 => ⟨Exb.ex nD (e2.trans e3) e4, ?_⟩
          rw [h4, List.take_add_one, hat, List.map_append]
          rfl
        · obtain ⟨e2, hD⟩ := hP
          walk_at "go"
          refine ⟨D, _, rfl, SqL.of hD, ?_⟩
          have : ((([alkB e.1 u, alkB e.2.1 v, alkB e.2.2 z] : List Bool).take 3).all id) = fitB e (some [u, v, z]) := by
            show (alkB e.1 u && (alkB e.2.1 v && (alkB e.2.2 z && true))) = (alkB e.1 u && (alkB e.2.1 v && alkB e.2.2 z))
            rw [Bool.and_true]
          rw [this]
          exact q _ e2
end
end G48

namespace G48
open PySem PySem.Spec PyProof.Rows L2 Evl
abbrev N_mended : List Str := ["ring", "diary", "found", "index", "due"]
theorem sc_mended : FnScope N_mended ["ring", "diary"] (defScope s_mended) := ⟨rfl, rfl, rfl, by decide +kernel, rfl, by decide +kernel, by decide +kernel⟩
theorem b_mended : BindL "mended" "mended" s_mended ["ring", "diary"] := fun _ _ _ _ _ _ us hl => match us, hl with | [_, _], _ => rfl
end G48
--lib F
--lib Q
--lib P
/-! mended: the readings of a diary, or its first wrong entry -/
namespace G48
open PySem PySem.Spec PyProof.Rows L2 Evl
/-! the steps -/
local macro_rules | `(tactic| walk_at "as") => `(tactic| with_reducible assumption)
local macro_rules | `(tactic| walk_at "hp") => `(tactic| first
  | with_reducible assumption
  | ((with_reducible apply SqT.of); walk_at "as")
  | ((with_reducible apply SqL.of); walk_at "as")
  | ((with_reducible apply ex_at); (focus walk_at "as"); walk_at "hp")
  | ((with_reducible apply ex_t); (focus walk_at "as"); walk_at "hp")
  | ((with_reducible apply ex_l); (focus walk_at "as"); walk_at "hp")
  | ((with_reducible apply exb_ins); (focus walk_at "as"); (focus walk_at "hp"); walk_at "hp")
  | ((with_reducible apply exb_t); (focus walk_at "as"); (focus walk_at "hp"); walk_at "hp")
  | ((with_reducible apply exb_at); (focus walk_at "as"); (focus walk_at "ne"); walk_at "hp")
  | ((with_reducible apply exb_l); (focus walk_at "as"); (focus walk_at "ne"); walk_at "hp"))
local macro_rules | `(tactic| walk_at "ne") => `(tactic| first
  | with_reducible assumption
  | exact Ne.symm (by with_reducible assumption)
  | exact ne_of_none (by with_reducible assumption) (by with_reducible assumption)
  | exact Ne.symm (ne_of_none (by with_reducible assumption) (by with_reducible assumption)))
local macro_rules | `(tactic| walk_at "tr") => `(tactic| first
  | rfl
  | with_reducible assumption
  | exact decide_eq_true (by first | with_reducible assumption | omega)
  | exact decide_eq_false (by first | with_reducible assumption | omega)
  | (rw [Bool.not_eq_true']; exact decide_eq_false (by first | with_reducible assumption | omega))
  | (rw [Bool.not_eq_false']; exact decide_eq_true (by first | with_reducible assumption | omega)))
local macro_rules | `(tactic| walk_at "nn") => `(tactic| first | with_reducible assumption | (exact List.cons_ne_nil _ _))
local macro_rules | `(tactic| walk_at "sz") => `(tactic| first | (exact sz1000 (Nat.le_of_ble_eq_true rfl)) | (refine sz1000 ?_; simp only [List.length_map, List.length_cons, List.length_nil, List.length_append]; omega) | with_reducible assumption)
local macro_rules | `(tactic| walk_at "sl") => `(tactic| first | with_reducible assumption | (refine lt1000 ?_; simp only [List.length_map, List.length_cons, List.length_nil, List.length_append]; omega) | (refine lt1000 ?_; omega))
local macro_rules | `(tactic| walk_at "ix") => `(tactic| first | rfl | with_reducible assumption)
local macro_rules | `(tactic| walk_at "rg") => `(tactic| exact RgOk.of_le (by omega) (by omega) (by omega) (by omega))
local macro_rules | `(tactic| walk_at "sp") => `(tactic| fail "sp")
local macro_rules | `(tactic| walk_at "cl") => `(tactic| with_reducible assumption)
local macro_rules | `(tactic| walk_at "lk") => `(tactic| with_reducible assumption)
local macro_rules | `(tactic| walk_at "it") => `(tactic| first | rfl | with_reducible assumption | exact atI_nat (by with_reducible assumption))
local macro_rules | `(tactic| walk_at "g1") => `(tactic| first
  | (with_reducible apply g_var); (focus rfl)
  | with_reducible apply g_c
  | with_reducible apply g_seq
  | with_reducible apply g_asg
  | with_reducible apply gg_name
  | with_reducible apply g_op
  | with_reducible apply g_cons
  | with_reducible apply g_nil
  | with_reducible apply g_cb
  | with_reducible apply g_fld
  | ((with_reducible apply g_kFld); (focus walk_at "hp"); (focus walk_at "cl"); (focus walk_at "cl"); (focus walk_at "lk"))
  | with_reducible apply g_call
  | walk_at "sp"
  | with_reducible apply g_ret
  | with_reducible apply g_drop
  | with_reducible apply g_test
  | with_reducible apply g_B
  | with_reducible apply g_kTest
  | with_reducible apply g_ifS
  | with_reducible apply g_kIfST
  | with_reducible apply g_kIfSF
  | with_reducible apply g_add
  | with_reducible apply g_sub
  | with_reducible apply g_lt
  | with_reducible apply g_le
  | with_reducible apply g_gt
  | with_reducible apply g_ge
  | with_reducible apply g_eqI
  | with_reducible apply g_neI
  | ((with_reducible apply g_mod); (focus first | decide | omega))
  | ((with_reducible apply g_mul); (focus first | (left; constructor <;> omega) | (right; constructor <;> omega)))
  | ((with_reducible apply g_fdiv); (focus (constructor <;> omega)))
  | ((with_reducible apply g_ixT); (focus walk_at "hp"); (focus walk_at "it"))
  | ((with_reducible apply g_ixL); (focus walk_at "hp"); (focus walk_at "it"))
  | with_reducible apply g_and
  | with_reducible apply g_or
  | with_reducible apply g_not
  | with_reducible apply g_kNotT
  | with_reducible apply g_kNotF
  | with_reducible apply g_if
  | with_reducible apply g_kAndT
  | with_reducible apply g_kAndF
  | with_reducible apply g_kOrT
  | with_reducible apply g_kOrF
  | with_reducible apply g_kIfT
  | with_reducible apply g_kIfF
  | with_reducible apply g_next
  | with_reducible apply g_andV
  | with_reducible apply g_orV
  | with_reducible apply g_notV
  | with_reducible apply g_kNotV
  | with_reducible apply g_kAndVT
  | with_reducible apply g_kAndVF
  | with_reducible apply g_chain
  | with_reducible apply g_kChainT
  | with_reducible apply g_kChainF
  | with_reducible apply g_tup
  | with_reducible apply g_lst
  | ((with_reducible apply g_kT); (focus walk_at "sz"); intro _ _ _ _ _)
  | ((with_reducible apply g_kL); (focus walk_at "sz"); intro _ _ _ _ _)
  | with_reducible apply g_un
  | with_reducible apply g_neg
  | with_reducible apply g_meth
  | ((with_reducible apply g_kMeth); (focus walk_at "hp"); (focus walk_at "lk"))
  | with_reducible apply g_prop
  | ((with_reducible apply g_kProp); (focus walk_at "hp"))
  | with_reducible apply g_make
  | with_reducible apply g_par
  | with_reducible apply g_kPar
  | ((with_reducible apply g_lenLM); (focus walk_at "hp"))
  | ((with_reducible apply g_lenTM); (focus walk_at "hp"))
  | ((with_reducible apply g_lenL); (focus walk_at "hp"))
  | ((with_reducible apply g_lenT); (focus walk_at "hp"))
  | with_reducible apply g_int1
  | with_reducible apply g_max2
  | with_reducible apply g_min2
  | ((with_reducible apply g_listL); (focus walk_at "hp"); intro _ _ _ _ _)
  | ((with_reducible apply g_listT); (focus walk_at "hp"); intro _ _ _ _ _)
  | ((with_reducible apply g_tupL); (focus walk_at "hp"); intro _ _ _ _ _)
  | ((with_reducible apply g_sum); (focus walk_at "hp"))
  | with_reducible apply g_sfld
  | with_reducible apply g_sl
  | with_reducible apply g_nopart
  | with_reducible apply g_part
  | with_reducible apply g_kPart
  | with_reducible apply g_lstRg
  | with_reducible apply g_rg1
  | with_reducible apply g_kRg1
  | with_reducible apply g_bm
  | with_reducible apply gg_sub
  | ((with_reducible apply gg_tup); (focus walk_at "hp"); (focus rfl))
  | with_reducible apply gg_cons
  | with_reducible apply gg_nil
  | with_reducible apply g_forL
  | with_reducible apply g_forT
  | with_reducible apply g_forR1
  | with_reducible apply g_forR2
  | with_reducible apply g_forE
  | with_reducible apply g_forEL
  | ((with_reducible apply g_maxT); (focus walk_at "hp"); (focus walk_at "nn"))
  | ((with_reducible apply g_maxL); (focus walk_at "hp"); (focus walk_at "nn"))
  | ((with_reducible apply g_catA); (focus walk_at "hp"); (focus walk_at "hp"); (focus walk_at "sz"); intro _ _ _ _)
  | ((with_reducible apply g_slA); (focus walk_at "hp"); intro _ _ _ _)
  | ((with_reducible apply g_tupD); (focus walk_at "hp"); intro _ _ _ _ _)
  | ((with_reducible apply g_setL); (focus walk_at "hp"); (focus walk_at "ix"); intro _ _ _)
  | ((with_reducible apply g_append); (focus walk_at "hp"); (focus walk_at "sl"); intro _ _ _)
  | ((with_reducible apply g_aug); (focus rfl))
  | with_reducible apply g_ipI
  | with_reducible apply g_retN
  | with_reducible apply g_lcR1
  | with_reducible apply g_lcR2
  | with_reducible apply g_lcL
  | with_reducible apply g_lcU
  | with_reducible apply g_lcN
  | ((with_reducible apply g_kLcG); (focus rfl))
  | with_reducible apply g_yes
  | with_reducible apply g_kLcTT
  | with_reducible apply g_kLcTF
  | ((with_reducible apply g_kLcE); (focus walk_at "hp"); (focus walk_at "sl"); intro _ _ _)
  | ((with_reducible apply g_pow); (focus (constructor <;> (try constructor) <;> decide)))
  | ((with_reducible apply g_kLRg); (focus walk_at "rg"); intro _ _ _ _ _)
  | ((with_reducible apply g_cat); (focus walk_at "hp"); (focus walk_at "hp"); (focus walk_at "sz"); intro _ _ _ _ _)
  | ((with_reducible apply g_slL); (focus walk_at "hp"); intro _ _ _ _ _)
  | with_reducible apply g_bmT
  | with_reducible apply g_break
  | with_reducible apply g_cont)
local macro_rules | `(tactic| walk_at "g0") => `(tactic| try dsimp only [L2.cxOf, L2.Cx.nox, L2.Cx.wish])
local macro_rules | `(tactic| walk_at "yn") => `(tactic| first
  | ((with_reducible apply y_kIfS); (focus walk_at "tr"))
  | ((with_reducible apply n_kIfS); (focus walk_at "tr"))
  | ((with_reducible apply y_kOr); (focus walk_at "tr"))
  | ((with_reducible apply n_kOr); (focus walk_at "tr"))
  | ((with_reducible apply y_kAnd); (focus walk_at "tr"))
  | ((with_reducible apply n_kAnd); (focus walk_at "tr"))
  | ((with_reducible apply y_kNot); (focus walk_at "tr"))
  | ((with_reducible apply n_kNot); (focus walk_at "tr"))
  | ((with_reducible apply y_kIf); (focus walk_at "tr"))
  | ((with_reducible apply n_kIf); (focus walk_at "tr"))
  | ((with_reducible apply y_kAndV); (focus walk_at "tr"))
  | ((with_reducible apply n_kAndV); (focus walk_at "tr"))
  | ((with_reducible apply y_kOrV); (focus walk_at "tr"))
  | ((with_reducible apply n_kOrV); (focus walk_at "tr"))
  | ((with_reducible apply y_kChain); (focus walk_at "tr"))
  | ((with_reducible apply n_kChain); (focus walk_at "tr"))
  | ((with_reducible apply y_kLcT); (focus walk_at "tr"))
  | ((with_reducible apply n_kLcT); (focus walk_at "tr"))
  | ((with_reducible apply y_kWh); (focus walk_at "tr"))
  | ((with_reducible apply n_kWh); (focus walk_at "tr")))
local macro_rules | `(tactic| walk_at "go") => `(tactic| repeat (first | walk_at "g1" | walk_at "yn"))
local macro_rules | `(tactic| walk_at "hp") => `(tactic| first
  | ((with_reducible apply RingIn.ex); (focus walk_at "as"); walk_at "hp")
  | ((with_reducible apply RingAt.ex); (focus walk_at "as"); walk_at "hp")
  | ((with_reducible apply RingIn.exb); (focus walk_at "as"); (focus walk_at "hp"); walk_at "hp")
  | ((with_reducible apply RingAt.exb); (focus walk_at "as"); (focus walk_at "hp"); walk_at "hp")
  | ((with_reducible apply TupK.ex); (focus walk_at "as"); walk_at "hp")
  | ((with_reducible apply TupK.exb); (focus walk_at "as"); (focus walk_at "hp"); walk_at "hp"))
local macro_rules | `(tactic| walk_at "lk") => `(tactic| first | with_reducible exact rf_spans | with_reducible exact rf_heaps | with_reducible exact rf_total | with_reducible exact rf_nr | with_reducible exact rf_wd)
local macro_rules | `(tactic| walk_at "sp") => `(tactic| first
  | ((with_reducible apply g_isiTup); (focus walk_at "hp"))
  | ((with_reducible apply g_isiLst); (focus walk_at "hp"))
  | ((with_reducible apply g_isint); (focus omega); (focus omega))
  | ((with_reducible apply g_checkn); (focus omega); (focus omega))
  | ((with_reducible apply g_rbooks); (focus walk_at "hp"))
  | ((with_reducible apply g_rpace); (focus walk_at "hp"); intro _ _ _ _)
  | ((with_reducible apply g_rlen); (focus walk_at "hp"))
  | ((with_reducible apply g_rneed); (focus walk_at "hp"); (focus omega))
  | ((with_reducible apply g_rneedM); (focus walk_at "hp"))
  | ((with_reducible apply g_rwithM); (focus walk_at "hp"))
  | ((with_reducible apply g_rspans); (focus walk_at "hp"); (focus with_reducible assumption))
  | ((with_reducible apply g_rheaps); (focus walk_at "hp"); (focus with_reducible assumption))
  | ((with_reducible apply g_rtotal); (focus walk_at "hp"); (focus with_reducible assumption)))

local macro_rules | `(tactic| walk_at "sp") => `(tactic| first
  | ((with_reducible apply g_taken); (focus walk_at "hp"); (focus first | decide | omega); (focus first | decide | omega); intro _ _ _ _ _ _))
local macro_rules | `(tactic| walk_at "hp") => `(tactic| first
  | ((with_reducible apply DiceAt.ex); (focus walk_at "as"); walk_at "hp")
  | ((with_reducible apply exb_tD); (focus walk_at "as"); (focus walk_at "hp"); walk_at "hp")
  | ((with_reducible apply exb_insD); (focus walk_at "as"); (focus walk_at "hp"); walk_at "hp")
  | ((with_reducible apply RingIn.exD); (focus walk_at "as"); (focus walk_at "hp"); walk_at "hp")
  | ((with_reducible apply TupK.exD); (focus walk_at "as"); (focus walk_at "hp"); walk_at "hp"))

section
variable {P : Program} {w : World} {K : PySem.W.Frag} {mg : Str → Option Value} {base : Heap} {C SC : Addr}
def fitI (es : List (Int × Int × Int)) (its : List (Option (List V))) (j : Nat) : Bool := match es[j]?, its[j]? with
  | some e, some o => fitB e o
  | _, _ => true
theorem fitI_at {es : List (Int × Int × Int)} {its : List (Option (List V))} {j : Nat} {e : Int × Int × Int} {o : Option (List V)} (h1 : es[j]? = some e) (h2 : its[j]? = some o) : fitI es its j = fitB e o := by
  unfold fitI
  rw [h1, h2]
structure DiaV (K : PySem.W.Frag) (H : Hp) (zs : List V) (its : List (Option (List V))) : Prop where
  len : zs.length = its.length
  at_ : ∀ (i : Nat) (x : V), zs[i]? = some x → ∃ o, its[i]? = some o ∧ EntS K H x o
/-- DiaryError(i) is raised -/
def ErrE (K : PySem.W.Frag) (E : XK) (i : Int) (H : Hp) : Prop := ∀ H', Ex H H' → ∀ dd, H' dd = none → E (.ref (He.ga K "DiaryError")) (some dd) (upd H' dd (.xd [("entry", .int i)]))
def MeQ (K : PySem.W.Frag) (H : Hp) (Q : VK) (E : XK) (es : List (Int × Int × Int)) (its : List (Option (List V))) : Prop :=
  (∃ i : Nat, i < es.length ∧ (∀ j, j < i → fitI es its j = true) ∧ fitI es its i = false ∧ ErrE K E i H) ∨
  ((∀ j, j < es.length → fitI es its j = true) ∧ ((its.length ≤ 500 ∧ ∀ p ys H', H p = none → Ex H H' → H' p = some (.lst ys) → Ent K H' ys es → Q (.ref p) H') ∨ (500 < its.length ∧ ErrE K E 500 H)))
def sp_mended (K : PySem.W.Frag) (C : Addr) : Sp := fun vs H Q E => ∃ (r a b : Addr) (x : V) (ds hs : List Int), vs = [.ref r, x] ∧ RingIn K C H r a b ds hs ∧ ((∃ u : Value, TyX K H x u ∧ PySem.W.kitOne K u (.type "list") = some false ∧ ErrE K E 0 H) ∨
  ∃ l zs its es, x = .ref l ∧ SqL K H l zs ∧ DiaV K H zs its ∧ its.length ≤ 600 ∧ Diary ds hs (min its.length 500) es ∧ MeQ K H Q E es its)
set_option maxHeartbeats 16000000 in
theorem ok_mended (Z : Blt mg) (c_MAX_ENTRIES : ∃ t, mg "MAX_ENTRIES" = some (.int 500 t)) (Err_DiaryError : ErrN K (He.ga K "DiaryError") erNm 6 5 ["entry"]) (E_DiaryError : Ef P w K mg base "DiaryError" (He.ga K "DiaryError") 1 ["self", "entry"] (sp_initE K (He.ga K "DiaryError")))
    (D_fits : Df P w K mg base 3 "fits" ["entry", "due"] (sp_fits K)) (DZ_diary_of : Zf P w K mg base 5 "diary_of" ["ring", "count"] (sp_diaryZ K C)) (G : GFun K mg "mended" s_mended) : Df P w K mg base 9 "mended" ["ring", "diary"] (sp_mended K C) := by
  refine Df.of G sc_mended b_mended (fun vs H Q E h => ?_) (fun f cdv A outer s H vs Q E hr h => ?_)
  · obtain ⟨r, a, b, x, ds, hs, rfl, _⟩ := h
    rfl
  · obtain ⟨r, a, b, x, ds, hs, rfl, RI, hq⟩ := h
    have O := RI.ok
    refine ⟨_, (pss_cons (ps_if (pt_not (pt_val (pe_callB call_isi (by rfl) Z.zisinstance (by decide +kernel) (pa_cons (pv 1) (pa_cons (pe_bltn rfl Z.zlist (v := .ty "list") (by decide +kernel) rfl) pa_nil))))) (pss_one (psr_err Err_DiaryError.ox E_DiaryError hr (pa_cons pe_int pa_nil) rfl (takes_of rfl rfl rfl rfl))) pss_nil)
      (pss_cons (ps_set (i := 2) sc_mended.nd rfl (by first | exact Or.inl rfl | exact Or.inr rfl) (pe_lst pa_nil))
      (pss_cons (ps_forZ DZ_diary_of hr (passes_of rfl) rfl rfl rfl blind_cx (pa_cons (pv 0) (pa_cons (pe_callB (c_min2 rfl) (by rfl) Z.zmin (by decide +kernel) (pa_cons (pe_callB c_len (by rfl) Z.zlen PySem.boot_len (pa_cons (pv 1) pa_nil)) (pa_cons (pint c_MAX_ENTRIES) pa_nil))) pa_nil)) Z.zenumerate (pg_tup (by rfl) (pgs_cons (pg_name (i := 3) sc_mended.nd rfl (by first | exact Or.inl rfl | exact Or.inr rfl)) (pgs_cons (pg_name (i := 4) sc_mended.nd rfl (by first | exact Or.inl rfl | exact Or.inr rfl)) pgs_nil))) (pss_cons (ps_if (pt_not (pt_val (pg D_fits hr (pa_cons (pe_ix ix_list (pv 1) (pv 3) (fun _ _ => rfl)) (pa_cons (pv 4) pa_nil))))) (pss_one (psr_err Err_DiaryError.ox E_DiaryError hr (pa_cons (pv 3) pa_nil) rfl (takes_of rfl rfl rfl rfl))) pss_nil)
          (pss_one (ps_expr (pe_bm PySem.F.plainAttrs_list PySem.F.slot_list_append PySem.F.type_list_append mt_append (pv 2) (pa_cons (pv 4) pa_nil))))))
      (pss_cons (ps_if (pt_cmpR op_gt (pe_callB c_len (by rfl) Z.zlen PySem.boot_len (pa_cons (pv 1) pa_nil)) (pint c_MAX_ENTRIES) (nomark _)) (pss_one (psr_err Err_DiaryError.ox E_DiaryError hr (pa_cons (pint c_MAX_ENTRIES) pa_nil) rfl (takes_of rfl rfl rfl rfl))) pss_nil)
      (pss_one (ps_ret (pv 2))))))), ?_⟩
    walk_at "g0"
    rcases hq with ⟨u, ty, hk, q⟩ | ⟨l, zs, its, es, rfl, hL, hD, h600, hes, q⟩
    · walk_at "go"
      refine g_isi (.ty _) ty hk ?_
      walk_at "go"
      refine g_tMkO ?_
      walk_at "go"
      exact g_mkE ⟨by omega, by omega⟩ fun dd nd => q H (Ex.refl _) dd nd
    · have hzl := hD.len
      have hel := hes.len
      walk_at "go"
      rename_i fl H1 nfl e1 hfl
      have RI1 := RI.ex e1
      have hL1 := ex_l e1 hL
      refine g_forZ ?_
      walk_at "go"
      rw [show min ((zs.length : Nat) : Int) 500 = ((min its.length 500 : Nat) : Int) by rw [hzl]; omega]
      refine ⟨fun H1 H2 => Exb fl H1 H2 ∧ ∃ xs, H2 fl = some (.lst xs), fun ys x H' => ∃ e, es[ys.length]? = some e ∧ EntA K H' x e, fun ys _ => ys.length = es.length,
        fun i σ Hr => ∃ v3 v4, σ = [some (.ref r), some (.ref l), some (.ref fl), v3, v4] ∧ Ex H Hr ∧ (∃ ys, Hr fl = some (.lst ys) ∧ Ent K Hr ys (es.take i)) ∧ i ≤ es.length ∧ ∀ j, j < i → fitI es its j = true,
        ⟨r, a, b, fl, ds, hs, min its.length 500, es, rfl, RI1, by omega, hes, ⟨[], hfl⟩, fun _ _ h => h, fun ys x H' e h1 h2 => ⟨e, h1, h2⟩, fun ys H' h => h.trans hel.symm⟩,
        ⟨_, _, rfl, e1, ⟨[], hfl, by rw [List.take_zero]; exact Ent.nil⟩, Nat.zero_le _, fun j hj => absurd hj (Nat.not_lt_zero j)⟩, ?_, ?_⟩
      · rintro i σ Hr ys x H2 T ⟨v3, v4, rfl, e2, ⟨yf, hyf, Ef⟩, hi, hg⟩ ex rfl ⟨e, he, p, rfl, hp⟩ nT
        have hil := (List.getElem?_eq_some_iff.mp he).1
        have eT : Ex H2 (upd H2 T (.tup [.int (ys.length : Nat), .ref p])) := Ex.new nT
        have hT : (upd H2 T (.tup [.int (ys.length : Nat), .ref p])) T = some (.tup [.int (ys.length : Nat), .ref p]) := upd_same
        generalize upd H2 T (.tup [.int (ys.length : Nat), .ref p]) = H3 at eT hT ⊢
        have e3 := e2.trans (ex.trans eT)
        have hL3 := ex_l e3 hL
        have hp3 := ex_t eT hp
        have hfl3 := (ex.trans eT) _ _ hyf
        obtain ⟨z, hz⟩ : ∃ z, zs[ys.length]? = some z := ⟨zs[ys.length]'(by omega), List.getElem?_eq_getElem (by omega)⟩
        obtain ⟨o, ho, hzo⟩ := hD.at_ _ _ hz
        have hgi := fitI_at he ho
        refine gg_tup (SqT.of (K := K) hT) rfl ?_
        walk_at "go"
        refine ⟨z, p, o, e, rfl, hzo.ex e3, hp3, fun H4 e4 => ?_⟩
        have e24 := e3.trans e4
        have hfl4 := e4 _ _ hfl3
        cases hb : fitB e o with
        | false =>
          rw [hb] at hgi
          walk_at "go"
          refine g_tMkO ?_
          walk_at "go"
          refine g_mkE ⟨by omega, by omega⟩ fun dd nd => ?_
          rcases q with ⟨i0, h1, h2, h3, q⟩ | ⟨h1, _⟩
          · have : i0 = ys.length := by
              rcases Nat.lt_trichotomy i0 ys.length with h | h | h
              · rw [hg _ h] at h3; cases h3
              · exact h
              · rw [h2 _ h] at hgi; cases hgi
            subst this
            exact q H4 e24 dd nd
          · rw [h1 _ hil] at hgi
            cases hgi
        | true =>
          rw [hb] at hgi
          walk_at "go"
          refine g_kBM_list (SqL.of hfl4) ?_
          walk_at "go"
          refine g_append hfl4 (lt1000 (by rw [Ef.1, List.length_take]; omega)) fun H5 e5 h5 => ?_
          walk_at "go"
          have e14 : Ex Hr H4 := (ex.trans eT).trans e4
          refine ⟨⟨_, _, rfl, Exb.ex nfl e24 e5, ⟨_, h5, ?_⟩, hil, fun j hj => ?_⟩, fun b o nb hb => e5 b o nb (e4 b o (eT b o hb)), _, h5⟩
          · rw [List.take_add_one, he]
            exact ((Ef.ex e14).exb e5 hfl4).snoc (exb_t e5 hfl4 (ex_t e4 hp3))
          · by_cases hjj : j < ys.length
            · exact hg j hjj
            · rw [show j = ys.length by omega]
              exact hgi
      · rintro i σ Hr ys H2 ⟨v3, v4, rfl, e2, ⟨yf, hyf, Ef⟩, hi, hg⟩ ex hy hq
        have hie : i = es.length := by rw [← hy, hq]
        subst hie
        have e3 := e2.trans ex
        have hL3 := ex_l e3 hL
        have hfl3 := ex _ _ hyf
        rw [List.take_length] at Ef
        walk_at "go"
        rcases q with ⟨i0, h1, h2, h3, q⟩ | ⟨_, ⟨h5, q⟩ | ⟨h5, q⟩⟩
        · rw [hg _ h1] at h3
          cases h3
        · walk_at "go"
          exact q fl yf H2 nfl e3 hfl3 (Ef.ex ex)
        · walk_at "go"
          refine g_tMkO ?_
          walk_at "go"
          exact g_mkE ⟨by omega, by omega⟩ fun dd nd => q H2 e3 dd nd
end
end G48

namespace G48
open PySem PySem.Spec PyProof.Rows L2 Evl
abbrev N__law_raised : List Str := ["_law_work", "e", "_law_kinds"]
theorem sc__law_raised : FnScope N__law_raised ["_law_work"] (defScope s__law_raised) := ⟨rfl, rfl, rfl, by decide +kernel, rfl, by decide +kernel, by decide +kernel⟩
theorem b__law_raised : BindL "_law_raised" "_law_raised" s__law_raised ["_law_work"] := fun _ _ _ _ _ _ us hl => match us, hl with | [_], _ => rfl
end G48
--lib V
--lib Q
--lib P
/-! `_law_raised` of six kinds: the word of the error that a lambda raises and its field, or None -/
namespace G48
open PySem PySem.Spec PyProof.Rows L2 Evl
/-! the steps -/
local macro_rules | `(tactic| walk_at "as") => `(tactic| with_reducible assumption)
local macro_rules | `(tactic| walk_at "hp") => `(tactic| first
  | with_reducible assumption
  | ((with_reducible apply SqT.of); walk_at "as")
  | ((with_reducible apply SqL.of); walk_at "as")
  | ((with_reducible apply ex_at); (focus walk_at "as"); walk_at "hp")
  | ((with_reducible apply ex_t); (focus walk_at "as"); walk_at "hp")
  | ((with_reducible apply ex_l); (focus walk_at "as"); walk_at "hp")
  | ((with_reducible apply exb_ins); (focus walk_at "as"); (focus walk_at "hp"); walk_at "hp")
  | ((with_reducible apply exb_t); (focus walk_at "as"); (focus walk_at "hp"); walk_at "hp")
  | ((with_reducible apply exb_at); (focus walk_at "as"); (focus walk_at "ne"); walk_at "hp")
  | ((with_reducible apply exb_l); (focus walk_at "as"); (focus walk_at "ne"); walk_at "hp"))
local macro_rules | `(tactic| walk_at "ne") => `(tactic| first
  | with_reducible assumption
  | exact Ne.symm (by with_reducible assumption)
  | exact ne_of_none (by with_reducible assumption) (by with_reducible assumption)
  | exact Ne.symm (ne_of_none (by with_reducible assumption) (by with_reducible assumption)))
local macro_rules | `(tactic| walk_at "tr") => `(tactic| first
  | rfl
  | with_reducible assumption
  | exact decide_eq_true (by first | with_reducible assumption | omega)
  | exact decide_eq_false (by first | with_reducible assumption | omega)
  | (rw [Bool.not_eq_true']; exact decide_eq_false (by first | with_reducible assumption | omega))
  | (rw [Bool.not_eq_false']; exact decide_eq_true (by first | with_reducible assumption | omega)))
local macro_rules | `(tactic| walk_at "nn") => `(tactic| first | with_reducible assumption | (exact List.cons_ne_nil _ _))
local macro_rules | `(tactic| walk_at "sz") => `(tactic| first | (exact sz1000 (Nat.le_of_ble_eq_true rfl)) | (refine sz1000 ?_; simp only [List.length_map, List.length_cons, List.length_nil, List.length_append]; omega) | with_reducible assumption)
local macro_rules | `(tactic| walk_at "sl") => `(tactic| first | with_reducible assumption | (refine lt1000 ?_; simp only [List.length_map, List.length_cons, List.length_nil, List.length_append]; omega) | (refine lt1000 ?_; omega))
local macro_rules | `(tactic| walk_at "ix") => `(tactic| first | rfl | with_reducible assumption)
local macro_rules | `(tactic| walk_at "rg") => `(tactic| exact RgOk.of_le (by omega) (by omega) (by omega) (by omega))
local macro_rules | `(tactic| walk_at "sp") => `(tactic| fail "sp")
local macro_rules | `(tactic| walk_at "cl") => `(tactic| with_reducible assumption)
local macro_rules | `(tactic| walk_at "lk") => `(tactic| with_reducible assumption)
local macro_rules | `(tactic| walk_at "it") => `(tactic| first | rfl | with_reducible assumption | exact atI_nat (by with_reducible assumption))
local macro_rules | `(tactic| walk_at "g1") => `(tactic| first
  | (with_reducible apply g_var); (focus rfl)
  | with_reducible apply g_c
  | with_reducible apply g_seq
  | with_reducible apply g_asg
  | with_reducible apply gg_name
  | with_reducible apply g_op
  | with_reducible apply g_cons
  | with_reducible apply g_nil
  | with_reducible apply g_cb
  | with_reducible apply g_fld
  | ((with_reducible apply g_kFld); (focus walk_at "hp"); (focus walk_at "cl"); (focus walk_at "cl"); (focus walk_at "lk"))
  | with_reducible apply g_call
  | walk_at "sp"
  | with_reducible apply g_ret
  | with_reducible apply g_drop
  | with_reducible apply g_test
  | with_reducible apply g_B
  | with_reducible apply g_kTest
  | with_reducible apply g_ifS
  | with_reducible apply g_kIfST
  | with_reducible apply g_kIfSF
  | with_reducible apply g_add
  | with_reducible apply g_sub
  | with_reducible apply g_lt
  | with_reducible apply g_le
  | with_reducible apply g_gt
  | with_reducible apply g_ge
  | with_reducible apply g_eqI
  | with_reducible apply g_neI
  | ((with_reducible apply g_mod); (focus first | decide | omega))
  | ((with_reducible apply g_mul); (focus first | (left; constructor <;> omega) | (right; constructor <;> omega)))
  | ((with_reducible apply g_fdiv); (focus (constructor <;> omega)))
  | ((with_reducible apply g_ixT); (focus walk_at "hp"); (focus walk_at "it"))
  | ((with_reducible apply g_ixL); (focus walk_at "hp"); (focus walk_at "it"))
  | with_reducible apply g_and
  | with_reducible apply g_or
  | with_reducible apply g_not
  | with_reducible apply g_kNotT
  | with_reducible apply g_kNotF
  | with_reducible apply g_if
  | with_reducible apply g_kAndT
  | with_reducible apply g_kAndF
  | with_reducible apply g_kOrT
  | with_reducible apply g_kOrF
  | with_reducible apply g_kIfT
  | with_reducible apply g_kIfF
  | with_reducible apply g_next
  | with_reducible apply g_andV
  | with_reducible apply g_orV
  | with_reducible apply g_notV
  | with_reducible apply g_kNotV
  | with_reducible apply g_kAndVT
  | with_reducible apply g_kAndVF
  | with_reducible apply g_chain
  | with_reducible apply g_kChainT
  | with_reducible apply g_kChainF
  | with_reducible apply g_tup
  | with_reducible apply g_lst
  | ((with_reducible apply g_kT); (focus walk_at "sz"); intro _ _ _ _ _)
  | ((with_reducible apply g_kL); (focus walk_at "sz"); intro _ _ _ _ _)
  | with_reducible apply g_un
  | with_reducible apply g_neg
  | with_reducible apply g_meth
  | ((with_reducible apply g_kMeth); (focus walk_at "hp"); (focus walk_at "lk"))
  | with_reducible apply g_prop
  | ((with_reducible apply g_kProp); (focus walk_at "hp"))
  | with_reducible apply g_make
  | with_reducible apply g_par
  | with_reducible apply g_kPar
  | ((with_reducible apply g_lenLM); (focus walk_at "hp"))
  | ((with_reducible apply g_lenTM); (focus walk_at "hp"))
  | ((with_reducible apply g_lenL); (focus walk_at "hp"))
  | ((with_reducible apply g_lenT); (focus walk_at "hp"))
  | with_reducible apply g_int1
  | with_reducible apply g_max2
  | with_reducible apply g_min2
  | ((with_reducible apply g_listL); (focus walk_at "hp"); intro _ _ _ _ _)
  | ((with_reducible apply g_listT); (focus walk_at "hp"); intro _ _ _ _ _)
  | ((with_reducible apply g_tupL); (focus walk_at "hp"); intro _ _ _ _ _)
  | ((with_reducible apply g_sum); (focus walk_at "hp"))
  | with_reducible apply g_sfld
  | with_reducible apply g_sl
  | with_reducible apply g_nopart
  | with_reducible apply g_part
  | with_reducible apply g_kPart
  | with_reducible apply g_lstRg
  | with_reducible apply g_rg1
  | with_reducible apply g_kRg1
  | with_reducible apply g_bm
  | with_reducible apply gg_sub
  | ((with_reducible apply gg_tup); (focus walk_at "hp"); (focus rfl))
  | with_reducible apply gg_cons
  | with_reducible apply gg_nil
  | with_reducible apply g_forL
  | with_reducible apply g_forT
  | with_reducible apply g_forR1
  | with_reducible apply g_forR2
  | with_reducible apply g_forE
  | with_reducible apply g_forEL
  | ((with_reducible apply g_maxT); (focus walk_at "hp"); (focus walk_at "nn"))
  | ((with_reducible apply g_maxL); (focus walk_at "hp"); (focus walk_at "nn"))
  | ((with_reducible apply g_catA); (focus walk_at "hp"); (focus walk_at "hp"); (focus walk_at "sz"); intro _ _ _ _)
  | ((with_reducible apply g_slA); (focus walk_at "hp"); intro _ _ _ _)
  | ((with_reducible apply g_tupD); (focus walk_at "hp"); intro _ _ _ _ _)
  | ((with_reducible apply g_setL); (focus walk_at "hp"); (focus walk_at "ix"); intro _ _ _)
  | ((with_reducible apply g_append); (focus walk_at "hp"); (focus walk_at "sl"); intro _ _ _)
  | ((with_reducible apply g_aug); (focus rfl))
  | with_reducible apply g_ipI
  | with_reducible apply g_retN
  | with_reducible apply g_lcR1
  | with_reducible apply g_lcR2
  | with_reducible apply g_lcL
  | with_reducible apply g_lcU
  | with_reducible apply g_lcN
  | ((with_reducible apply g_kLcG); (focus rfl))
  | with_reducible apply g_yes
  | with_reducible apply g_kLcTT
  | with_reducible apply g_kLcTF
  | ((with_reducible apply g_kLcE); (focus walk_at "hp"); (focus walk_at "sl"); intro _ _ _)
  | ((with_reducible apply g_pow); (focus (constructor <;> (try constructor) <;> decide)))
  | ((with_reducible apply g_kLRg); (focus walk_at "rg"); intro _ _ _ _ _)
  | ((with_reducible apply g_cat); (focus walk_at "hp"); (focus walk_at "hp"); (focus walk_at "sz"); intro _ _ _ _ _)
  | ((with_reducible apply g_slL); (focus walk_at "hp"); intro _ _ _ _ _)
  | with_reducible apply g_bmT
  | with_reducible apply g_break
  | with_reducible apply g_cont)
local macro_rules | `(tactic| walk_at "g0") => `(tactic| try dsimp only [L2.cxOf, L2.Cx.nox, L2.Cx.wish])
local macro_rules | `(tactic| walk_at "yn") => `(tactic| first
  | ((with_reducible apply y_kIfS); (focus walk_at "tr"))
  | ((with_reducible apply n_kIfS); (focus walk_at "tr"))
  | ((with_reducible apply y_kOr); (focus walk_at "tr"))
  | ((with_reducible apply n_kOr); (focus walk_at "tr"))
  | ((with_reducible apply y_kAnd); (focus walk_at "tr"))
  | ((with_reducible apply n_kAnd); (focus walk_at "tr"))
  | ((with_reducible apply y_kNot); (focus walk_at "tr"))
  | ((with_reducible apply n_kNot); (focus walk_at "tr"))
  | ((with_reducible apply y_kIf); (focus walk_at "tr"))
  | ((with_reducible apply n_kIf); (focus walk_at "tr"))
  | ((with_reducible apply y_kAndV); (focus walk_at "tr"))
  | ((with_reducible apply n_kAndV); (focus walk_at "tr"))
  | ((with_reducible apply y_kOrV); (focus walk_at "tr"))
  | ((with_reducible apply n_kOrV); (focus walk_at "tr"))
  | ((with_reducible apply y_kChain); (focus walk_at "tr"))
  | ((with_reducible apply n_kChain); (focus walk_at "tr"))
  | ((with_reducible apply y_kLcT); (focus walk_at "tr"))
  | ((with_reducible apply n_kLcT); (focus walk_at "tr"))
  | ((with_reducible apply y_kWh); (focus walk_at "tr"))
  | ((with_reducible apply n_kWh); (focus walk_at "tr")))
local macro_rules | `(tactic| walk_at "go") => `(tactic| repeat (first | walk_at "g1" | walk_at "yn"))
local macro_rules | `(tactic| walk_at "hp") => `(tactic| first
  | ((with_reducible apply RingIn.ex); (focus walk_at "as"); walk_at "hp")
  | ((with_reducible apply RingAt.ex); (focus walk_at "as"); walk_at "hp")
  | ((with_reducible apply RingIn.exb); (focus walk_at "as"); (focus walk_at "hp"); walk_at "hp")
  | ((with_reducible apply RingAt.exb); (focus walk_at "as"); (focus walk_at "hp"); walk_at "hp")
  | ((with_reducible apply TupK.ex); (focus walk_at "as"); walk_at "hp")
  | ((with_reducible apply TupK.exb); (focus walk_at "as"); (focus walk_at "hp"); walk_at "hp"))
local macro_rules | `(tactic| walk_at "lk") => `(tactic| first | with_reducible exact rf_spans | with_reducible exact rf_heaps | with_reducible exact rf_total | with_reducible exact rf_nr | with_reducible exact rf_wd)
local macro_rules | `(tactic| walk_at "sp") => `(tactic| first
  | ((with_reducible apply g_isiTup); (focus walk_at "hp"))
  | ((with_reducible apply g_isiLst); (focus walk_at "hp"))
  | ((with_reducible apply g_isint); (focus omega); (focus omega))
  | ((with_reducible apply g_checkn); (focus omega); (focus omega))
  | ((with_reducible apply g_rbooks); (focus walk_at "hp"))
  | ((with_reducible apply g_rpace); (focus walk_at "hp"); intro _ _ _ _)
  | ((with_reducible apply g_rlen); (focus walk_at "hp"))
  | ((with_reducible apply g_rneed); (focus walk_at "hp"); (focus omega))
  | ((with_reducible apply g_rneedM); (focus walk_at "hp"))
  | ((with_reducible apply g_rwithM); (focus walk_at "hp"))
  | ((with_reducible apply g_rspans); (focus walk_at "hp"); (focus with_reducible assumption))
  | ((with_reducible apply g_rheaps); (focus walk_at "hp"); (focus with_reducible assumption))
  | ((with_reducible apply g_rtotal); (focus walk_at "hp"); (focus with_reducible assumption)))

theorem psr_ownR {X : Cx} {C : Addr} {W : WX} {x m : Str} {j n : Nat} {p p2 pos pos' : Pos} (T : ExcR X.K C n) (gC : X.mg x = some (.ref C)) (hc : X.calm = true) (tk : Takes X W) (hg : Gl X x := by rfl) (hdb : (x == ("__debug__" : Str)) = false := by decide) :
    PS X (.Raise (some (.Call (.Name x p) [.Constant (.str m) j p2] [] pos)) none pos') (fun _ σ H => W (.ref C) none σ H) :=
  ps_raise hc tk (pmk_own PySem.F.excBase_ValueError T.ex gC T.kp (raises_own T.sb T.ty) hg hdb)
/-- told: nothing, or the word of an error and its field -/
def vNm (j : Nat) : Str := (["book", "", "", "", "index", "entry"] : List Str).getD j "other"
def vWd (j : Nat) : Str := (["read", "", "", "", "operation", "diary"] : List Str).getD j "other"
def RaiseV (K : PySem.W.Frag) (Q : VK) : XK := fun cls d H' =>
  (∃ D j, cls = .ref D ∧ d = none ∧ ExcR K D j ∧ 1 ≤ j ∧ j ≤ 3 ∧ ∀ p H'', H' p = none → Ex H' H'' → H'' p = some (.tup [.str (erWord j)]) → Q (.ref p) H'') ∨
  (∃ D dd v j, cls = .ref D ∧ d = some dd ∧ (j = 0 ∨ j = 4 ∨ j = 5) ∧ ErrN K D erNm 6 j [vNm j] ∧ H' dd = some (.xd [(vNm j, v)]) ∧ ∀ p H'', H' p = none → Ex H' H'' → H'' p = some (.tup [.str (vWd j), v]) → Q (.ref p) H'')
def TRaiseV (K : PySem.W.Frag) (tl : XK → Hp → VK → Prop) (H : Hp) (Q : VK) : Prop := tl (RaiseV K Q) H fun _ H' => Q .non H'
section
variable {P : Program} {w : World} {K : PySem.W.Frag} {mg : Str → Option Value} {base : Heap}
theorem DicA.ex {H H' : Hp} {d : Option Addr} (e : Ex H H') (h : DicA H d) : DicA H' d := h.imp id fun ⟨dd, fs, a, b⟩ => ⟨dd, fs, a, e _ _ b⟩
theorem g_isX {H : Hp} {Q : VK} {D a C : Addr} {d : Option Addr} {b : Bool} (hd : DicA H d) (h : PySem.W.kitOne K (.ref D) (.ref C) = some b) (q : Q (.bl b) H) : rIsX K D d a [.ref a, .ref C] H Q := ⟨hd, .ref C, .ref C, b, rfl, fun u r => r, h, q⟩
theorem g_isXt {H : Hp} {Q : VK} {D a : Addr} {d : Option Addr} {T : String} {b : Bool} (hd : DicA H d) (h : PySem.W.kitOne K (.ref D) (.type T) = some b) (q : Q (.bl b) H) : rIsX K D d a [.ref a, .ty T] H Q := ⟨hd, .ty T, .type T, b, rfl, fun u r => r, h, q⟩
def flagsR (j : Nat) : List V := (List.range 6).map fun i => .bl (decide (i = j))
theorem g_cntFlagR {H : Hp} {Q : VK} {a : Addr} {j : Nat} (h : SqL K H a (flagsR j)) (hj : j < 6) (q : Q (.int 1) H) : rCntF K (.ref a) [.bl true] H Q := by
  have e : (flagsR j).countP (fun z => eqV z (.bl true)) = 1 ∧ (flagsR j).all flatV = true := by
    have : j = 0 ∨ j = 1 ∨ j = 2 ∨ j = 3 ∨ j = 4 ∨ j = 5 := by omega
    rcases this with rfl | rfl | rfl | rfl | rfl | rfl <;> exact ⟨rfl, rfl⟩
  refine ⟨a, flagsR j, .bl true, rfl, rfl, h, rfl, e.2, ?_⟩
  rw [e.1]
  exact q
theorem g_idxFlagR {H : Hp} {Q : VK} {a : Addr} {j : Nat} (h : SqL K H a (flagsR j)) (hj : j < 6) (q : Q (.int (j : Nat)) H) : rIndex K (.ref a) [.bl true] H Q := by
  have e : (flagsR j).all flatV = true := by
    have : j = 0 ∨ j = 1 ∨ j = 2 ∨ j = 3 ∨ j = 4 ∨ j = 5 := by omega
    rcases this with rfl | rfl | rfl | rfl | rfl | rfl <;> rfl
  refine ⟨a, flagsR j, .bl true, j, .bl true, rfl, rfl, h, rfl, e, ?_, rfl, fun m z hm hz => ?_, q⟩
  · unfold flagsR
    rw [List.getElem?_map, List.getElem?_range hj]
    simp
  · unfold flagsR at hz
    rw [List.getElem?_map, List.getElem?_range (by omega)] at hz
    have hz : V.bl (decide (m = j)) = z := by simpa using hz
    rw [← hz, decide_eq_false (by omega : ¬ m = j)]
    rfl
theorem ok_raisedV (Z : Blt mg) (g_ReadingError : mg "ReadingError" = some (.ref (He.ga K "ReadingError"))) (g_BeingRead : mg "BeingRead" = some (.ref (He.ga K "BeingRead"))) (g_InvalidNumber : mg "InvalidNumber" = some (.ref (He.ga K "InvalidNumber"))) (g_UnknownBook : mg "UnknownBook" = some (.ref (He.ga K "UnknownBook")))
    (g_Contradiction : mg "Contradiction" = some (.ref (He.ga K "Contradiction"))) (g_InvalidOperation : mg "InvalidOperation" = some (.ref (He.ga K "InvalidOperation"))) (g_DiaryError : mg "DiaryError" = some (.ref (He.ga K "DiaryError"))) : GivesL P w K mg base N__law_raised "_law_raised" s__law_raised "_law_work" 10 (TRaiseV K) := by
  intro g cdg A outer s H f Q LF tl hr act hLF h
  refine ⟨_, pss_cons (ps_try_as (i := 1) rfl rfl sc__law_raised.nd rfl rfl ⟨rfl, by decide, .inl g_ReadingError⟩ takes0
      (tb := fun W D σ H => ∃ Ech : L2.St → XK, (∀ σ' cls d H', Ech σ' cls d H' → W cls d σ' H') ∧ σ[0]? = some (some (.ref f)) ∧ LF H ∧ tl (Ech σ) H fun _ H' => D.nx σ H')
      (fun W pn xe tk _ => ⟨fun pins s' σ H' D I h' => by
        obtain ⟨Ech, hW, h1, h2, h3⟩ := h'
        exact (pss_one (ps_expr (act W pn xe Ech _ _ tk hW))).run pins s' σ H' D I ⟨h1, h2, h3⟩⟩)
      (fun a oe cls d pn hz hf => pss_err hz fun Dc hz hC => (pss_cons (ps_set (i := 2) sc__law_raised.nd rfl (by first | exact Or.inl rfl | exact Or.inr rfl) (pe_lst (pa_cons (pe_callB (call_isX hC hz hf) (by rfl) Z.zisinstance (by decide +kernel) (pa_cons (pv 1) (pa_cons (pcls g_BeingRead) pa_nil))) (pa_cons (pe_callB (call_isX hC hz hf) (by rfl) Z.zisinstance (by decide +kernel) (pa_cons (pv 1) (pa_cons (pcls g_InvalidNumber) pa_nil))) (pa_cons (pe_callB (call_isX hC hz hf) (by rfl) Z.zisinstance (by decide +kernel) (pa_cons (pv 1) (pa_cons (pcls g_UnknownBook) pa_nil))) pa_nil)))))
      (pss_cons (ps_set (i := 2) sc__law_raised.nd rfl (by first | exact Or.inl rfl | exact Or.inr rfl) (pe_op op_cat (pv 2) (pe_lst (pa_cons (pe_callB (call_isX hC hz hf) (by rfl) Z.zisinstance (by decide +kernel) (pa_cons (pv 1) (pa_cons (pcls g_Contradiction) pa_nil))) (pa_cons (pe_callB (call_isX hC hz hf) (by rfl) Z.zisinstance (by decide +kernel) (pa_cons (pv 1) (pa_cons (pcls g_InvalidOperation) pa_nil))) (pa_cons (pe_callB (call_isX hC hz hf) (by rfl) Z.zisinstance (by decide +kernel) (pa_cons (pv 1) (pa_cons (pcls g_DiaryError) pa_nil))) pa_nil))))))
      (pss_cons (ps_if (PW.pt (pw_or (pt_cmpR op_ne (pe_bmK K PySem.F.plainAttrs_list PySem.F.slot_list_count PySem.F.type_list_count (mt_countFK K) (pv 2) (pa_cons pe_bl pa_nil)) pe_int (nomark _)) (pw_or1 (pt_not (pt_val (pe_callB (call_isX hC hz hf) (by rfl) Z.zisinstance (by decide +kernel) (pa_cons (pv 1) (pa_cons (pe_bltn rfl Z.zValueError (v := .ty "ValueError") (by decide +kernel) rfl) pa_nil)))))))) (pss_one (ps_ret (pe_tup (pa_cons pe_str pa_nil)))) pss_nil)
      (pss_cons (ps_if (pt_val (pe_ix (ix_listK K) (pv 2) pe_int (fun _ _ => rfl))) (pss_one (ps_ret (pe_tup (pa_cons pe_str (pa_cons (pe_errF hC hz hf (pv 1)) pa_nil))))) pss_nil)
      (pss_cons (ps_if (pt_val (pe_ix (ix_listK K) (pv 2) pe_int (fun _ _ => rfl))) (pss_one (ps_ret (pe_tup (pa_cons pe_str (pa_cons (pe_errF hC hz hf (pv 1)) pa_nil))))) pss_nil)
      (pss_cons (ps_if (pt_val (pe_ix (ix_listK K) (pv 2) pe_int (fun _ _ => rfl))) (pss_one (ps_ret (pe_tup (pa_cons pe_str (pa_cons (pe_errF hC hz hf (pv 1)) pa_nil))))) pss_nil)
      (pss_one (ps_ret (pe_tup (pa_cons (pe_ix (ix_listK K) (pe_lst (pa_cons pe_str (pa_cons pe_str (pa_cons pe_str (pa_cons pe_str pa_nil))))) (pe_bmK K PySem.F.plainAttrs_list PySem.F.slot_list_index PySem.F.type_list_index (mt_indexK K) (pv 2) (pa_cons pe_bl pa_nil)) (fun _ _ => rfl)) pa_nil)))))))))))) (pss_one (ps_ret pe_non)), ?_⟩
  have eE : ∀ E' : XK, (fun (σ' : L2.St) (cls : Value) (d : Option Addr) (H' : Hp) => σ' = L2.start N__law_raised [V.ref f] ∧ E' cls d H') (L2.start N__law_raised [V.ref f]) = E' := fun E' => by
    funext cls d H'
    simp
  refine ⟨fun σ' cls d H' => σ' = L2.start N__law_raised [V.ref f] ∧ RaiseV K Q cls d H', ?_, rfl, hLF, ?_⟩
  · rintro σ' cls d H' ⟨rfl, ⟨D, j, rfl, rfl, T, hj1, hj3, q⟩ | ⟨D, dd, v, j, rfl, rfl, hj, T, hx, q⟩⟩
    · refine ⟨true, T.re, fun _ a ha => ⟨D, rfl, T.c, ?_⟩, fun z => by cases z⟩
      have hd : DicA H' none := .inl rfl
      have hj : j = 1 ∨ j = 2 ∨ j = 3 := by omega
      rcases hj with rfl | rfl | rfl
      all_goals
        walk_at "g0"
        walk_at "go"
        refine g_isX hd (T.is_ 0 (by decide)) ?_
        walk_at "go"
        refine g_isX hd (T.is_ 1 (by decide)) ?_
        walk_at "go"
        refine g_isX hd (T.is_ 2 (by decide)) ?_
        walk_at "go"
        rename_i p1 H1 n1 e1 h1
        refine g_isX (hd.ex e1) (T.is_ 3 (by decide)) ?_
        walk_at "go"
        refine g_isX (hd.ex e1) (T.is_ 4 (by decide)) ?_
        walk_at "go"
        refine g_isX (hd.ex e1) (T.is_ 5 (by decide)) ?_
        walk_at "go"
        rename_i p2 H2 n2 e2 h2 p3 H3 n3 e3 h3
        have e03 := (e1.trans e2).trans e3
        refine g_kBM_list (SqL.of h3) ?_
        walk_at "go"
        refine g_cntFlagR (j := _) (SqL.of h3) (by decide) ?_
        walk_at "go"
        refine g_isXt (hd.ex e03) T.ve ?_
        walk_at "go"
        rename_i p4 H4 n4 e4 h4
        refine g_kBM_list (SqL.of (e4 _ _ h3)) ?_
        walk_at "go"
        refine g_idxFlagR (j := _) (SqL.of (e4 _ _ h3)) (by decide) ?_
        walk_at "go"
        rename_i p5 H5 n5 e5 h5
        exact q p5 H5 (fresh_back (e03.trans e4) n5) ((e03.trans e4).trans e5) h5
    · refine ⟨true, T.re, fun _ a ha => ⟨D, rfl, T.c, ?_⟩, fun z => by cases z⟩
      have hd : DicA H' (some dd) := .inr ⟨dd, _, rfl, hx⟩
      rcases hj with rfl | rfl | rfl
      all_goals
        walk_at "g0"
        walk_at "go"
        refine g_isX hd (T.is_ 0 (by decide)) ?_
        walk_at "go"
        refine g_isX hd (T.is_ 1 (by decide)) ?_
        walk_at "go"
        refine g_isX hd (T.is_ 2 (by decide)) ?_
        walk_at "go"
        rename_i p1 H1 n1 e1 h1
        refine g_isX (hd.ex e1) (T.is_ 3 (by decide)) ?_
        walk_at "go"
        refine g_isX (hd.ex e1) (T.is_ 4 (by decide)) ?_
        walk_at "go"
        refine g_isX (hd.ex e1) (T.is_ 5 (by decide)) ?_
        walk_at "go"
        rename_i p2 H2 n2 e2 h2 p3 H3 n3 e3 h3
        have e03 := (e1.trans e2).trans e3
        refine g_kBM_list (SqL.of h3) ?_
        walk_at "go"
        refine g_cntFlagR (j := _) (SqL.of h3) (by decide) ?_
        walk_at "go"
        refine g_isXt (hd.ex e03) T.ve ?_
        walk_at "go"
        refine ⟨.ref a, rfl, rfl, T.no _ (by decide), dd, _, v, rfl, e03 _ _ hx, rfl, ?_⟩
        walk_at "go"
        rename_i p9 H9 n9 e9 h9
        exact q p9 H9 (fresh_back e03 n9) (e03.trans e9) h9
  · rw [eE]
    exact h
end
end G48

--lib W
--lib P
/-! torn diaries, changed ones -/
namespace G48
open PySem PySem.Spec PyProof.Rows L2 Evl
/-! the steps -/
local macro_rules | `(tactic| walk_at "as") => `(tactic| with_reducible assumption)
local macro_rules | `(tactic| walk_at "hp") => `(tactic| first
  | with_reducible assumption
  | ((with_reducible apply SqT.of); walk_at "as")
  | ((with_reducible apply SqL.of); walk_at "as")
  | ((with_reducible apply ex_at); (focus walk_at "as"); walk_at "hp")
  | ((with_reducible apply ex_t); (focus walk_at "as"); walk_at "hp")
  | ((with_reducible apply ex_l); (focus walk_at "as"); walk_at "hp")
  | ((with_reducible apply exb_ins); (focus walk_at "as"); (focus walk_at "hp"); walk_at "hp")
  | ((with_reducible apply exb_t); (focus walk_at "as"); (focus walk_at "hp"); walk_at "hp")
  | ((with_reducible apply exb_at); (focus walk_at "as"); (focus walk_at "ne"); walk_at "hp")
  | ((with_reducible apply exb_l); (focus walk_at "as"); (focus walk_at "ne"); walk_at "hp"))
local macro_rules | `(tactic| walk_at "ne") => `(tactic| first
  | with_reducible assumption
  | exact Ne.symm (by with_reducible assumption)
  | exact ne_of_none (by with_reducible assumption) (by with_reducible assumption)
  | exact Ne.symm (ne_of_none (by with_reducible assumption) (by with_reducible assumption)))
local macro_rules | `(tactic| walk_at "tr") => `(tactic| first
  | rfl
  | with_reducible assumption
  | exact decide_eq_true (by first | with_reducible assumption | omega)
  | exact decide_eq_false (by first | with_reducible assumption | omega)
  | (rw [Bool.not_eq_true']; exact decide_eq_false (by first | with_reducible assumption | omega))
  | (rw [Bool.not_eq_false']; exact decide_eq_true (by first | with_reducible assumption | omega)))
local macro_rules | `(tactic| walk_at "nn") => `(tactic| first | with_reducible assumption | (exact List.cons_ne_nil _ _))
local macro_rules | `(tactic| walk_at "sz") => `(tactic| first | (exact sz1000 (Nat.le_of_ble_eq_true rfl)) | (refine sz1000 ?_; simp only [List.length_map, List.length_cons, List.length_nil, List.length_append]; omega) | with_reducible assumption)
local macro_rules | `(tactic| walk_at "sl") => `(tactic| first | with_reducible assumption | (refine lt1000 ?_; simp only [List.length_map, List.length_cons, List.length_nil, List.length_append]; omega) | (refine lt1000 ?_; omega))
local macro_rules | `(tactic| walk_at "ix") => `(tactic| first | rfl | with_reducible assumption)
local macro_rules | `(tactic| walk_at "rg") => `(tactic| exact RgOk.of_le (by omega) (by omega) (by omega) (by omega))
local macro_rules | `(tactic| walk_at "sp") => `(tactic| fail "sp")
local macro_rules | `(tactic| walk_at "cl") => `(tactic| with_reducible assumption)
local macro_rules | `(tactic| walk_at "lk") => `(tactic| with_reducible assumption)
local macro_rules | `(tactic| walk_at "it") => `(tactic| first | rfl | with_reducible assumption | exact atI_nat (by with_reducible assumption))
local macro_rules | `(tactic| walk_at "g1") => `(tactic| first
  | (with_reducible apply g_var); (focus rfl)
  | with_reducible apply g_c
  | with_reducible apply g_seq
  | with_reducible apply g_asg
  | with_reducible apply gg_name
  | with_reducible apply g_op
  | with_reducible apply g_cons
  | with_reducible apply g_nil
  | with_reducible apply g_cb
  | with_reducible apply g_fld
  | ((with_reducible apply g_kFld); (focus walk_at "hp"); (focus walk_at "cl"); (focus walk_at "cl"); (focus walk_at "lk"))
  | with_reducible apply g_call
  | walk_at "sp"
  | with_reducible apply g_ret
  | with_reducible apply g_drop
  | with_reducible apply g_test
  | with_reducible apply g_B
  | with_reducible apply g_kTest
  | with_reducible apply g_ifS
  | with_reducible apply g_kIfST
  | with_reducible apply g_kIfSF
  | with_reducible apply g_add
  | with_reducible apply g_sub
  | with_reducible apply g_lt
  | with_reducible apply g_le
  | with_reducible apply g_gt
  | with_reducible apply g_ge
  | with_reducible apply g_eqI
  | with_reducible apply g_neI
  | ((with_reducible apply g_mod); (focus first | decide | omega))
  | ((with_reducible apply g_mul); (focus first | (left; constructor <;> omega) | (right; constructor <;> omega)))
  | ((with_reducible apply g_fdiv); (focus (constructor <;> omega)))
  | ((with_reducible apply g_ixT); (focus walk_at "hp"); (focus walk_at "it"))
  | ((with_reducible apply g_ixL); (focus walk_at "hp"); (focus walk_at "it"))
  | with_reducible apply g_and
  | with_reducible apply g_or
  | with_reducible apply g_not
  | with_reducible apply g_kNotT
  | with_reducible apply g_kNotF
  | with_reducible apply g_if
  | with_reducible apply g_kAndT
  | with_reducible apply g_kAndF
  | with_reducible apply g_kOrT
  | with_reducible apply g_kOrF
  | with_reducible apply g_kIfT
  | with_reducible apply g_kIfF
  | with_reducible apply g_next
  | with_reducible apply g_andV
  | with_reducible apply g_orV
  | with_reducible apply g_notV
  | with_reducible apply g_kNotV
  | with_reducible apply g_kAndVT
  | with_reducible apply g_kAndVF
  | with_reducible apply g_chain
  | with_reducible apply g_kChainT
  | with_reducible apply g_kChainF
  | with_reducible apply g_tup
  | with_reducible apply g_lst
  | ((with_reducible apply g_kT); (focus walk_at "sz"); intro _ _ _ _ _)
  | ((with_reducible apply g_kL); (focus walk_at "sz"); intro _ _ _ _ _)
  | with_reducible apply g_un
  | with_reducible apply g_neg
  | with_reducible apply g_meth
  | ((with_reducible apply g_kMeth); (focus walk_at "hp"); (focus walk_at "lk"))
  | with_reducible apply g_prop
  | ((with_reducible apply g_kProp); (focus walk_at "hp"))
  | with_reducible apply g_make
  | with_reducible apply g_par
  | with_reducible apply g_kPar
  | ((with_reducible apply g_lenLM); (focus walk_at "hp"))
  | ((with_reducible apply g_lenTM); (focus walk_at "hp"))
  | ((with_reducible apply g_lenL); (focus walk_at "hp"))
  | ((with_reducible apply g_lenT); (focus walk_at "hp"))
  | with_reducible apply g_int1
  | with_reducible apply g_max2
  | with_reducible apply g_min2
  | ((with_reducible apply g_listL); (focus walk_at "hp"); intro _ _ _ _ _)
  | ((with_reducible apply g_listT); (focus walk_at "hp"); intro _ _ _ _ _)
  | ((with_reducible apply g_tupL); (focus walk_at "hp"); intro _ _ _ _ _)
  | ((with_reducible apply g_sum); (focus walk_at "hp"))
  | with_reducible apply g_sfld
  | with_reducible apply g_sl
  | with_reducible apply g_nopart
  | with_reducible apply g_part
  | with_reducible apply g_kPart
  | with_reducible apply g_lstRg
  | with_reducible apply g_rg1
  | with_reducible apply g_kRg1
  | with_reducible apply g_bm
  | with_reducible apply gg_sub
  | ((with_reducible apply gg_tup); (focus walk_at "hp"); (focus rfl))
  | with_reducible apply gg_cons
  | with_reducible apply gg_nil
  | with_reducible apply g_forL
  | with_reducible apply g_forT
  | with_reducible apply g_forR1
  | with_reducible apply g_forR2
  | with_reducible apply g_forE
  | with_reducible apply g_forEL
  | ((with_reducible apply g_maxT); (focus walk_at "hp"); (focus walk_at "nn"))
  | ((with_reducible apply g_maxL); (focus walk_at "hp"); (focus walk_at "nn"))
  | ((with_reducible apply g_catA); (focus walk_at "hp"); (focus walk_at "hp"); (focus walk_at "sz"); intro _ _ _ _)
  | ((with_reducible apply g_slA); (focus walk_at "hp"); intro _ _ _ _)
  | ((with_reducible apply g_tupD); (focus walk_at "hp"); intro _ _ _ _ _)
  | ((with_reducible apply g_setL); (focus walk_at "hp"); (focus walk_at "ix"); intro _ _ _)
  | ((with_reducible apply g_append); (focus walk_at "hp"); (focus walk_at "sl"); intro _ _ _)
  | ((with_reducible apply g_aug); (focus rfl))
  | with_reducible apply g_ipI
  | with_reducible apply g_retN
  | with_reducible apply g_lcR1
  | with_reducible apply g_lcR2
  | with_reducible apply g_lcL
  | with_reducible apply g_lcU
  | with_reducible apply g_lcN
  | ((with_reducible apply g_kLcG); (focus rfl))
  | with_reducible apply g_yes
  | with_reducible apply g_kLcTT
  | with_reducible apply g_kLcTF
  | ((with_reducible apply g_kLcE); (focus walk_at "hp"); (focus walk_at "sl"); intro _ _ _)
  | ((with_reducible apply g_pow); (focus (constructor <;> (try constructor) <;> decide)))
  | ((with_reducible apply g_kLRg); (focus walk_at "rg"); intro _ _ _ _ _)
  | ((with_reducible apply g_cat); (focus walk_at "hp"); (focus walk_at "hp"); (focus walk_at "sz"); intro _ _ _ _ _)
  | ((with_reducible apply g_slL); (focus walk_at "hp"); intro _ _ _ _ _)
  | with_reducible apply g_bmT
  | with_reducible apply g_break
  | with_reducible apply g_cont)
local macro_rules | `(tactic| walk_at "g0") => `(tactic| try dsimp only [L2.cxOf, L2.Cx.nox, L2.Cx.wish])
local macro_rules | `(tactic| walk_at "yn") => `(tactic| first
  | ((with_reducible apply y_kIfS); (focus walk_at "tr"))
  | ((with_reducible apply n_kIfS); (focus walk_at "tr"))
  | ((with_reducible apply y_kOr); (focus walk_at "tr"))
  | ((with_reducible apply n_kOr); (focus walk_at "tr"))
  | ((with_reducible apply y_kAnd); (focus walk_at "tr"))
  | ((with_reducible apply n_kAnd); (focus walk_at "tr"))
  | ((with_reducible apply y_kNot); (focus walk_at "tr"))
  | ((with_reducible apply n_kNot); (focus walk_at "tr"))
  | ((with_reducible apply y_kIf); (focus walk_at "tr"))
  | ((with_reducible apply n_kIf); (focus walk_at "tr"))
  | ((with_reducible apply y_kAndV); (focus walk_at "tr"))
  | ((with_reducible apply n_kAndV); (focus walk_at "tr"))
  | ((with_reducible apply y_kOrV); (focus walk_at "tr"))
  | ((with_reducible apply n_kOrV); (focus walk_at "tr"))
  | ((with_reducible apply y_kChain); (focus walk_at "tr"))
  | ((with_reducible apply n_kChain); (focus walk_at "tr"))
  | ((with_reducible apply y_kLcT); (focus walk_at "tr"))
  | ((with_reducible apply n_kLcT); (focus walk_at "tr"))
  | ((with_reducible apply y_kWh); (focus walk_at "tr"))
  | ((with_reducible apply n_kWh); (focus walk_at "tr")))
local macro_rules | `(tactic| walk_at "go") => `(tactic| repeat (first | walk_at "g1" | walk_at "yn"))
local macro_rules | `(tactic| walk_at "hp") => `(tactic| first
  | ((with_reducible apply RingIn.ex); (focus walk_at "as"); walk_at "hp")
  | ((with_reducible apply RingAt.ex); (focus walk_at "as"); walk_at "hp")
  | ((with_reducible apply RingIn.exb); (focus walk_at "as"); (focus walk_at "hp"); walk_at "hp")
  | ((with_reducible apply RingAt.exb); (focus walk_at "as"); (focus walk_at "hp"); walk_at "hp")
  | ((with_reducible apply TupK.ex); (focus walk_at "as"); walk_at "hp")
  | ((with_reducible apply TupK.exb); (focus walk_at "as"); (focus walk_at "hp"); walk_at "hp"))
local macro_rules | `(tactic| walk_at "lk") => `(tactic| first | with_reducible exact rf_spans | with_reducible exact rf_heaps | with_reducible exact rf_total | with_reducible exact rf_nr | with_reducible exact rf_wd)
local macro_rules | `(tactic| walk_at "sp") => `(tactic| first
  | ((with_reducible apply g_isiTup); (focus walk_at "hp"))
  | ((with_reducible apply g_isiLst); (focus walk_at "hp"))
  | ((with_reducible apply g_isint); (focus omega); (focus omega))
  | ((with_reducible apply g_checkn); (focus omega); (focus omega))
  | ((with_reducible apply g_rbooks); (focus walk_at "hp"))
  | ((with_reducible apply g_rpace); (focus walk_at "hp"); intro _ _ _ _)
  | ((with_reducible apply g_rlen); (focus walk_at "hp"))
  | ((with_reducible apply g_rneed); (focus walk_at "hp"); (focus omega))
  | ((with_reducible apply g_rneedM); (focus walk_at "hp"))
  | ((with_reducible apply g_rwithM); (focus walk_at "hp"))
  | ((with_reducible apply g_rspans); (focus walk_at "hp"); (focus with_reducible assumption))
  | ((with_reducible apply g_rheaps); (focus walk_at "hp"); (focus with_reducible assumption))
  | ((with_reducible apply g_rtotal); (focus walk_at "hp"); (focus with_reducible assumption)))

local macro_rules | `(tactic| walk_at "sp") => `(tactic| first
  | ((with_reducible apply g_taken); (focus walk_at "hp"); (focus first | decide | omega); (focus first | decide | omega); intro _ _ _ _ _ _))
local macro_rules | `(tactic| walk_at "hp") => `(tactic| first
  | ((with_reducible apply DiceAt.ex); (focus walk_at "as"); walk_at "hp")
  | ((with_reducible apply exb_tD); (focus walk_at "as"); (focus walk_at "hp"); walk_at "hp")
  | ((with_reducible apply exb_insD); (focus walk_at "as"); (focus walk_at "hp"); walk_at "hp")
  | ((with_reducible apply RingIn.exD); (focus walk_at "as"); (focus walk_at "hp"); walk_at "hp")
  | ((with_reducible apply TupK.exD); (focus walk_at "as"); (focus walk_at "hp"); walk_at "hp"))

local macro_rules | `(tactic| walk_at "g1") => `(tactic| first
  | with_reducible apply g_m1
  | with_reducible apply g_kM1
  | with_reducible apply g_joined
  | with_reducible apply g_jcons
  | with_reducible apply g_jnil
  | with_reducible apply g_kOut
  | with_reducible apply g_fmt
  | with_reducible apply g_lcTx
  | with_reducible apply g_lcZ
  | with_reducible apply g_lcNL
  | with_reducible apply g_forZ2
  | with_reducible apply g_forZ3
  | with_reducible apply g_inS)

section
variable {P : Program} {w : World} {K : PySem.W.Frag} {mg : Str → Option Value} {base : Heap} {C : Addr}
theorem logS {i : Int} (h0 : 0 ≤ i) (h1 : i < 1000) : i.natAbs.log2 < 1920 := Nat.lt_of_le_of_lt (Nat.log2_le_self _) (by omega)
def eL (e : Int × Int × Int) : List Int := [e.1, e.2.1, e.2.2]
/-- an entry, some numbers torn out -/
def TornW (e : Int × Int × Int) (ws : List V) : Prop := ws.length = 3 ∧ ∀ (k : Nat) (v : V) (n : Int), ws[k]? = some v → (eL e)[k]? = some n → v = .non ∨ v = .int n
def sp_torn (K : PySem.W.Frag) : Sp := fun vs H Q _ => ∃ (d l : Addr) (zs : List V) (es : List (Int × Int × Int)), vs = [.ref d, .ref l] ∧ DiceAt K H d ∧ H l = some (.lst zs) ∧ l ≠ d ∧ Ent K H zs es ∧ es.length ≤ 100 ∧
  ∀ (p : Addr) (ys : List V) (H' : Hp), H p = none → Exb d H H' → DiceAt K H' d → H' p = some (.lst ys) → ys.length = es.length → (∀ (i : Nat) (e : Int × Int × Int), es[i]? = some e → ∃ (t : Addr) (ws : List V), ys[i]? = some (.ref t) ∧ SqT K H' t ws ∧ TornW e ws) → Q (.ref p) H'
set_option maxHeartbeats 8000000 in
theorem g_kIfR {ta tb : TE} {σ : L2.St} {Q : VK} {c : Bool} {H : Hp} (Rr : V → Hp → Prop) (h1 : c = true → ∀ Q' : VK, (∀ v H', Rr v H' → Q' v H') → ta σ H Q') (h2 : c = false → ∀ Q' : VK, (∀ v H', Rr v H' → Q' v H') → tb σ H Q') (q : ∀ v H', Rr v H' → Q v H') : kIf ta tb σ Q c H := g_kIf (fun h => h1 h Q q) fun h => h2 h Q q
def sp_changed (K : PySem.W.Frag) : Sp := fun vs H Q _ => ∃ (d l : Addr) (k : Nat) (zs : List V) (es : List (Int × Int × Int)) (e : Int × Int × Int), vs = [.ref d, .ref l, .int (k : Int)] ∧ DiceAt K H d ∧ H l = some (.lst zs) ∧ l ≠ d ∧ Ent K H zs es ∧ es.length ≤ 100 ∧ es[k]? = some e ∧ 0 ≤ e.2.1 ∧ (0 ≤ e.1 ∧ e.1 ≤ 900) ∧
  ∀ p l' x o H', H p = none → Exb d H H' → DiceAt K H' d → H' p = some (.tup [.ref l', .bl (!(fitB e o))]) → H' l' = some (.lst (zs.take k ++ [x] ++ zs.drop (k + 1))) → EntS K H' x o → Q (.ref p) H'
set_option maxHeartbeats 8000000 in
end
end G48

/-! behind a lambda: what is carried over; texts compared; lists of pairs and the empty list -/
namespace G48
open PySem PySem.Spec PyProof.Rows L2 Evl
open LamX (Tabs ExtN)
section
variable {K : PySem.W.Frag} {H H' : Hp} {C : Addr}
theorem Scr.exn {a : Addr} {xs : List V} (e : ExtN H H') : Scr K H a xs → Scr K H' a xs
  | .inl ⟨o, h⟩ => .inl ⟨o, e _ _ h fun _ z => by cases z⟩
  | .inr h => .inr h
theorem DiceAt.exn {d : Addr} (e : ExtN H H') (D : DiceAt K H d) : DiceAt K H' d := by
  obtain ⟨sc, ns, p, m, r, h, hs, z, q⟩ := D
  exact ⟨sc, ns, p, m, r, exn_lst e h, hs.exn e, z, q⟩
theorem RingIn.exn {r a b : Addr} {ds hs : List Int} (e : ExtN H H') (R : RingIn K C H r a b ds hs) : RingIn K C H' r a b ds hs :=
  ⟨let ⟨dx, h⟩ := R.obj; ⟨dx, exn_ins e h⟩, exn_t e R.sp, exn_t e R.hp, R.ok⟩
theorem TupK.exn {a : Addr} {xs : List V} (e : ExtN H H') (h : TupK H a xs) : TupK H' a xs := by
  obtain ⟨o, h, c⟩ := h
  exact ⟨o, e _ _ h (fun _ z => by cases z), c⟩
theorem tabs_exD {T : List (Addr × Str)} {d : Addr} (e : Exb d H H') (D : DiceAt K H d) (t : Tabs T H) : Tabs T H' := let ⟨_, hl⟩ := D.lst; tabs_exb e hl t
variable {Q : VK} {a b : Addr}
theorem strD_sh (x y : Str) (hx : PyData.strOk x = true) (hy : PyData.strOk y = true) : SeqAt.shaped (.tuple [.str x, .str y]) = true := by
  show (PyData.canLay0 (.tuple [.str x, .str y]) && decide (PyData.depth (.tuple [.str x, .str y]) ≤ 64)) = true
  rw [Bool.and_eq_true]
  exact ⟨by simp [PyData.canLay0, PyData.canLayAll0, hx, hy], decide_eq_true (by simp [PyData.depth, PyData.depthAll])⟩
theorem strD_dp {x y : Str} (h : SqT K H a [.str x, .str y]) : Dp K H (.ref a) (.tuple [.str x, .str y]) := .tup h (.cons (.str _) (.cons (.str _) .nil))
theorem strD_eqv (x y : Str) : PyData.eqv (.tuple [.str x, .str y]) (.tuple [.str x, .str y]) = true := by simp [PyData.eqv, PyData.eqvAll]
/-- the error's name is the one that is due -/
theorem g_neTS {x y : Str} (hx : PyData.strOk x = true) (hy : PyData.strOk y = true) (h1 : SqT K H a [.str x, .str y]) (h2 : SqT K H b [.str x, .str y]) (q : Q (.bl false) H) : rNeD K (.ref a) (.ref b) H Q := g_neD (strD_dp h1) (strD_dp h2) (strD_sh _ _ hx hy) (strD_sh _ _ hx hy) (by rw [strD_eqv]; exact q)
theorem nilD_eqv (ps : List PyData) : PyData.eqv (.list ps) (.list []) = ps.isEmpty := by
  cases ps with
  | nil => simp [PyData.eqv, PyData.eqvAll]
  | cons p ps => simp [PyData.eqv, PyData.eqvAll]
theorem g_eqNil {zs : List V} {ps : List (Int × Int)} (h1 : SqL K H a zs) (h2 : pairsV K H zs ps) (h3 : SqL K H b []) (q : Q (.bl ps.isEmpty) H) : rEqD K (.ref a) (.ref b) H Q :=
  g_eqD (.lst h1 h2.dp) (.lst h3 .nil) (pairsL_sh ps) (pairsL_sh []) (by rw [show PyData.list [] = PyData.list [] from rfl, nilD_eqv, List.isEmpty_map]; exact q)
theorem g_neNil {zs : List V} {ps : List (Int × Int)} (h1 : SqL K H a zs) (h2 : pairsV K H zs ps) (h3 : SqL K H b []) (q : Q (.bl (!ps.isEmpty)) H) : rNeD K (.ref a) (.ref b) H Q :=
  g_neD (.lst h1 h2.dp) (.lst h3 .nil) (pairsL_sh ps) (pairsL_sh []) (by rw [nilD_eqv, List.isEmpty_map]; exact q)
theorem g_kIfSM {t1 t2 : TS} {D : Ends} {σ : L2.St} {c : Bool} {H : Hp} (M : L2.St → Hp → Prop) (h1 : c = true → ∀ N : L2.St → Hp → Prop, (∀ σ' H', M σ' H' → N σ' H') → t1 { D with nx := N } σ H) (h2 : c = false → ∀ N : L2.St → Hp → Prop, (∀ σ' H', M σ' H' → N σ' H') → t2 { D with nx := N } σ H)
    (q : ∀ σ' H', M σ' H' → D.nx σ' H') : kIfS t1 t2 D σ c H := g_kIfS (fun h => h1 h D.nx q) fun h => h2 h D.nx q
theorem g_toldL {T : List (Addr × Str)} {t : XK → TE} {TT : (XK → Hp → VK → Prop) → Hp → VK → Prop} {σ : L2.St} {H : Hp} {Q : VK} (h : Tabs T H) (q : ∀ H1, ExtN H H1 → Tabs T H1 → TT (fun E H' Q' => t E σ H' Q') H1 Q) : tToldL T t TT σ H Q := ⟨h, q⟩
end
end G48

--lib F
--lib Q
--lib P
/-! lemmas about diaries that the laws share -/
namespace G48
open PySem PySem.Spec PyProof.Rows L2 Evl
open LamX (Tabs ExtN)
/-! the steps -/
local macro_rules | `(tactic| walk_at "as") => `(tactic| with_reducible assumption)
local macro_rules | `(tactic| walk_at "hp") => `(tactic| first
  | with_reducible assumption
  | ((with_reducible apply SqT.of); walk_at "as")
  | ((with_reducible apply SqL.of); walk_at "as")
  | ((with_reducible apply ex_at); (focus walk_at "as"); walk_at "hp")
  | ((with_reducible apply ex_t); (focus walk_at "as"); walk_at "hp")
  | ((with_reducible apply ex_l); (focus walk_at "as"); walk_at "hp")
  | ((with_reducible apply exb_ins); (focus walk_at "as"); (focus walk_at "hp"); walk_at "hp")
  | ((with_reducible apply exb_t); (focus walk_at "as"); (focus walk_at "hp"); walk_at "hp")
  | ((with_reducible apply exb_at); (focus walk_at "as"); (focus walk_at "ne"); walk_at "hp")
  | ((with_reducible apply exb_l); (focus walk_at "as"); (focus walk_at "ne"); walk_at "hp"))
local macro_rules | `(tactic| walk_at "ne") => `(tactic| first
  | with_reducible assumption
  | exact Ne.symm (by with_reducible assumption)
  | exact ne_of_none (by with_reducible assumption) (by with_reducible assumption)
  | exact Ne.symm (ne_of_none (by with_reducible assumption) (by with_reducible assumption)))
local macro_rules | `(tactic| walk_at "tr") => `(tactic| first
  | rfl
  | with_reducible assumption
  | exact decide_eq_true (by first | with_reducible assumption | omega)
  | exact decide_eq_false (by first | with_reducible assumption | omega)
  | (rw [Bool.not_eq_true']; exact decide_eq_false (by first | with_reducible assumption | omega))
  | (rw [Bool.not_eq_false']; exact decide_eq_true (by first | with_reducible assumption | omega)))
local macro_rules | `(tactic| walk_at "nn") => `(tactic| first | with_reducible assumption | (exact List.cons_ne_nil _ _))
local macro_rules | `(tactic| walk_at "sz") => `(tactic| first | (exact sz1000 (Nat.le_of_ble_eq_true rfl)) | (refine sz1000 ?_; simp only [List.length_map, List.length_cons, List.length_nil, List.length_append]; omega) | with_reducible assumption)
local macro_rules | `(tactic| walk_at "sl") => `(tactic| first | with_reducible assumption | (refine lt1000 ?_; simp only [List.length_map, List.length_cons, List.length_nil, List.length_append]; omega) | (refine lt1000 ?_; omega))
local macro_rules | `(tactic| walk_at "ix") => `(tactic| first | rfl | with_reducible assumption)
local macro_rules | `(tactic| walk_at "rg") => `(tactic| exact RgOk.of_le (by omega) (by omega) (by omega) (by omega))
local macro_rules | `(tactic| walk_at "sp") => `(tactic| fail "sp")
local macro_rules | `(tactic| walk_at "cl") => `(tactic| with_reducible assumption)
local macro_rules | `(tactic| walk_at "lk") => `(tactic| with_reducible assumption)
local macro_rules | `(tactic| walk_at "it") => `(tactic| first | rfl | with_reducible assumption | exact atI_nat (by with_reducible assumption))
local macro_rules | `(tactic| walk_at "g1") => `(tactic| first
  | (with_reducible apply g_var); (focus rfl)
  | with_reducible apply g_c
  | with_reducible apply g_seq
  | with_reducible apply g_asg
  | with_reducible apply gg_name
  | with_reducible apply g_op
  | with_reducible apply g_cons
  | with_reducible apply g_nil
  | with_reducible apply g_cb
  | with_reducible apply g_fld
  | ((with_reducible apply g_kFld); (focus walk_at "hp"); (focus walk_at "cl"); (focus walk_at "cl"); (focus walk_at "lk"))
  | with_reducible apply g_call
  | walk_at "sp"
  | with_reducible apply g_ret
  | with_reducible apply g_drop
  | with_reducible apply g_test
  | with_reducible apply g_B
  | with_reducible apply g_kTest
  | with_reducible apply g_ifS
  | with_reducible apply g_kIfST
  | with_reducible apply g_kIfSF
  | with_reducible apply g_add
  | with_reducible apply g_sub
  | with_reducible apply g_lt
  | with_reducible apply g_le
  | with_reducible apply g_gt
  | with_reducible apply g_ge
  | with_reducible apply g_eqI
  | with_reducible apply g_neI
  | ((with_reducible apply g_mod); (focus first | decide | omega))
  | ((with_reducible apply g_mul); (focus first | (left; constructor <;> omega) | (right; constructor <;> omega)))
  | ((with_reducible apply g_fdiv); (focus (constructor <;> omega)))
  | ((with_reducible apply g_ixT); (focus walk_at "hp"); (focus walk_at "it"))
  | ((with_reducible apply g_ixL); (focus walk_at "hp"); (focus walk_at "it"))
  | with_reducible apply g_and
  | with_reducible apply g_or
  | with_reducible apply g_not
  | with_reducible apply g_kNotT
  | with_reducible apply g_kNotF
  | with_reducible apply g_if
  | with_reducible apply g_kAndT
  | with_reducible apply g_kAndF
  | with_reducible apply g_kOrT
  | with_reducible apply g_kOrF
  | with_reducible apply g_kIfT
  | with_reducible apply g_kIfF
  | with_reducible apply g_next
  | with_reducible apply g_andV
  | with_reducible apply g_orV
  | with_reducible apply g_notV
  | with_reducible apply g_kNotV
  | with_reducible apply g_kAndVT
  | with_reducible apply g_kAndVF
  | with_reducible apply g_chain
  | with_reducible apply g_kChainT
  | with_reducible apply g_kChainF
  | with_reducible apply g_tup
  | with_reducible apply g_lst
  | ((with_reducible apply g_kT); (focus walk_at "sz"); intro _ _ _ _ _)
  | ((with_reducible apply g_kL); (focus walk_at "sz"); intro _ _ _ _ _)
  | with_reducible apply g_un
  | with_reducible apply g_neg
  | with_reducible apply g_meth
  | ((with_reducible apply g_kMeth); (focus walk_at "hp"); (focus walk_at "lk"))
  | with_reducible apply g_prop
  | ((with_reducible apply g_kProp); (focus walk_at "hp"))
  | with_reducible apply g_make
  | with_reducible apply g_par
  | with_reducible apply g_kPar
  | ((with_reducible apply g_lenLM); (focus walk_at "hp"))
  | ((with_reducible apply g_lenTM); (focus walk_at "hp"))
  | ((with_reducible apply g_lenL); (focus walk_at "hp"))
  | ((with_reducible apply g_lenT); (focus walk_at "hp"))
  | with_reducible apply g_int1
  | with_reducible apply g_max2
  | with_reducible apply g_min2
  | ((with_reducible apply g_listL); (focus walk_at "hp"); intro _ _ _ _ _)
  | ((with_reducible apply g_listT); (focus walk_at "hp"); intro _ _ _ _ _)
  | ((with_reducible apply g_tupL); (focus walk_at "hp"); intro _ _ _ _ _)
  | ((with_reducible apply g_sum); (focus walk_at "hp"))
  | with_reducible apply g_sfld
  | with_reducible apply g_sl
  | with_reducible apply g_nopart
  | with_reducible apply g_part
  | with_reducible apply g_kPart
  | with_reducible apply g_lstRg
  | with_reducible apply g_rg1
  | with_reducible apply g_kRg1
  | with_reducible apply g_bm
  | with_reducible apply gg_sub
  | ((with_reducible apply gg_tup); (focus walk_at "hp"); (focus rfl))
  | with_reducible apply gg_cons
  | with_reducible apply gg_nil
  | with_reducible apply g_forL
  | with_reducible apply g_forT
  | with_reducible apply g_forR1
  | with_reducible apply g_forR2
  | with_reducible apply g_forE
  | with_reducible apply g_forEL
  | ((with_reducible apply g_maxT); (focus walk_at "hp"); (focus walk_at "nn"))
  | ((with_reducible apply g_maxL); (focus walk_at "hp"); (focus walk_at "nn"))
  | ((with_reducible apply g_catA); (focus walk_at "hp"); (focus walk_at "hp"); (focus walk_at "sz"); intro _ _ _ _)
  | ((with_reducible apply g_slA); (focus walk_at "hp"); intro _ _ _ _)
  | ((with_reducible apply g_tupD); (focus walk_at "hp"); intro _ _ _ _ _)
  | ((with_reducible apply g_setL); (focus walk_at "hp"); (focus walk_at "ix"); intro _ _ _)
  | ((with_reducible apply g_append); (focus walk_at "hp"); (focus walk_at "sl"); intro _ _ _)
  | ((with_reducible apply g_aug); (focus rfl))
  | with_reducible apply g_ipI
  | with_reducible apply g_retN
  | with_reducible apply g_lcR1
  | with_reducible apply g_lcR2
  | with_reducible apply g_lcL
  | with_reducible apply g_lcU
  | with_reducible apply g_lcN
  | ((with_reducible apply g_kLcG); (focus rfl))
  | with_reducible apply g_yes
  | with_reducible apply g_kLcTT
  | with_reducible apply g_kLcTF
  | ((with_reducible apply g_kLcE); (focus walk_at "hp"); (focus walk_at "sl"); intro _ _ _)
  | ((with_reducible apply g_pow); (focus (constructor <;> (try constructor) <;> decide)))
  | ((with_reducible apply g_kLRg); (focus walk_at "rg"); intro _ _ _ _ _)
  | ((with_reducible apply g_cat); (focus walk_at "hp"); (focus walk_at "hp"); (focus walk_at "sz"); intro _ _ _ _ _)
  | ((with_reducible apply g_slL); (focus walk_at "hp"); intro _ _ _ _ _)
  | with_reducible apply g_bmT
  | with_reducible apply g_break
  | with_reducible apply g_cont)
local macro_rules | `(tactic| walk_at "g0") => `(tactic| try dsimp only [L2.cxOf, L2.Cx.nox, L2.Cx.wish])
local macro_rules | `(tactic| walk_at "yn") => `(tactic| first
  | ((with_reducible apply y_kIfS); (focus walk_at "tr"))
  | ((with_reducible apply n_kIfS); (focus walk_at "tr"))
  | ((with_reducible apply y_kOr); (focus walk_at "tr"))
  | ((with_reducible apply n_kOr); (focus walk_at "tr"))
  | ((with_reducible apply y_kAnd); (focus walk_at "tr"))
  | ((with_reducible apply n_kAnd); (focus walk_at "tr"))
  | ((with_reducible apply y_kNot); (focus walk_at "tr"))
  | ((with_reducible apply n_kNot); (focus walk_at "tr"))
  | ((with_reducible apply y_kIf); (focus walk_at "tr"))
  | ((with_reducible apply n_kIf); (focus walk_at "tr"))
  | ((with_reducible apply y_kAndV); (focus walk_at "tr"))
  | ((with_reducible apply n_kAndV); (focus walk_at "tr"))
  | ((with_reducible apply y_kOrV); (focus walk_at "tr"))
  | ((with_reducible apply n_kOrV); (focus walk_at "tr"))
  | ((with_reducible apply y_kChain); (focus walk_at "tr"))
  | ((with_reducible apply n_kChain); (focus walk_at "tr"))
  | ((with_reducible apply y_kLcT); (focus walk_at "tr"))
  | ((with_reducible apply n_kLcT); (focus walk_at "tr"))
  | ((with_reducible apply y_kWh); (focus walk_at "tr"))
  | ((with_reducible apply n_kWh); (focus walk_at "tr")))
local macro_rules | `(tactic| walk_at "go") => `(tactic| repeat (first | walk_at "g1" | walk_at "yn"))
local macro_rules | `(tactic| walk_at "hp") => `(tactic| first
  | ((with_reducible apply RingIn.ex); (focus walk_at "as"); walk_at "hp")
  | ((with_reducible apply RingAt.ex); (focus walk_at "as"); walk_at "hp")
  | ((with_reducible apply RingIn.exb); (focus walk_at "as"); (focus walk_at "hp"); walk_at "hp")
  | ((with_reducible apply RingAt.exb); (focus walk_at "as"); (focus walk_at "hp"); walk_at "hp")
  | ((with_reducible apply TupK.ex); (focus walk_at "as"); walk_at "hp")
  | ((with_reducible apply TupK.exb); (focus walk_at "as"); (focus walk_at "hp"); walk_at "hp"))
local macro_rules | `(tactic| walk_at "lk") => `(tactic| first | with_reducible exact rf_spans | with_reducible exact rf_heaps | with_reducible exact rf_total | with_reducible exact rf_nr | with_reducible exact rf_wd)
local macro_rules | `(tactic| walk_at "sp") => `(tactic| first
  | ((with_reducible apply g_isiTup); (focus walk_at "hp"))
  | ((with_reducible apply g_isiLst); (focus walk_at "hp"))
  | ((with_reducible apply g_isint); (focus omega); (focus omega))
  | ((with_reducible apply g_checkn); (focus omega); (focus omega))
  | ((with_reducible apply g_rbooks); (focus walk_at "hp"))
  | ((with_reducible apply g_rpace); (focus walk_at "hp"); intro _ _ _ _)
  | ((with_reducible apply g_rlen); (focus walk_at "hp"))
  | ((with_reducible apply g_rneed); (focus walk_at "hp"); (focus omega))
  | ((with_reducible apply g_rneedM); (focus walk_at "hp"))
  | ((with_reducible apply g_rwithM); (focus walk_at "hp"))
  | ((with_reducible apply g_rspans); (focus walk_at "hp"); (focus with_reducible assumption))
  | ((with_reducible apply g_rheaps); (focus walk_at "hp"); (focus with_reducible assumption))
  | ((with_reducible apply g_rtotal); (focus walk_at "hp"); (focus with_reducible assumption)))

local macro_rules | `(tactic| walk_at "sp") => `(tactic| first
  | ((with_reducible apply g_taken); (focus walk_at "hp"); (focus first | decide | omega); (focus first | decide | omega); intro _ _ _ _ _ _))
local macro_rules | `(tactic| walk_at "hp") => `(tactic| first
  | ((with_reducible apply DiceAt.ex); (focus walk_at "as"); walk_at "hp")
  | ((with_reducible apply exb_tD); (focus walk_at "as"); (focus walk_at "hp"); walk_at "hp")
  | ((with_reducible apply exb_insD); (focus walk_at "as"); (focus walk_at "hp"); walk_at "hp")
  | ((with_reducible apply RingIn.exD); (focus walk_at "as"); (focus walk_at "hp"); walk_at "hp")
  | ((with_reducible apply TupK.exD); (focus walk_at "as"); (focus walk_at "hp"); walk_at "hp"))

section
variable {P : Program} {w : World} {K : PySem.W.Frag} {mg : Str → Option Value} {base : Heap} {C SC : Addr}
theorem scAt_dayN {ds hs : List Int} : ∀ t : Nat, (scAt ds hs t).day = (t : Int)
  | 0 => rfl
  | t + 1 => by
    show (scAt ds hs t).day + 1 = _
    rw [scAt_dayN t]
    omega
theorem evt_day {ds hs : List Int} : ∀ (t : Nat) (e : Int × Int × Int), e ∈ evt ds hs t → 0 ≤ e.2.1 ∧ 0 ≤ e.1 ∧ e.1 ≤ t
  | 0, e, h => by cases h
  | t + 1, e, h => by
    rcases List.mem_append.mp h with h | h
    · obtain ⟨a, b, c⟩ := evt_day t e h
      exact ⟨a, b, by omega⟩
    · unfold Sc.ended at h
      obtain ⟨k, _, rfl⟩ := List.mem_map.mp h
      have := scAt_dayN (ds := ds) (hs := hs) t
      exact ⟨by dsimp only; omega, by dsimp only; omega, by dsimp only; omega⟩
theorem Ent.exn {H H' : Hp} {zs : List V} {es : List (Int × Int × Int)} (x : ExtN H H') (h : Ent K H zs es) : Ent K H' zs es := ⟨h.1, fun m e he => let ⟨p, h1, h2⟩ := h.2 m e he; ⟨p, h1, exn_t x h2⟩⟩
theorem list_choice {α : Type} {R : Nat → α → Prop} : ∀ {n : Nat}, (∀ i, i < n → ∃ y, R i y) → ∃ l : List α, l.length = n ∧ ∀ i y, l[i]? = some y → R i y
  | 0, _ => ⟨[], rfl, fun i y h => by cases h⟩
  | n + 1, h => by
    obtain ⟨l, h1, h2⟩ := list_choice (n := n) fun i hi => h i (by omega)
    obtain ⟨y, hy⟩ := h n (by omega)
    refine ⟨l ++ [y], by rw [List.length_append, h1]; rfl, fun i z hz => ?_⟩
    rcases Nat.lt_or_ge i n with hi | hi
    · rw [List.getElem?_append_left (by omega)] at hz
      exact h2 i z hz
    · rw [List.getElem?_append_right (by omega), h1] at hz
      obtain rfl : i = n := by
        have := (List.getElem?_eq_some_iff.mp hz).1
        simp at this
        omega
      rw [Nat.sub_self] at hz
      cases hz
      exact hy
theorem torn_fit {e : Int × Int × Int} {ws : List V} (h : TornW e ws) : fitB e (some ws) = true ∧ ∀ v ∈ ws, ∀ H', Pl K H' v := by
  obtain ⟨hl, h⟩ := h
  obtain ⟨u, v, w, rfl⟩ : ∃ u v w, ws = [u, v, w] := by
    rcases ws with _ | ⟨u, _ | ⟨v, _ | ⟨w, _ | ⟨z, ws⟩⟩⟩⟩
    · cases hl
    · cases hl
    · cases hl
    · exact ⟨u, v, w, rfl⟩
    · simp at hl
  have al : ∀ (n : Int) (v : V), v = .non ∨ v = .int n → alkB n v = true ∧ ∀ H', Pl K H' v := fun n v h => by
    rcases h with rfl | rfl
    · exact ⟨rfl, fun _ => .non⟩
    · refine ⟨?_, fun _ => .int _⟩
      show (decide (n ≤ n) && decide (n ≤ n)) = true
      simp
  obtain ⟨a1, a2⟩ := al e.1 u (h 0 u e.1 rfl rfl)
  obtain ⟨b1, b2⟩ := al e.2.1 v (h 1 v e.2.1 rfl rfl)
  obtain ⟨c1, c2⟩ := al e.2.2 w (h 2 w e.2.2 rfl rfl)
  refine ⟨?_, fun x hx => ?_⟩
  · show (alkB e.1 u && (alkB e.2.1 v && alkB e.2.2 w)) = true
    rw [a1, b1, c1]
    rfl
  · simp only [List.mem_cons, List.not_mem_nil, or_false] at hx
    rcases hx with rfl | rfl | rfl
    · exact a2
    · exact b2
    · exact c2
theorem cut_take {xs : List V} {k : Nat} : cutV xs none (some (k : Int)) = xs.take k := by
  unfold cutV
  rw [HT.sIx_none, HT.sIx_nat, List.drop_zero, Nat.sub_zero]
  by_cases z : k ≤ xs.length
  · rw [Nat.min_eq_left z]
  · rw [Nat.min_eq_right (by omega), List.take_length, List.take_of_length_le (by omega)]
theorem g_neNon {H : Hp} {Q : VK} (q : Q (.bl false) H) : rNeD K .non .non H Q := g_neD .non .non (by decide +kernel) (by decide +kernel) q
theorem g_neSI {H : Hp} {Q : VK} {a b : Addr} {x : Str} {i : Int} (hx : PyData.strOk x = true) (h1 : SqT K H a [.str x, .int i]) (h2 : SqT K H b [.str x, .int i]) (q : Q (.bl false) H) : rNeD K (.ref a) (.ref b) H Q := by
  have hs : SeqAt.shaped (.tuple [.str x, .int i]) = true := by
    show (PyData.canLay0 (.tuple [.str x, .int i]) && decide (PyData.depth (.tuple [.str x, .int i]) ≤ 64)) = true
    rw [Bool.and_eq_true]
    exact ⟨by simp [PyData.canLay0, PyData.canLayAll0, hx], decide_eq_true (by simp [PyData.depth, PyData.depthAll])⟩
  exact g_neD (.tup h1 (.cons (.str _) (.cons (.int _) .nil))) (.tup h2 (.cons (.str _) (.cons (.int _) .nil))) hs hs (by rw [SeqAt.eqv_refl _ (SeqAt.canLay_of_shaped hs)]; exact q)
theorem EntS.exn {H H' : Hp} {x : V} (e : ExtN H H') : ∀ {o : Option (List V)}, EntS K H x o → EntS K H' x o
  | some _, ⟨p, h1, h2, h3⟩ => ⟨p, h1, exn_t e h2, h3⟩
  | none, h => h.imp (fun ⟨a, xs, h1, h2⟩ => ⟨a, xs, h1, exn_l e h2⟩) id
def itE (e : Int × Int × Int) : Option (List V) := some [.int e.1, .int e.2.1, .int e.2.2]
theorem fit_self (e : Int × Int × Int) : fitB e (itE e) = true := by
  have al : ∀ n : Int, alkB n (.int n) = true := fun n => by
    show (decide (n ≤ n) && decide (n ≤ n)) = true
    simp
  show (alkB e.1 (.int e.1) && (alkB e.2.1 (.int e.2.1) && alkB e.2.2 (.int e.2.2))) = true
  rw [al, al, al]
  rfl
theorem dia_changed {H : Hp} {zs : List V} {es : List (Int × Int × Int)} {k : Nat} {x : V} {o : Option (List V)} (hz : Ent K H zs es) (hk : k < es.length) (hx : EntS K H x o) :
    DiaV K H (zs.take k ++ [x] ++ zs.drop (k + 1)) ((es.map itE).set k o) ∧ ∀ (j : Nat) (e : Int × Int × Int), es[j]? = some e → fitI es ((es.map itE).set k o) j = if j = k then fitB e o else true := by
  rw [List.append_assoc, show zs.take k ++ ([x] ++ zs.drop (k + 1)) = zs.set k x by rw [List.set_eq_take_append_cons_drop, if_pos (by rw [hz.1]; exact hk)]; rfl]
  refine ⟨⟨by rw [List.length_set, List.length_set, List.length_map, hz.1], fun i y hy => ?_⟩, fun j e he => ?_⟩
  · rw [List.getElem?_set] at hy
    by_cases z : k = i
    · subst z
      rw [if_pos rfl, if_pos (by rw [hz.1]; exact hk)] at hy
      cases hy
      exact ⟨o, by rw [List.getElem?_set, if_pos rfl, if_pos (by rw [List.length_map]; exact hk)], hx⟩
    · rw [if_neg z] at hy
      have hi := (List.getElem?_eq_some_iff.mp hy).1
      rw [hz.1] at hi
      obtain ⟨p, h1, h2⟩ := hz.2 i _ (List.getElem?_eq_getElem hi)
      rw [hy] at h1
      cases h1
      refine ⟨itE es[i], by rw [List.getElem?_set, if_neg z, List.getElem?_map, List.getElem?_eq_getElem hi]; rfl, p, rfl, h2, (show 3 ≤ 50 by decide), fun v hv H' => ?_⟩
      simp only [List.mem_cons, List.not_mem_nil, or_false] at hv
      rcases hv with rfl | rfl | rfl <;> exact .int _
  · by_cases z : j = k
    · subst z
      rw [fitI_at he (by rw [List.getElem?_set, if_pos rfl, if_pos (by rw [List.length_map]; exact hk)]), if_pos rfl]
    · rw [fitI_at he (by rw [List.getElem?_set, if_neg (fun y => z y.symm), List.getElem?_map, he]; rfl), if_neg z]
      exact fit_self e
theorem dia_void {H : Hp} {tp : Addr} {es : List (Int × Int × Int)} (m : Nat) (h : SqT K H tp [.non, .non, .non]) : DiaV K H (List.replicate m (.ref tp)) (List.replicate m (some [.non, .non, .non])) ∧ ∀ j, j < es.length → fitI es (List.replicate m (some [.non, .non, .non])) j = true := by
  refine ⟨⟨by rw [List.length_replicate, List.length_replicate], fun i x hx => ?_⟩, fun j hj => ?_⟩
  · obtain ⟨hi, rfl⟩ := List.getElem?_eq_some_iff.mp hx
    rw [List.length_replicate] at hi
    refine ⟨some [.non, .non, .non], by rw [List.getElem?_replicate, if_pos hi], tp, by rw [List.getElem_replicate], h, (show 3 ≤ 50 by decide), fun v hv H' => ?_⟩
    simp only [List.mem_cons, List.not_mem_nil, or_false, or_self] at hv
    rw [hv]
    exact .non
  · unfold fitI
    rw [List.getElem?_eq_getElem hj, List.getElem?_replicate]
    split
    · rename_i e o h1 h2
      split at h2
      · cases h2
        rfl
      · cases h2
    · rfl
theorem g_neW1 {H : Hp} {Q : VK} {a b : Addr} {x : Str} (hx : PyData.strOk x = true) (h1 : SqT K H a [.str x]) (h2 : SqT K H b [.str x]) (q : Q (.bl false) H) : rNeD K (.ref a) (.ref b) H Q := by
  have hs : SeqAt.shaped (.tuple [.str x]) = true := by
    show (PyData.canLay0 (.tuple [.str x]) && decide (PyData.depth (.tuple [.str x]) ≤ 64)) = true
    rw [Bool.and_eq_true]
    exact ⟨by simp [PyData.canLay0, PyData.canLayAll0, hx], decide_eq_true (by simp [PyData.depth, PyData.depthAll])⟩
  exact g_neD (.tup h1 (.cons (.str _) .nil)) (.tup h2 (.cons (.str _) .nil)) hs hs (by rw [SeqAt.eqv_refl _ (SeqAt.canLay_of_shaped hs)]; exact q)
end
end G48

namespace G48
open PySem PySem.Spec PyProof.Rows L2 Evl
abbrev N_LiveRing___init__ : List Str := ["self", "ring"]
theorem sc_LiveRing___init__ : FnScope N_LiveRing___init__ ["self", "ring"] (defScope s_LiveRing___init__) := ⟨rfl, rfl, rfl, by decide +kernel, rfl, by decide +kernel, by decide +kernel⟩
theorem b_LiveRing___init__ : BindL "LiveRing.__init__" "__init__" s_LiveRing___init__ ["self", "ring"] := fun _ _ _ _ _ _ us hl => match us, hl with | [_, _], _ => rfl
abbrev N_LiveRing_enter : List Str := ["self", "operation", "after"]
theorem sc_LiveRing_enter : FnScope N_LiveRing_enter ["self", "operation", "after"] (defScope s_LiveRing_enter) := ⟨rfl, rfl, rfl, by decide +kernel, rfl, by decide +kernel, by decide +kernel⟩
theorem b_LiveRing_enter : BindL "LiveRing.enter" "enter" s_LiveRing_enter ["self", "operation", "after"] := fun _ _ _ _ _ _ us hl => match us, hl with | [_, _, _], _ => rfl
abbrev N_LiveRing_pass_days : List Str := ["self", "count", "scene", "found", "turn", "ended"]
theorem sc_LiveRing_pass_days : FnScope N_LiveRing_pass_days ["self", "count"] (defScope s_LiveRing_pass_days) := ⟨rfl, rfl, rfl, by decide +kernel, rfl, by decide +kernel, by decide +kernel⟩
theorem b_LiveRing_pass_days : BindL "LiveRing.pass_days" "pass_days" s_LiveRing_pass_days ["self", "count"] := fun _ _ _ _ _ _ us hl => match us, hl with | [_, _], _ => rfl
end G48
--lib Z
/-! live rings: made, operations recorded, days pass -/
namespace G48
open PySem PySem.Spec PyProof.Rows L2 Evl
/-! the steps -/
local macro_rules | `(tactic| walk_at "as") => `(tactic| with_reducible assumption)
local macro_rules | `(tactic| walk_at "hp") => `(tactic| first
  | with_reducible assumption
  | ((with_reducible apply SqT.of); walk_at "as")
  | ((with_reducible apply SqL.of); walk_at "as")
  | ((with_reducible apply ex_at); (focus walk_at "as"); walk_at "hp")
  | ((with_reducible apply ex_t); (focus walk_at "as"); walk_at "hp")
  | ((with_reducible apply ex_l); (focus walk_at "as"); walk_at "hp")
  | ((with_reducible apply exb_ins); (focus walk_at "as"); (focus walk_at "hp"); walk_at "hp")
  | ((with_reducible apply exb_t); (focus walk_at "as"); (focus walk_at "hp"); walk_at "hp")
  | ((with_reducible apply exb_at); (focus walk_at "as"); (focus walk_at "ne"); walk_at "hp")
  | ((with_reducible apply exb_l); (focus walk_at "as"); (focus walk_at "ne"); walk_at "hp"))
local macro_rules | `(tactic| walk_at "ne") => `(tactic| first
  | with_reducible assumption
  | exact Ne.symm (by with_reducible assumption)
  | exact ne_of_none (by with_reducible assumption) (by with_reducible assumption)
  | exact Ne.symm (ne_of_none (by with_reducible assumption) (by with_reducible assumption)))
local macro_rules | `(tactic| walk_at "tr") => `(tactic| first
  | rfl
  | with_reducible assumption
  | exact decide_eq_true (by first | with_reducible assumption | omega)
  | exact decide_eq_false (by first | with_reducible assumption | omega)
  | (rw [Bool.not_eq_true']; exact decide_eq_false (by first | with_reducible assumption | omega))
  | (rw [Bool.not_eq_false']; exact decide_eq_true (by first | with_reducible assumption | omega)))
local macro_rules | `(tactic| walk_at "nn") => `(tactic| first | with_reducible assumption | (exact List.cons_ne_nil _ _))
local macro_rules | `(tactic| walk_at "sz") => `(tactic| first | (exact sz1000 (Nat.le_of_ble_eq_true rfl)) | (refine sz1000 ?_; simp only [List.length_map, List.length_cons, List.length_nil, List.length_append]; omega) | with_reducible assumption)
local macro_rules | `(tactic| walk_at "sl") => `(tactic| first | with_reducible assumption | (refine lt1000 ?_; simp only [List.length_map, List.length_cons, List.length_nil, List.length_append]; omega) | (refine lt1000 ?_; omega))
local macro_rules | `(tactic| walk_at "ix") => `(tactic| first | rfl | with_reducible assumption)
local macro_rules | `(tactic| walk_at "rg") => `(tactic| exact RgOk.of_le (by omega) (by omega) (by omega) (by omega))
local macro_rules | `(tactic| walk_at "sp") => `(tactic| fail "sp")
local macro_rules | `(tactic| walk_at "cl") => `(tactic| with_reducible assumption)
local macro_rules | `(tactic| walk_at "lk") => `(tactic| with_reducible assumption)
local macro_rules | `(tactic| walk_at "it") => `(tactic| first | rfl | with_reducible assumption | exact atI_nat (by with_reducible assumption))
local macro_rules | `(tactic| walk_at "g1") => `(tactic| first
  | (with_reducible apply g_var); (focus rfl)
  | with_reducible apply g_c
  | with_reducible apply g_seq
  | with_reducible apply g_asg
  | with_reducible apply gg_name
  | with_reducible apply g_op
  | with_reducible apply g_cons
  | with_reducible apply g_nil
  | with_reducible apply g_cb
  | with_reducible apply g_fld
  | ((with_reducible apply g_kFld); (focus walk_at "hp"); (focus walk_at "cl"); (focus walk_at "cl"); (focus walk_at "lk"))
  | with_reducible apply g_call
  | walk_at "sp"
  | with_reducible apply g_ret
  | with_reducible apply g_drop
  | with_reducible apply g_test
  | with_reducible apply g_B
  | with_reducible apply g_kTest
  | with_reducible apply g_ifS
  | with_reducible apply g_kIfST
  | with_reducible apply g_kIfSF
  | with_reducible apply g_add
  | with_reducible apply g_sub
  | with_reducible apply g_lt
  | with_reducible apply g_le
  | with_reducible apply g_gt
  | with_reducible apply g_ge
  | with_reducible apply g_eqI
  | with_reducible apply g_neI
  | ((with_reducible apply g_mod); (focus first | decide | omega))
  | ((with_reducible apply g_mul); (focus first | (left; constructor <;> omega) | (right; constructor <;> omega)))
  | ((with_reducible apply g_fdiv); (focus (constructor <;> omega)))
  | ((with_reducible apply g_ixT); (focus walk_at "hp"); (focus walk_at "it"))
  | ((with_reducible apply g_ixL); (focus walk_at "hp"); (focus walk_at "it"))
  | with_reducible apply g_and
  | with_reducible apply g_or
  | with_reducible apply g_not
  | with_reducible apply g_kNotT
  | with_reducible apply g_kNotF
  | with_reducible apply g_if
  | with_reducible apply g_kAndT
  | with_reducible apply g_kAndF
  | with_reducible apply g_kOrT
  | with_reducible apply g_kOrF
  | with_reducible apply g_kIfT
  | with_reducible apply g_kIfF
  | with_reducible apply g_next
  | with_reducible apply g_andV
  | with_reducible apply g_orV
  | with_reducible apply g_notV
  | with_reducible apply g_kNotV
  | with_reducible apply g_kAndVT
  | with_reducible apply g_kAndVF
  | with_reducible apply g_chain
  | with_reducible apply g_kChainT
  | with_reducible apply g_kChainF
  | with_reducible apply g_tup
  | with_reducible apply g_lst
  | ((with_reducible apply g_kT); (focus walk_at "sz"); intro _ _ _ _ _)
  | ((with_reducible apply g_kL); (focus walk_at "sz"); intro _ _ _ _ _)
  | with_reducible apply g_un
  | with_reducible apply g_neg
  | with_reducible apply g_meth
  | ((with_reducible apply g_kMeth); (focus walk_at "hp"); (focus walk_at "lk"))
  | with_reducible apply g_prop
  | ((with_reducible apply g_kProp); (focus walk_at "hp"))
  | with_reducible apply g_make
  | with_reducible apply g_par
  | with_reducible apply g_kPar
  | ((with_reducible apply g_lenLM); (focus walk_at "hp"))
  | ((with_reducible apply g_lenTM); (focus walk_at "hp"))
  | ((with_reducible apply g_lenL); (focus walk_at "hp"))
  | ((with_reducible apply g_lenT); (focus walk_at "hp"))
  | with_reducible apply g_int1
  | with_reducible apply g_max2
  | with_reducible apply g_min2
  | ((with_reducible apply g_listL); (focus walk_at "hp"); intro _ _ _ _ _)
  | ((with_reducible apply g_listT); (focus walk_at "hp"); intro _ _ _ _ _)
  | ((with_reducible apply g_tupL); (focus walk_at "hp"); intro _ _ _ _ _)
  | ((with_reducible apply g_sum); (focus walk_at "hp"))
  | with_reducible apply g_sfld
  | with_reducible apply g_sl
  | with_reducible apply g_nopart
  | with_reducible apply g_part
  | with_reducible apply g_kPart
  | with_reducible apply g_lstRg
  | with_reducible apply g_rg1
  | with_reducible apply g_kRg1
  | with_reducible apply g_bm
  | with_reducible apply gg_sub
  | ((with_reducible apply gg_tup); (focus walk_at "hp"); (focus rfl))
  | with_reducible apply gg_cons
  | with_reducible apply gg_nil
  | with_reducible apply g_forL
  | with_reducible apply g_forT
  | with_reducible apply g_forR1
  | with_reducible apply g_forR2
  | with_reducible apply g_forE
  | with_reducible apply g_forEL
  | ((with_reducible apply g_maxT); (focus walk_at "hp"); (focus walk_at "nn"))
  | ((with_reducible apply g_maxL); (focus walk_at "hp"); (focus walk_at "nn"))
  | ((with_reducible apply g_catA); (focus walk_at "hp"); (focus walk_at "hp"); (focus walk_at "sz"); intro _ _ _ _)
  | ((with_reducible apply g_slA); (focus walk_at "hp"); intro _ _ _ _)
  | ((with_reducible apply g_tupD); (focus walk_at "hp"); intro _ _ _ _ _)
  | ((with_reducible apply g_setL); (focus walk_at "hp"); (focus walk_at "ix"); intro _ _ _)
  | ((with_reducible apply g_append); (focus walk_at "hp"); (focus walk_at "sl"); intro _ _ _)
  | ((with_reducible apply g_aug); (focus rfl))
  | with_reducible apply g_ipI
  | with_reducible apply g_retN
  | with_reducible apply g_lcR1
  | with_reducible apply g_lcR2
  | with_reducible apply g_lcL
  | with_reducible apply g_lcU
  | with_reducible apply g_lcN
  | ((with_reducible apply g_kLcG); (focus rfl))
  | with_reducible apply g_yes
  | with_reducible apply g_kLcTT
  | with_reducible apply g_kLcTF
  | ((with_reducible apply g_kLcE); (focus walk_at "hp"); (focus walk_at "sl"); intro _ _ _)
  | ((with_reducible apply g_pow); (focus (constructor <;> (try constructor) <;> decide)))
  | ((with_reducible apply g_kLRg); (focus walk_at "rg"); intro _ _ _ _ _)
  | ((with_reducible apply g_cat); (focus walk_at "hp"); (focus walk_at "hp"); (focus walk_at "sz"); intro _ _ _ _ _)
  | ((with_reducible apply g_slL); (focus walk_at "hp"); intro _ _ _ _ _)
  | with_reducible apply g_bmT
  | with_reducible apply g_break
  | with_reducible apply g_cont)
local macro_rules | `(tactic| walk_at "g0") => `(tactic| try dsimp only [L2.cxOf, L2.Cx.nox, L2.Cx.wish])
local macro_rules | `(tactic| walk_at "yn") => `(tactic| first
  | ((with_reducible apply y_kIfS); (focus walk_at "tr"))
  | ((with_reducible apply n_kIfS); (focus walk_at "tr"))
  | ((with_reducible apply y_kOr); (focus walk_at "tr"))
  | ((with_reducible apply n_kOr); (focus walk_at "tr"))
  | ((with_reducible apply y_kAnd); (focus walk_at "tr"))
  | ((with_reducible apply n_kAnd); (focus walk_at "tr"))
  | ((with_reducible apply y_kNot); (focus walk_at "tr"))
  | ((with_reducible apply n_kNot); (focus walk_at "tr"))
  | ((with_reducible apply y_kIf); (focus walk_at "tr"))
  | ((with_reducible apply n_kIf); (focus walk_at "tr"))
  | ((with_reducible apply y_kAndV); (focus walk_at "tr"))
  | ((with_reducible apply n_kAndV); (focus walk_at "tr"))
  | ((with_reducible apply y_kOrV); (focus walk_at "tr"))
  | ((with_reducible apply n_kOrV); (focus walk_at "tr"))
  | ((with_reducible apply y_kChain); (focus walk_at "tr"))
  | ((with_reducible apply n_kChain); (focus walk_at "tr"))
  | ((with_reducible apply y_kLcT); (focus walk_at "tr"))
  | ((with_reducible apply n_kLcT); (focus walk_at "tr"))
  | ((with_reducible apply y_kWh); (focus walk_at "tr"))
  | ((with_reducible apply n_kWh); (focus walk_at "tr")))
local macro_rules | `(tactic| walk_at "go") => `(tactic| repeat (first | walk_at "g1" | walk_at "yn"))
local macro_rules | `(tactic| walk_at "hp") => `(tactic| first
  | ((with_reducible apply RingIn.ex); (focus walk_at "as"); walk_at "hp")
  | ((with_reducible apply RingAt.ex); (focus walk_at "as"); walk_at "hp")
  | ((with_reducible apply RingIn.exb); (focus walk_at "as"); (focus walk_at "hp"); walk_at "hp")
  | ((with_reducible apply RingAt.exb); (focus walk_at "as"); (focus walk_at "hp"); walk_at "hp")
  | ((with_reducible apply TupK.ex); (focus walk_at "as"); walk_at "hp")
  | ((with_reducible apply TupK.exb); (focus walk_at "as"); (focus walk_at "hp"); walk_at "hp"))
local macro_rules | `(tactic| walk_at "lk") => `(tactic| first | with_reducible exact rf_spans | with_reducible exact rf_heaps | with_reducible exact rf_total | with_reducible exact rf_nr | with_reducible exact rf_wd)
local macro_rules | `(tactic| walk_at "sp") => `(tactic| first
  | ((with_reducible apply g_isiTup); (focus walk_at "hp"))
  | ((with_reducible apply g_isiLst); (focus walk_at "hp"))
  | ((with_reducible apply g_isint); (focus omega); (focus omega))
  | ((with_reducible apply g_checkn); (focus omega); (focus omega))
  | ((with_reducible apply g_rbooks); (focus walk_at "hp"))
  | ((with_reducible apply g_rpace); (focus walk_at "hp"); intro _ _ _ _)
  | ((with_reducible apply g_rlen); (focus walk_at "hp"))
  | ((with_reducible apply g_rneed); (focus walk_at "hp"); (focus omega))
  | ((with_reducible apply g_rneedM); (focus walk_at "hp"))
  | ((with_reducible apply g_rwithM); (focus walk_at "hp"))
  | ((with_reducible apply g_rspans); (focus walk_at "hp"); (focus with_reducible assumption))
  | ((with_reducible apply g_rheaps); (focus walk_at "hp"); (focus with_reducible assumption))
  | ((with_reducible apply g_rtotal); (focus walk_at "hp"); (focus with_reducible assumption)))

theorem sl_listK {X : Cx} (K : PySem.W.Frag) (h : X.K = K := by rfl) : SlR X (rSlL K) := by subst h; exact sl_list
inductive Op
  | pass (n : Nat)
  | add (k : Nat)
  | set (k : Nat) (d : Int)
  | take (b : Int)
def opV : Op → List V
  | .pass n => [.str "pass_days", .int (n : Nat)]
  | .add k => [.str "add", .int (k : Nat)]
  | .set k d => [.str "set_days", .int (k : Nat), .int d]
  | .take b => [.str "take", .int b]
structure LiveC (K : PySem.W.Frag) (LC : Addr) : Prop where
  cl : Cls K LC
  n1 : NoAttr K LC "ring_at_first"
  n2 : NoAttr K LC "scene"
  n3 : NoAttr K LC "done"
  n4 : NoAttr K LC "undone"
  n5 : NoAttr K LC "is_open"
  n6 : NoAttr K LC "kept_scene"
  n7 : NoAttr K LC "kept_done"
  n8 : NoAttr K LC "kept_undone"
/-- a live ring's fields -/
structure LF (r sc dn un : Addr) (op : Bool) (ks kd ku : Addr) (fs : List (Str × V)) : Prop where
  a1 : fs.lookup ("ring_at_first" : Str) = some (.ref r)
  a2 : fs.lookup ("scene" : Str) = some (.ref sc)
  a3 : fs.lookup ("done" : Str) = some (.ref dn)
  a4 : fs.lookup ("undone" : Str) = some (.ref un)
  a5 : fs.lookup ("is_open" : Str) = some (.bl op)
  a6 : fs.lookup ("kept_scene" : Str) = some (.ref ks)
  a7 : fs.lookup ("kept_done" : Str) = some (.ref kd)
  a8 : fs.lookup ("kept_undone" : Str) = some (.ref ku)
  no : ∀ f : Str, f ≠ "ring_at_first" → f ≠ "scene" → f ≠ "done" → f ≠ "undone" → f ≠ "is_open" → f ≠ "kept_scene" → f ≠ "kept_done" → f ≠ "kept_undone" → fs.lookup f = none
  len : fs.length ≤ 8
theorem putF_lenS {f : Str} {v u : V} : ∀ {fs : List (Str × V)}, fs.lookup f = some u → (putF f v fs).length = fs.length
  | [], h => by cases h
  | (g, x) :: fs, h => by
    show (if g = f then (g, v) :: fs else (g, x) :: putF f v fs).length = _
    by_cases z : g = f
    · rw [if_pos z]
      rfl
    · rw [if_neg z]
      have : (f == g) = false := by simpa using fun e => z e.symm
      rw [List.lookup_cons, this] at h
      show (putF f v fs).length + 1 = fs.length + 1
      rw [putF_lenS h]
local macro_rules | `(tactic| walk_at "lf") => `(tactic| (repeat (first | rw [lookup_putF, if_pos rfl] | rw [lookup_putF, if_neg (by decide +kernel)])))
theorem LF.make {r sc dn un ks kd ku : Addr} {op : Bool} : LF r sc dn un op ks kd ku (putF "kept_undone" (.ref ku) (putF "kept_done" (.ref kd) (putF "kept_scene" (.ref ks) (putF "is_open" (.bl op) (putF "undone" (.ref un) (putF "done" (.ref dn) (putF "scene" (.ref sc) (putF "ring_at_first" (.ref r) [])))))))) := by
  refine ⟨?_, ?_, ?_, ?_, ?_, ?_, ?_, ?_, fun f n1 n2 n3 n4 n5 n6 n7 n8 => ?_, ?_⟩
  case refine_9 =>
    rw [lookup_putF, if_neg n8, lookup_putF, if_neg n7, lookup_putF, if_neg n6, lookup_putF, if_neg n5, lookup_putF, if_neg n4, lookup_putF, if_neg n3, lookup_putF, if_neg n2, lookup_putF, if_neg n1]
    rfl
  case refine_10 => exact flenp (flenp (flenp (flenp (flenp (flenp (flenp (flenp flen0)))))))
  all_goals walk_at "lf"
section
variable {r sc dn un ks kd ku x : Addr} {op : Bool} {fs : List (Str × V)} (h : LF r sc dn un op ks kd ku fs)
include h
theorem LF.scene : LF r x dn un op ks kd ku (putF "scene" (.ref x) fs) := by
  obtain ⟨a1, a2, a3, a4, a5, a6, a7, a8, no, len⟩ := h
  refine ⟨?_, ?_, ?_, ?_, ?_, ?_, ?_, ?_, fun f n1 n2 n3 n4 n5 n6 n7 n8 => ?_, by rw [putF_lenS a2]; exact len⟩
  case refine_9 => rw [lookup_putF, if_neg n2]; exact no f n1 n2 n3 n4 n5 n6 n7 n8
  all_goals walk_at "lf"
  all_goals assumption
theorem LF.done : LF r sc x un op ks kd ku (putF "done" (.ref x) fs) := by
  obtain ⟨a1, a2, a3, a4, a5, a6, a7, a8, no, len⟩ := h
  refine ⟨?_, ?_, ?_, ?_, ?_, ?_, ?_, ?_, fun f n1 n2 n3 n4 n5 n6 n7 n8 => ?_, by rw [putF_lenS a3]; exact len⟩
  case refine_9 => rw [lookup_putF, if_neg n3]; exact no f n1 n2 n3 n4 n5 n6 n7 n8
  all_goals walk_at "lf"
  all_goals assumption
theorem LF.undone : LF r sc dn x op ks kd ku (putF "undone" (.ref x) fs) := by
  obtain ⟨a1, a2, a3, a4, a5, a6, a7, a8, no, len⟩ := h
  refine ⟨?_, ?_, ?_, ?_, ?_, ?_, ?_, ?_, fun f n1 n2 n3 n4 n5 n6 n7 n8 => ?_, by rw [putF_lenS a4]; exact len⟩
  case refine_9 => rw [lookup_putF, if_neg n4]; exact no f n1 n2 n3 n4 n5 n6 n7 n8
  all_goals walk_at "lf"
  all_goals assumption
theorem LF.open_ {b : Bool} : LF r sc dn un b ks kd ku (putF "is_open" (.bl b) fs) := by
  obtain ⟨a1, a2, a3, a4, a5, a6, a7, a8, no, len⟩ := h
  refine ⟨?_, ?_, ?_, ?_, ?_, ?_, ?_, ?_, fun f n1 n2 n3 n4 n5 n6 n7 n8 => ?_, by rw [putF_lenS a5]; exact len⟩
  case refine_9 => rw [lookup_putF, if_neg n5]; exact no f n1 n2 n3 n4 n5 n6 n7 n8
  all_goals walk_at "lf"
  all_goals assumption
theorem LF.kscene : LF r sc dn un op x kd ku (putF "kept_scene" (.ref x) fs) := by
  obtain ⟨a1, a2, a3, a4, a5, a6, a7, a8, no, len⟩ := h
  refine ⟨?_, ?_, ?_, ?_, ?_, ?_, ?_, ?_, fun f n1 n2 n3 n4 n5 n6 n7 n8 => ?_, by rw [putF_lenS a6]; exact len⟩
  case refine_9 => rw [lookup_putF, if_neg n6]; exact no f n1 n2 n3 n4 n5 n6 n7 n8
  all_goals walk_at "lf"
  all_goals assumption
theorem LF.kdone : LF r sc dn un op ks x ku (putF "kept_done" (.ref x) fs) := by
  obtain ⟨a1, a2, a3, a4, a5, a6, a7, a8, no, len⟩ := h
  refine ⟨?_, ?_, ?_, ?_, ?_, ?_, ?_, ?_, fun f n1 n2 n3 n4 n5 n6 n7 n8 => ?_, by rw [putF_lenS a7]; exact len⟩
  case refine_9 => rw [lookup_putF, if_neg n7]; exact no f n1 n2 n3 n4 n5 n6 n7 n8
  all_goals walk_at "lf"
  all_goals assumption
theorem LF.kundone : LF r sc dn un op ks kd x (putF "kept_undone" (.ref x) fs) := by
  obtain ⟨a1, a2, a3, a4, a5, a6, a7, a8, no, len⟩ := h
  refine ⟨?_, ?_, ?_, ?_, ?_, ?_, ?_, ?_, fun f n1 n2 n3 n4 n5 n6 n7 n8 => ?_, by rw [putF_lenS a8]; exact len⟩
  case refine_9 => rw [lookup_putF, if_neg n8]; exact no f n1 n2 n3 n4 n5 n6 n7 n8
  all_goals walk_at "lf"
  all_goals assumption
end
def lfOther (f : Str) : Bool := decide (f ≠ "ring_at_first") && (decide (f ≠ "scene") && (decide (f ≠ "done") && (decide (f ≠ "undone") && (decide (f ≠ "is_open") && (decide (f ≠ "kept_scene") && (decide (f ≠ "kept_done") && decide (f ≠ "kept_undone")))))))
theorem LF.nm {r sc dn un ks kd ku : Addr} {op : Bool} {fs : List (Str × V)} (h : LF r sc dn un op ks kd ku fs) {f : Str} (z : lfOther f = true) : fs.lookup f = none := by
  unfold lfOther at z
  simp only [Bool.and_eq_true, decide_eq_true_eq] at z
  obtain ⟨n1, n2, n3, n4, n5, n6, n7, n8⟩ := z
  exact h.no f n1 n2 n3 n4 n5 n6 n7 n8
/-- tuples stand, and the instances that are scenes or rings -/
structure KpS (K : PySem.W.Frag) (H H' : Hp) : Prop where
  t : ∀ {p : Addr} {xs : List V}, SqT K H p xs → SqT K H' p xs
  i : ∀ {x X dx : Addr} {fs : List (Str × V)}, (fs.lookup ("day" : Str) ≠ none ∨ fs.lookup ("spans" : Str) ≠ none) → H x = some (.ins X dx fs) → H' x = some (.ins X dx fs)
section
variable {K : PySem.W.Frag} {C SC LC : Addr} {H H' : Hp} {a p l x : Addr} {N : Nat} {s : Sc} {st : Nat → List Int} {ys : List V} {ds hs : List Int}
theorem KpS.ex (e : Ex H H') : KpS K H H' := ⟨fun h => ex_t e h, fun _ h => e _ _ h⟩
theorem KpS.exb (e : Exb l H H') (hl : H l = some (.lst ys)) : KpS K H H' := ⟨fun h => exb_t e hl h, fun _ h => exb_ins e hl h⟩
theorem KpS.exn (e : LamX.ExtN H H') : KpS K H H' := ⟨fun h => exn_t e h, fun _ h => exn_ins e h⟩
theorem KpS.trans {H1 : Hp} (k1 : KpS K H H1) (k2 : KpS K H1 H') : KpS K H H' := ⟨fun h => k2.t (k1.t h), fun n h => k2.i n (k1.i n h)⟩
theorem KpS.live {r sc dn un ks kd ku dx : Addr} {op : Bool} {fs : List (Str × V)} (e : Exb a H H') (ha : H a = some (.ins LC dx fs)) (h : LF r sc dn un op ks kd ku fs) : KpS K H H' := by
  refine ⟨fun h => exb_ti e ha h, fun {x X dy gs} n hx => e _ _ (fun z => ?_) hx⟩
  rw [z, ha] at hx
  have hf : fs = gs := by
    have := Option.some.inj hx
    injection this
  rw [← hf] at n
  rcases n with n | n
  · exact n (h.nm (by decide +kernel))
  · exact n (h.nm (by decide +kernel))
theorem StkAt.kp (k : KpS K H H') (h : StkAt K H p N st) : StkAt K H' p N st := let ⟨sA, h1, h2⟩ := h; ⟨sA, k.t h1, fun j hj => k.t (h2 j hj)⟩
theorem ScIn.kp (k : KpS K H H') (h : ScIn K SC H x N s) : ScIn K SC H' x N s :=
  ⟨let ⟨dx, fs, p, q, r, h1, h2, h3, h4, h5⟩ := h.obj; ⟨dx, fs, p, q, r, k.i (.inl (by rw [h2.a1]; intro z; cases z)) h1, h2, h3.kp k, k.t h4, k.t h5⟩⟩
theorem RingIn.kp {r a b : Addr} (k : KpS K H H') (R : RingIn K C H r a b ds hs) : RingIn K C H' r a b ds hs :=
  ⟨let ⟨dx, h⟩ := R.obj; ⟨dx, k.i (.inr (by rw [rf_spans]; intro z; cases z)) h⟩, k.t R.sp, k.t R.hp, R.ok⟩
/-- operations and the scenes beside them -/
def HiAt (K : PySem.W.Frag) (SC : Addr) (H : Hp) (p : Addr) (N : Nat) (es : List (Op × Sc)) : Prop := ∃ zs : List V, SqT K H p zs ∧ zs.length = es.length ∧
  ∀ (i : Nat) (o : Op) (s : Sc), es[i]? = some (o, s) → ∃ q oa sa : Addr, zs[i]? = some (.ref q) ∧ SqT K H q [.ref oa, .ref sa] ∧ SqT K H oa (opV o) ∧ ScIn K SC H sa N s
theorem HiAt.kp {es : List (Op × Sc)} (k : KpS K H H') (h : HiAt K SC H p N es) : HiAt K SC H' p N es := let ⟨zs, h1, h2, h3⟩ := h; ⟨zs, k.t h1, h2, fun i o s e => let ⟨q, oa, sa, g1, g2, g3, g4⟩ := h3 i o s e; ⟨q, oa, sa, g1, k.t g2, k.t g3, g4.kp k⟩⟩
theorem HiAt.nil (h : SqT K H p []) : HiAt K SC H p N [] := ⟨[], h, rfl, fun i o s e => by cases e⟩
theorem HiAt.snoc {es : List (Op × Sc)} {zs : List V} {q oa sa : Addr} {o : Op} (hz : zs.length = es.length) (h3 : ∀ (i : Nat) (o : Op) (s : Sc), es[i]? = some (o, s) → ∃ q oa sa : Addr, zs[i]? = some (.ref q) ∧ SqT K H q [.ref oa, .ref sa] ∧ SqT K H oa (opV o) ∧ ScIn K SC H sa N s)
    (hp : SqT K H p (zs ++ [.ref q])) (hq : SqT K H q [.ref oa, .ref sa]) (ho : SqT K H oa (opV o)) (hs : ScIn K SC H sa N s) : HiAt K SC H p N (es ++ [(o, s)]) := by
  refine ⟨_, hp, by rw [List.length_append, List.length_append, hz]; rfl, fun i o' s' e => ?_⟩
  rcases Nat.lt_or_ge i es.length with hi | hi
  · rw [List.getElem?_append_left hi] at e
    obtain ⟨q, oa, sa, g1, g2, g3, g4⟩ := h3 i o' s' e
    exact ⟨q, oa, sa, by rw [List.getElem?_append_left (by omega)]; exact g1, g2, g3, g4⟩
  · rw [List.getElem?_append_right hi] at e
    obtain rfl : i = es.length := by
      have := (List.getElem?_eq_some_iff.mp e).1
      simp at this
      omega
    rw [Nat.sub_self] at e
    cases e
    exact ⟨q, oa, sa, by rw [List.getElem?_append_right (by omega), hz, Nat.sub_self]; rfl, hq, ho, hs⟩
/-- the live ring at a: its scene, what is done and undone; κ: what is kept while it is used in a block -/
structure LIn (K : PySem.W.Frag) (C SC LC : Addr) (H : Hp) (a : Addr) (κ : Option (Addr × Addr × Addr)) (ds hs : List Int) (s : Sc) (dn un : List (Op × Sc)) : Prop where
  obj : ∃ (dx r sc pd pu ks kd ku : Addr) (op : Bool) (fs : List (Str × V)), H a = some (.ins LC dx fs) ∧ LF r sc pd pu op ks kd ku fs ∧ RingAt K C H r ds hs ∧ ScIn K SC H sc ds.length s ∧ HiAt K SC H pd ds.length dn ∧ HiAt K SC H pu ds.length un ∧
    (κ = none → op = false) ∧ ∀ k1 k2 k3, κ = some (k1, k2, k3) → op = true ∧ ks = k1 ∧ kd = k2 ∧ ku = k3
variable {κ : Option (Addr × Addr × Addr)} {dn un : List (Op × Sc)}
theorem LIn.kp (k : KpS K H H') (hi : ∀ {X dx : Addr} {fs : List (Str × V)}, H a = some (.ins X dx fs) → H' a = some (.ins X dx fs)) (h : LIn K C SC LC H a κ ds hs s dn un) : LIn K C SC LC H' a κ ds hs s dn un :=
  ⟨let ⟨dx, r, sc, pd, pu, ks, kd, ku, op, fs, h1, h2, ⟨x, y, h3⟩, h4, h5, h6, h7, h8⟩ := h.obj; ⟨dx, r, sc, pd, pu, ks, kd, ku, op, fs, hi h1, h2, ⟨x, y, h3.kp k⟩, h4.kp k, h5.kp k, h6.kp k, h7, h8⟩⟩
theorem LIn.ex (e : Ex H H') (h : LIn K C SC LC H a κ ds hs s dn un) : LIn K C SC LC H' a κ ds hs s dn un := h.kp (.ex e) fun x => e _ _ x
theorem LIn.exb (e : Exb l H H') (hl : H l = some (.lst ys)) (h : LIn K C SC LC H a κ ds hs s dn un) : LIn K C SC LC H' a κ ds hs s dn un := h.kp (.exb e hl) fun x => exb_ins e hl x
theorem LIn.exn (e : LamX.ExtN H H') (h : LIn K C SC LC H a κ ds hs s dn un) : LIn K C SC LC H' a κ ds hs s dn un := h.kp (.exn e) fun x => exn_ins e x
theorem LIn.ne (h : LIn K C SC LC H a κ ds hs s dn un) (hl : H l = some (.lst ys)) : l ≠ a := fun z => by
  obtain ⟨dx, r, sc, pd, pu, ks, kd, ku, op, fs, h1, _⟩ := h.obj
  rw [z, h1] at hl
  cases hl
theorem LIn.keep (h : LIn K C SC LC H a κ ds hs s dn un) (e : Exb a H H') : KpS K H H' := by
  obtain ⟨dx, r, sc, pd, pu, ks, kd, ku, op, fs, h1, h2, _⟩ := h.obj
  exact KpS.live e h1 h2
end
/-! days pass -/
def nxs (N : Nat) (s : Sc) : Nat → Sc
  | 0 => s
  | n + 1 => (nxs N s n).next N
def evs (N : Nat) (s : Sc) : Nat → List (Int × Int × Int)
  | 0 => []
  | n + 1 => evs N s n ++ (nxs N s n).ended N
theorem nxs_ok {N : Nat} {s : Sc} (W : ScOk N s) : ∀ n, ScOk N (nxs N s n)
  | 0 => W
  | n + 1 => (nxs_ok W n).next
theorem ended_len {N : Nat} {s : Sc} : (s.ended N).length ≤ N := by
  unfold Sc.ended Sc.dueK
  rw [List.length_map]
  exact Nat.le_trans (List.length_filter_le _ _) (by rw [List.length_range]; exact Nat.le_refl _)
theorem evs_len {N : Nat} {s : Sc} : ∀ n, (evs N s n).length ≤ N * n
  | 0 => Nat.le_refl _
  | n + 1 => by
    show (evs N s n ++ _).length ≤ _
    have h1 := evs_len (N := N) (s := s) n
    have h2 := ended_len (N := N) (s := nxs N s n)
    rw [List.length_append, Nat.mul_succ]
    omega
theorem Ent.kp {K : PySem.W.Frag} {H H' : Hp} {zs : List V} {es : List (Int × Int × Int)} (k : KpS K H H') (h : Ent K H zs es) : Ent K H' zs es := ⟨h.1, fun m e he => let ⟨p, h1, h2⟩ := h.2 m e he; ⟨p, h1, k.t h2⟩⟩
theorem Ent.appL {K : PySem.W.Frag} {H : Hp} {zs ys : List V} {es fs : List (Int × Int × Int)} (h : Ent K H zs es) (h' : Ent K H ys fs) : Ent K H (zs ++ ys) (es ++ fs) := by
  refine ⟨by rw [List.length_append, List.length_append, h.1, h'.1], fun m e he => ?_⟩
  by_cases z : m < es.length
  · rw [List.getElem?_append_left z] at he
    obtain ⟨p, h1, h2⟩ := h.2 m e he
    exact ⟨p, by rw [List.getElem?_append_left (by rw [h.1]; exact z)]; exact h1, h2⟩
  · rw [List.getElem?_append_right (by omega)] at he
    obtain ⟨p, h1, h2⟩ := h'.2 _ e he
    exact ⟨p, by rw [List.getElem?_append_right (by rw [h.1]; omega), h.1]; exact h1, h2⟩
section
variable {P : Program} {w : World} {K : PySem.W.Frag} {mg : Str → Option Value} {base : Heap} {C SC LC : Addr}
def sp_Live_init (K : PySem.W.Frag) (C SC LC : Addr) : Sp := fun vs H Q _ => ∃ (x r a b dx : Addr) (ds hs : List Int), vs = [.ref x, .ref r] ∧ H x = some (.ins LC dx []) ∧ RingIn K C H r a b ds hs ∧
  ∀ H', Exb x H H' → LIn K C SC LC H' x none ds hs (Sc.first ds hs) [] [] → Q .non H'
theorem ok_Live_init (Z : Blt mg) (RL : LiveC K LC) (D_first_scene : Df P w K mg base 4 "first_scene" ["ring"] (sp_first_scene K C SC)) (G : IFun K mg "LiveRing" LC "LiveRing.__init__" s_LiveRing___init__) : If P w K mg base "LiveRing" LC 5 ["self", "ring"] (sp_Live_init K C SC LC) := by
  refine If.of G sc_LiveRing___init__ b_LiveRing___init__ (fun vs H Q E h => ?_) (fun f cdv A outer s H vs Q E hr h => ?_)
  · obtain ⟨x, r, a, b, dx, ds, hs, rfl, _⟩ := h
    rfl
  · obtain ⟨x, r, a, b, dx, ds, hs, rfl, hx, RI, k⟩ := h
    obtain ⟨cl_LiveRing, n1, n2, n3, n4, n5, n6, n7, n8⟩ := RL
    refine ⟨_, PSs.nox (pss_cons (ps_fld (pv 0) (pv 1) rfl)
      (pss_cons (ps_fld (pv 0) (pg D_first_scene hr (pa_cons (pv 1) pa_nil)) rfl)
      (pss_cons (ps_fld (pv 0) (pe_tup pa_nil) rfl)
      (pss_cons (ps_fld (pv 0) (pe_tup pa_nil) rfl)
      (pss_cons (ps_fld (pv 0) pe_bl rfl)
      (pss_cons (ps_fld (pv 0) (pe_fld (pv 0) rfl) rfl)
      (pss_cons (ps_fld (pv 0) (pe_tup pa_nil) rfl)
      (pss_one (ps_fld (pv 0) (pe_tup pa_nil) rfl))))))))), ?_⟩
    walk_at "g0"
    walk_at "go"
    refine g_kSFld hx cl_LiveRing n1 (by decide) fun H1 e1 hx1 => ?_
    walk_at "go"
    have RI1 := RI.kp ⟨fun h => exb_ti e1 hx h, fun {y Y dy gs} n hy => e1 _ _ (fun z => by
      rw [z, hx] at hy
      have hf : [] = gs := by
        have := Option.some.inj hy
        injection this
      rw [← hf] at n
      rcases n with n | n <;> exact n rfl) hy⟩
    refine ⟨r, a, b, ds, hs, rfl, RI1, fun sc H2 nsc e2 S2 => ?_⟩
    walk_at "go"
    have hx2 := e2 _ _ hx1
    refine g_kSFld hx2 cl_LiveRing n2 (Nat.lt_of_le_of_lt (flenp flen0) (by decide)) fun H3 e3 hx3 => ?_
    walk_at "go"
    rename_i p4 H4 np4 e4 h4
    refine g_kSFld (e4 _ _ hx3) cl_LiveRing n3 (Nat.lt_of_le_of_lt (flenp (flenp flen0)) (by decide)) fun H5 e5 hx5 => ?_
    walk_at "go"
    rename_i p6 H6 np6 e6 h6
    refine g_kSFld (e6 _ _ hx5) cl_LiveRing n4 (Nat.lt_of_le_of_lt (flenp (flenp (flenp flen0))) (by decide)) fun H7 e7 hx7 => ?_
    walk_at "go"
    refine g_kSFld hx7 cl_LiveRing n5 (Nat.lt_of_le_of_lt (flenp (flenp (flenp (flenp flen0)))) (by decide)) fun H8 e8 hx8 => ?_
    walk_at "go"
    refine g_kFld hx8 cl_LiveRing n2 (v := .ref sc) (by walk_at "lf") ?_
    walk_at "go"
    refine g_kSFld hx8 cl_LiveRing n6 (Nat.lt_of_le_of_lt (flenp (flenp (flenp (flenp (flenp flen0))))) (by decide)) fun H9 e9 hx9 => ?_
    walk_at "go"
    rename_i p10 H10 np10 e10 h10
    refine g_kSFld (e10 _ _ hx9) cl_LiveRing n7 (Nat.lt_of_le_of_lt (flenp (flenp (flenp (flenp (flenp (flenp flen0)))))) (by decide)) fun H11 e11 hx11 => ?_
    walk_at "go"
    rename_i p12 H12 np12 e12 h12
    refine g_kSFld (e12 _ _ hx11) cl_LiveRing n8 (Nat.lt_of_le_of_lt (flenp (flenp (flenp (flenp (flenp (flenp (flenp flen0))))))) (by decide)) fun H13 e13 hx13 => ?_
    walk_at "go"
    have kq : ∀ {Ha Hb : Hp} {gs : List (Str × V)}, Exb x Ha Hb → Ha x = some (.ins LC dx gs) → gs.lookup ("day" : Str) = none → gs.lookup ("spans" : Str) = none → KpS K Ha Hb := fun {Ha Hb gs} ee hh g1 g2 => ⟨fun h => exb_ti ee hh h, fun {y Y dy us} n hy => ee _ _ (fun z => by
      rw [z, hh] at hy
      have hf : gs = us := by
        have := Option.some.inj hy
        injection this
      rw [← hf] at n
      rcases n with n | n
      · exact n g1
      · exact n g2) hy⟩
    have k23 : KpS K H2 H3 := kq e3 hx2 (by walk_at "lf"; try rfl) (by walk_at "lf"; try rfl)
    have k45 : KpS K H4 H5 := kq e5 (e4 _ _ hx3) (by walk_at "lf"; try rfl) (by walk_at "lf"; try rfl)
    have k67 : KpS K H6 H7 := kq e7 (e6 _ _ hx5) (by walk_at "lf"; try rfl) (by walk_at "lf"; try rfl)
    have k78 : KpS K H7 H8 := kq e8 hx7 (by walk_at "lf"; try rfl) (by walk_at "lf"; try rfl)
    have k89 : KpS K H8 H9 := kq e9 hx8 (by walk_at "lf"; try rfl) (by walk_at "lf"; try rfl)
    have kab : KpS K H10 H11 := kq e11 (e10 _ _ hx9) (by walk_at "lf"; try rfl) (by walk_at "lf"; try rfl)
    have kcd : KpS K H12 H13 := kq e13 (e12 _ _ hx11) (by walk_at "lf"; try rfl) (by walk_at "lf"; try rfl)
    have k7d : KpS K H7 H13 := ((((k78.trans k89).trans (.ex e10)).trans kab).trans (.ex e12)).trans kcd
    have k5d : KpS K H5 H13 := ((KpS.ex e6).trans k67).trans k7d
    have k3d : KpS K H3 H13 := ((KpS.ex e4).trans k45).trans k5d
    have k2d : KpS K H2 H13 := k23.trans k3d
    refine k H13 ((((((((((((e1.trans (Exb.of e2)).trans e3).trans (Exb.of e4)).trans e5).trans (Exb.of e6)).trans e7).trans e8).trans e9).trans (Exb.of e10)).trans e11).trans (Exb.of e12)).trans e13) ⟨dx, r, sc, p4, p6, sc, p10, p12, false, _, hx13, .make, ⟨a, b, (RI1.ex e2).kp k2d⟩, S2.kp k2d, .nil (k45.trans k5d |>.t (SqT.of h4)), .nil (k67.trans k7d |>.t (SqT.of h6)), fun _ => rfl, fun _ _ _ z => by cases z⟩
theorem g_mkLive {H : Hp} {Q : VK} {E : XK} {r a b : Addr} {ds hs : List Int} (R : RingIn K C H r a b ds hs) (k : ∀ x H', H x = none → Ex H H' → LIn K C SC LC H' x none ds hs (Sc.first ds hs) [] [] → Q (.ref x) H') : kMake LC (sp_Live_init K C SC LC) E Q [.ref r] H := by
  intro x dx nx ndx ne
  have e1 : Ex H (upd (upd H dx (.own x)) x (.ins LC dx [])) := fun c o h => by
    rw [upd_ne (ne_of_none h nx), upd_ne (ne_of_none h ndx)]
    exact h
  exact ⟨x, r, a, b, dx, ds, hs, rfl, upd_same, R.ex e1, fun H' e2 h => ⟨rfl, k x H' nx (Exb.ex nx e1 e2) h⟩⟩
/-! ### enter -/
def sp_enter (K : PySem.W.Frag) (C SC LC : Addr) : Sp := fun vs H Q _ => ∃ (a oa sa : Addr) (κ : Option (Addr × Addr × Addr)) (ds hs : List Int) (s s' : Sc) (dn un : List (Op × Sc)) (o : Op), vs = [.ref a, .ref oa, .ref sa] ∧ LIn K C SC LC H a κ ds hs s dn un ∧ SqT K H oa (opV o) ∧ ScIn K SC H sa ds.length s' ∧ dn.length ≤ 900 ∧
  ∀ H', Exb a H H' → LIn K C SC LC H' a κ ds hs s' (dn ++ [(o, s)]) [] → Q .non H'
theorem ok_enter (Z : Blt mg) (RL : LiveC K LC) (G : CFun K LC "enter" "LiveRing.enter" s_LiveRing_enter) : Mf P w K mg base LC 1 "enter" ["self", "operation", "after"] (sp_enter K C SC LC) := by
  refine Mf.of G sc_LiveRing_enter b_LiveRing_enter (fun vs H Q E h => ?_) (fun f cdv A outer st H vs Q E hr h => ?_)
  · obtain ⟨a, oa, sa, κ, ds, hs, s, s', dn, un, o, rfl, _⟩ := h
    rfl
  · obtain ⟨a, oa, sa, κ, ds, hs, s, s', dn, un, o, rfl, L0, hoa, S', hdn, k⟩ := h
    obtain ⟨cl_LiveRing, n1, n2, n3, n4, n5, n6, n7, n8⟩ := RL
    obtain ⟨dx, r, sc, pd, pu, ks, kd, ku, op, fs, ha, lf, RA, S0, ⟨zs, hpd, hzl, hz⟩, hu, hκ1, hκ2⟩ := L0.obj
    have len := lf.len
    refine ⟨_, PSs.nox (pss_cons (ps_fld (pv 0) (pe_tup (StX.pa_star (pe_fld (pv 0) rfl) (pa_cons (pe_tup (pa_cons (pv 1) (pa_cons (pe_fld (pv 0) rfl) pa_nil))) pa_nil))) rfl)
      (pss_cons (ps_fld (pv 0) (pe_tup pa_nil) rfl)
      (pss_one (ps_fld (pv 0) (pv 2) rfl)))), ?_⟩
    walk_at "g0"
    walk_at "go"
    refine g_star ?_
    refine g_fld ?_
    walk_at "go"
    refine g_kFld ha cl_LiveRing n3 lf.a3 ?_
    refine g_kStar hpd ?_
    walk_at "go"
    refine g_kFld ha cl_LiveRing n2 lf.a2 ?_
    walk_at "go"
    rename_i q1 H1 nq1 e1 h1 p2 H2 np2 e2 h2
    have e12 := e1.trans e2
    have ha2 := e12 _ _ ha
    refine g_kSFld ha2 cl_LiveRing n3 (by omega) fun H3 e3 ha3 => ?_
    walk_at "go"
    rename_i p4 H4 np4 e4 h4
    have lf3 := lf.done (x := p2)
    have len3 := lf3.len
    refine g_kSFld (e4 _ _ ha3) cl_LiveRing n4 (by omega) fun H5 e5 ha5 => ?_
    walk_at "go"
    have lf5 := lf3.undone (x := p4)
    have len5 := lf5.len
    refine g_kSFld ha5 cl_LiveRing n2 (by omega) fun H6 e6 ha6 => ?_
    walk_at "go"
    have k23 : KpS K H2 H3 := .live e3 ha2 lf
    have k45 : KpS K H4 H5 := .live e5 (e4 _ _ ha3) lf3
    have k56 : KpS K H5 H6 := .live e6 ha5 lf5
    have k46 := k45.trans k56
    have k26 : KpS K H2 H6 := (k23.trans (.ex e4)).trans k46
    have k06 : KpS K H H6 := (KpS.ex e12).trans k26
    obtain ⟨x, y, RA⟩ := RA
    refine k H6 (((((Exb.of e12).trans e3).trans (Exb.of e4)).trans e5).trans e6) ⟨dx, r, sa, p2, p4, ks, kd, ku, op, _, ha6, lf5.scene, ⟨x, y, RA.kp k06⟩, S'.kp k06, ?_, .nil (k46.t (SqT.of h4)), hκ1, hκ2⟩
    refine HiAt.snoc (zs := zs) (q := q1) (oa := oa) (sa := sc) hzl (fun i o s e => let ⟨q, oa, sa, g1, g2, g3, g4⟩ := hz i o s e; ⟨q, oa, sa, g1, k06.t g2, k06.t g3, g4.kp k06⟩) (k26.t (SqT.of h2)) (k26.t (ex_t e2 (SqT.of h1))) (k06.t hoa) (S0.kp k06)
/-! ### pass_days -/
def sp_pass (K : PySem.W.Frag) (C SC LC : Addr) : Sp := fun vs H Q _ => ∃ (a : Addr) (κ : Option (Addr × Addr × Addr)) (ds hs : List Int) (s : Sc) (dn un : List (Op × Sc)) (n : Nat), vs = [.ref a, .int (n : Int)] ∧ LIn K C SC LC H a κ ds hs s dn un ∧ ScOk ds.length s ∧ n ≤ 400 ∧ dn.length ≤ 900 ∧
  ∀ l zs H', H l = none → Exb a H H' → H' l = some (.lst zs) → Ent K H' zs (evs ds.length s n) → LIn K C SC LC H' a κ ds hs (nxs ds.length s n) (dn ++ [(.pass n, s)]) [] → Q (.ref l) H'
set_option maxHeartbeats 8000000 in
theorem ok_pass (Z : Blt mg) (RL : LiveC K LC) (RS : SceneC K SC) (c_MAX_PASSED : ∃ t, mg "MAX_PASSED" = some (.int 400 t)) (D_check_number : Df P w K mg base 2 "check_number" ["number", "low", "high"] sp_check_number) (M_Scene_following : Mf P w K mg base SC 4 "following" ["self"] (sp_following K SC)) (M_LiveRing_enter : Mf P w K mg base LC 1 "enter" ["self", "operation", "after"] (sp_enter K C SC LC))
    (G : CFun K LC "pass_days" "LiveRing.pass_days" s_LiveRing_pass_days) : Mf P w K mg base LC 5 "pass_days" ["self", "count"] (sp_pass K C SC LC) := by
  refine Mf.of G sc_LiveRing_pass_days b_LiveRing_pass_days (fun vs H Q E h => ?_) (fun f cdv A outer st H vs Q E hr h => ?_)
  · obtain ⟨a, κ, ds, hs, s, dn, un, n, rfl, _⟩ := h
    rfl
  · obtain ⟨a, κ, ds, hs, s, dn, un, n, rfl, L0, W, hn, hdn, k⟩ := h
    obtain ⟨cl_LiveRing, n1, n2, n3, n4, n5, n6, n7, n8⟩ := RL
    have cl_Scene := RS.cl
    obtain ⟨dx, r, sc, pd, pu, ks, kd, ku, op, fs, ha, lf, RA, S0, _⟩ := L0.obj
    have o8 := W.eight
    refine ⟨_, PSs.nox (pss_cons (ps_expr (pg D_check_number hr (pa_cons (pv 1) (pa_cons pe_int (pa_cons (pint c_MAX_PASSED) pa_nil)))))
      (pss_cons (ps_par (i := 2) (j := 3) rfl sc_LiveRing_pass_days.nd rfl rfl (by decide) rfl rfl (pa_cons (pe_fld (pv 0) rfl) (pa_cons (pe_lst pa_nil) pa_nil)) (by rfl))
      (pss_cons (ps_for PassesOwn.never rfl (pi_range1 (by rfl) Z.zrange (pa_cons (pv 1) pa_nil)) (pg_name (i := 4) sc_LiveRing_pass_days.nd rfl (by first | exact Or.inl rfl | exact Or.inr rfl)) (pss_cons (ps_asg (pm0 (pv 2) cl_Scene M_Scene_following hr) (pg_tup (by rfl) (pgs_cons (pg_name (i := 2) sc_LiveRing_pass_days.nd rfl (by first | exact Or.inl rfl | exact Or.inr rfl)) (pgs_cons (pg_name (i := 5) sc_LiveRing_pass_days.nd rfl (by first | exact Or.inl rfl | exact Or.inr rfl)) pgs_nil))))
          (pss_one (ps_expr (pe_bm PySem.F.plainAttrs_list PySem.F.slot_list_extend PySem.F.type_list_extend mt_extend (pv 3) (pa_cons (pv 5) pa_nil))))))
      (pss_cons (ps_expr (pm (pv 0) cl_LiveRing M_LiveRing_enter hr (pa_cons (pe_tup (pa_cons pe_str (pa_cons (pv 1) pa_nil))) (pa_cons (pv 2) pa_nil))))
      (pss_one (ps_ret (pv 3))))))), ?_⟩
    walk_at "g0"
    walk_at "go"
    refine g_kFld ha cl_LiveRing n2 lf.a2 ?_
    walk_at "go"
    rename_i l1 H1 nl1 e1 hl1
    refine g_kForR1 ⟨by omega, by omega⟩ (fun i σ H' => ∃ (x : Addr) (zs : List V) (v4 v5 : Option V), σ = [some (.ref a), some (.int (n : Int)), some (.ref x), some (.ref l1), v4, v5] ∧ Ex H H' ∧ ScIn K SC H' x ds.length (nxs ds.length s i) ∧ H' l1 = some (.lst zs) ∧ Ent K H' zs (evs ds.length s i))
      ⟨sc, [], _, _, rfl, e1, S0.ex e1, hl1, Ent.nil⟩ ?_ ?_
    · rintro i σ H2 hi ⟨x, zs, v4, v5, rfl, e2, S2, hl2, E2⟩
      walk_at "go"
      obtain ⟨dx2, fs2, p2, q2, r2, hx2, sf2, _⟩ := S2.obj
      refine g_kMeth hx2 sf2.m2 ?_
      refine ⟨x, ds.length, _, rfl, nxs_ok W i, S2, fun p a' l zs' H3 np na nl nlp e3 hp S3 hl E3 => ?_⟩
      walk_at "go"
      have hl3 := e3 _ _ hl2
      refine g_kBM_list (SqL.of hl3) ?_
      walk_at "go"
      have hbig : zs.length + zs'.length ≤ 3200 := by
        have h1 := evs_len (N := ds.length) (s := s) (i + 1)
        have h2 : ds.length * (i + 1) ≤ 8 * (i + 1) := Nat.mul_le_mul_right _ o8
        have h3 : (evs ds.length s (i + 1)).length = zs.length + zs'.length := by
          rw [E2.1, E3.1, ← List.length_append]
          rfl
        omega
      refine g_extendL hl3 hl (Nat.lt_of_le_of_lt hbig (by rw [sizeLine_eq]; decide)) fun H4 e4 hl4 => ?_
      walk_at "go"
      exact ⟨a', _, _, _, rfl, Exb.ex nl1 (e2.trans e3) e4, S3.exb e4 hl3, hl4, ((E2.ex e3).appL E3).exb e4 hl3⟩
    · rintro σ H2 ⟨x, zs, v4, v5, rfl, e2, S2, hl2, E2⟩
      rw [Int.toNat_natCast] at S2 E2
      have ha2 := e2 _ _ ha
      walk_at "go"
      refine g_kMeth ha2 (lf.nm (by decide +kernel)) ?_
      walk_at "go"
      rename_i p3 H3 np3 e3 h3
      have e03 := e2.trans e3
      refine ⟨a, p3, x, κ, ds, hs, s, nxs ds.length s n, dn, un, .pass n, rfl, L0.ex e03, SqT.of h3, S2.ex e3, hdn, fun H4 e4 L4 => ?_⟩
      walk_at "go"
      have hl3 := e3 _ _ hl2
      have kk : KpS K H3 H4 := (L0.ex e03).keep e4
      exact k l1 zs H4 nl1 ((Exb.of e03).trans e4) (e4 _ _ (L0.ex e03 |>.ne hl3) hl3) ((E2.ex e3).kp kk) L4
end
end G48

namespace G48
open PySem PySem.Spec PyProof.Rows L2 Evl
abbrev N__law_diary : List Str := ["_law_parts_here", "_law_days", "_law_h", "_law_found", "_law_day_here"]
theorem sc__law_diary : FnScope N__law_diary ["_law_parts_here", "_law_days"] (defScope s__law_diary) := ⟨rfl, rfl, rfl, by decide +kernel, rfl, by decide +kernel, by decide +kernel⟩
theorem b__law_diary : BindL "_law_diary" "_law_diary" s__law_diary ["_law_parts_here", "_law_days"] := fun _ _ _ _ _ _ us hl => match us, hl with | [_, _], _ => rfl
end G48
/-! all readings of so many days by the own ring -/
namespace G48
open PySem PySem.Spec PyProof.Rows L2 Evl
/-! the steps -/
local macro_rules | `(tactic| walk_at "as") => `(tactic| with_reducible assumption)
local macro_rules | `(tactic| walk_at "hp") => `(tactic| first
  | with_reducible assumption
  | ((with_reducible apply SqT.of); walk_at "as")
  | ((with_reducible apply SqL.of); walk_at "as")
  | ((with_reducible apply ex_at); (focus walk_at "as"); walk_at "hp")
  | ((with_reducible apply ex_t); (focus walk_at "as"); walk_at "hp")
  | ((with_reducible apply ex_l); (focus walk_at "as"); walk_at "hp")
  | ((with_reducible apply exb_ins); (focus walk_at "as"); (focus walk_at "hp"); walk_at "hp")
  | ((with_reducible apply exb_t); (focus walk_at "as"); (focus walk_at "hp"); walk_at "hp")
  | ((with_reducible apply exb_at); (focus walk_at "as"); (focus walk_at "ne"); walk_at "hp")
  | ((with_reducible apply exb_l); (focus walk_at "as"); (focus walk_at "ne"); walk_at "hp"))
local macro_rules | `(tactic| walk_at "ne") => `(tactic| first
  | with_reducible assumption
  | exact Ne.symm (by with_reducible assumption)
  | exact ne_of_none (by with_reducible assumption) (by with_reducible assumption)
  | exact Ne.symm (ne_of_none (by with_reducible assumption) (by with_reducible assumption)))
local macro_rules | `(tactic| walk_at "tr") => `(tactic| first
  | rfl
  | with_reducible assumption
  | exact decide_eq_true (by first | with_reducible assumption | omega)
  | exact decide_eq_false (by first | with_reducible assumption | omega)
  | (rw [Bool.not_eq_true']; exact decide_eq_false (by first | with_reducible assumption | omega))
  | (rw [Bool.not_eq_false']; exact decide_eq_true (by first | with_reducible assumption | omega)))
local macro_rules | `(tactic| walk_at "nn") => `(tactic| first | with_reducible assumption | (exact List.cons_ne_nil _ _))
local macro_rules | `(tactic| walk_at "sz") => `(tactic| first | (exact sz1000 (Nat.le_of_ble_eq_true rfl)) | (refine sz1000 ?_; simp only [List.length_map, List.length_cons, List.length_nil, List.length_append]; omega) | with_reducible assumption)
local macro_rules | `(tactic| walk_at "sl") => `(tactic| first | with_reducible assumption | (refine lt1000 ?_; simp only [List.length_map, List.length_cons, List.length_nil, List.length_append]; omega) | (refine lt1000 ?_; omega))
local macro_rules | `(tactic| walk_at "ix") => `(tactic| first | rfl | with_reducible assumption)
local macro_rules | `(tactic| walk_at "rg") => `(tactic| exact RgOk.of_le (by omega) (by omega) (by omega) (by omega))
local macro_rules | `(tactic| walk_at "sp") => `(tactic| fail "sp")
local macro_rules | `(tactic| walk_at "cl") => `(tactic| with_reducible assumption)
local macro_rules | `(tactic| walk_at "lk") => `(tactic| with_reducible assumption)
local macro_rules | `(tactic| walk_at "it") => `(tactic| first | rfl | with_reducible assumption | exact atI_nat (by with_reducible assumption))
local macro_rules | `(tactic| walk_at "g1") => `(tactic| first
  | (with_reducible apply g_var); (focus rfl)
  | with_reducible apply g_c
  | with_reducible apply g_seq
  | with_reducible apply g_asg
  | with_reducible apply gg_name
  | with_reducible apply g_op
  | with_reducible apply g_cons
  | with_reducible apply g_nil
  | with_reducible apply g_cb
  | with_reducible apply g_fld
  | ((with_reducible apply g_kFld); (focus walk_at "hp"); (focus walk_at "cl"); (focus walk_at "cl"); (focus walk_at "lk"))
  | with_reducible apply g_call
  | walk_at "sp"
  | with_reducible apply g_ret
  | with_reducible apply g_drop
  | with_reducible apply g_test
  | with_reducible apply g_B
  | with_reducible apply g_kTest
  | with_reducible apply g_ifS
  | with_reducible apply g_kIfST
  | with_reducible apply g_kIfSF
  | with_reducible apply g_add
  | with_reducible apply g_sub
  | with_reducible apply g_lt
  | with_reducible apply g_le
  | with_reducible apply g_gt
  | with_reducible apply g_ge
  | with_reducible apply g_eqI
  | with_reducible apply g_neI
  | ((with_reducible apply g_mod); (focus first | decide | omega))
  | ((with_reducible apply g_mul); (focus first | (left; constructor <;> omega) | (right; constructor <;> omega)))
  | ((with_reducible apply g_fdiv); (focus (constructor <;> omega)))
  | ((with_reducible apply g_ixT); (focus walk_at "hp"); (focus walk_at "it"))
  | ((with_reducible apply g_ixL); (focus walk_at "hp"); (focus walk_at "it"))
  | with_reducible apply g_and
  | with_reducible apply g_or
  | with_reducible apply g_not
  | with_reducible apply g_kNotT
  | with_reducible apply g_kNotF
  | with_reducible apply g_if
  | with_reducible apply g_kAndT
  | with_reducible apply g_kAndF
  | with_reducible apply g_kOrT
  | with_reducible apply g_kOrF
  | with_reducible apply g_kIfT
  | with_reducible apply g_kIfF
  | with_reducible apply g_next
  | with_reducible apply g_andV
  | with_reducible apply g_orV
  | with_reducible apply g_notV
  | with_reducible apply g_kNotV
  | with_reducible apply g_kAndVT
  | with_reducible apply g_kAndVF
  | with_reducible apply g_chain
  | with_reducible apply g_kChainT
  | with_reducible apply g_kChainF
  | with_reducible apply g_tup
  | with_reducible apply g_lst
  | ((with_reducible apply g_kT); (focus walk_at "sz"); intro _ _ _ _ _)
  | ((with_reducible apply g_kL); (focus walk_at "sz"); intro _ _ _ _ _)
  | with_reducible apply g_un
  | with_reducible apply g_neg
  | with_reducible apply g_meth
  | ((with_reducible apply g_kMeth); (focus walk_at "hp"); (focus walk_at "lk"))
  | with_reducible apply g_prop
  | ((with_reducible apply g_kProp); (focus walk_at "hp"))
  | with_reducible apply g_make
  | with_reducible apply g_par
  | with_reducible apply g_kPar
  | ((with_reducible apply g_lenLM); (focus walk_at "hp"))
  | ((with_reducible apply g_lenTM); (focus walk_at "hp"))
  | ((with_reducible apply g_lenL); (focus walk_at "hp"))
  | ((with_reducible apply g_lenT); (focus walk_at "hp"))
  | with_reducible apply g_int1
  | with_reducible apply g_max2
  | with_reducible apply g_min2
  | ((with_reducible apply g_listL); (focus walk_at "hp"); intro _ _ _ _ _)
  | ((with_reducible apply g_listT); (focus walk_at "hp"); intro _ _ _ _ _)
  | ((with_reducible apply g_tupL); (focus walk_at "hp"); intro _ _ _ _ _)
  | ((with_reducible apply g_sum); (focus walk_at "hp"))
  | with_reducible apply g_sfld
  | with_reducible apply g_sl
  | with_reducible apply g_nopart
  | with_reducible apply g_part
  | with_reducible apply g_kPart
  | with_reducible apply g_lstRg
  | with_reducible apply g_rg1
  | with_reducible apply g_kRg1
  | with_reducible apply g_bm
  | with_reducible apply gg_sub
  | ((with_reducible apply gg_tup); (focus walk_at "hp"); (focus rfl))
  | with_reducible apply gg_cons
  | with_reducible apply gg_nil
  | with_reducible apply g_forL
  | with_reducible apply g_forT
  | with_reducible apply g_forR1
  | with_reducible apply g_forR2
  | with_reducible apply g_forE
  | with_reducible apply g_forEL
  | ((with_reducible apply g_maxT); (focus walk_at "hp"); (focus walk_at "nn"))
  | ((with_reducible apply g_maxL); (focus walk_at "hp"); (focus walk_at "nn"))
  | ((with_reducible apply g_catA); (focus walk_at "hp"); (focus walk_at "hp"); (focus walk_at "sz"); intro _ _ _ _)
  | ((with_reducible apply g_slA); (focus walk_at "hp"); intro _ _ _ _)
  | ((with_reducible apply g_tupD); (focus walk_at "hp"); intro _ _ _ _ _)
  | ((with_reducible apply g_setL); (focus walk_at "hp"); (focus walk_at "ix"); intro _ _ _)
  | ((with_reducible apply g_append); (focus walk_at "hp"); (focus walk_at "sl"); intro _ _ _)
  | ((with_reducible apply g_aug); (focus rfl))
  | with_reducible apply g_ipI
  | with_reducible apply g_retN
  | with_reducible apply g_lcR1
  | with_reducible apply g_lcR2
  | with_reducible apply g_lcL
  | with_reducible apply g_lcU
  | with_reducible apply g_lcN
  | ((with_reducible apply g_kLcG); (focus rfl))
  | with_reducible apply g_yes
  | with_reducible apply g_kLcTT
  | with_reducible apply g_kLcTF
  | ((with_reducible apply g_kLcE); (focus walk_at "hp"); (focus walk_at "sl"); intro _ _ _)
  | ((with_reducible apply g_pow); (focus (constructor <;> (try constructor) <;> decide)))
  | ((with_reducible apply g_kLRg); (focus walk_at "rg"); intro _ _ _ _ _)
  | ((with_reducible apply g_cat); (focus walk_at "hp"); (focus walk_at "hp"); (focus walk_at "sz"); intro _ _ _ _ _)
  | ((with_reducible apply g_slL); (focus walk_at "hp"); intro _ _ _ _ _)
  | with_reducible apply g_bmT
  | with_reducible apply g_break
  | with_reducible apply g_cont)
local macro_rules | `(tactic| walk_at "g0") => `(tactic| try dsimp only [L2.cxOf, L2.Cx.nox, L2.Cx.wish])
local macro_rules | `(tactic| walk_at "yn") => `(tactic| first
  | ((with_reducible apply y_kIfS); (focus walk_at "tr"))
  | ((with_reducible apply n_kIfS); (focus walk_at "tr"))
  | ((with_reducible apply y_kOr); (focus walk_at "tr"))
  | ((with_reducible apply n_kOr); (focus walk_at "tr"))
  | ((with_reducible apply y_kAnd); (focus walk_at "tr"))
  | ((with_reducible apply n_kAnd); (focus walk_at "tr"))
  | ((with_reducible apply y_kNot); (focus walk_at "tr"))
  | ((with_reducible apply n_kNot); (focus walk_at "tr"))
  | ((with_reducible apply y_kIf); (focus walk_at "tr"))
  | ((with_reducible apply n_kIf); (focus walk_at "tr"))
  | ((with_reducible apply y_kAndV); (focus walk_at "tr"))
  | ((with_reducible apply n_kAndV); (focus walk_at "tr"))
  | ((with_reducible apply y_kOrV); (focus walk_at "tr"))
  | ((with_reducible apply n_kOrV); (focus walk_at "tr"))
  | ((with_reducible apply y_kChain); (focus walk_at "tr"))
  | ((with_reducible apply n_kChain); (focus walk_at "tr"))
  | ((with_reducible apply y_kLcT); (focus walk_at "tr"))
  | ((with_reducible apply n_kLcT); (focus walk_at "tr"))
  | ((with_reducible apply y_kWh); (focus walk_at "tr"))
  | ((with_reducible apply n_kWh); (focus walk_at "tr")))
local macro_rules | `(tactic| walk_at "go") => `(tactic| repeat (first | walk_at "g1" | walk_at "yn"))
local macro_rules | `(tactic| walk_at "hp") => `(tactic| first
  | ((with_reducible apply RingIn.ex); (focus walk_at "as"); walk_at "hp")
  | ((with_reducible apply RingAt.ex); (focus walk_at "as"); walk_at "hp")
  | ((with_reducible apply RingIn.exb); (focus walk_at "as"); (focus walk_at "hp"); walk_at "hp")
  | ((with_reducible apply RingAt.exb); (focus walk_at "as"); (focus walk_at "hp"); walk_at "hp")
  | ((with_reducible apply TupK.ex); (focus walk_at "as"); walk_at "hp")
  | ((with_reducible apply TupK.exb); (focus walk_at "as"); (focus walk_at "hp"); walk_at "hp"))
local macro_rules | `(tactic| walk_at "lk") => `(tactic| first | with_reducible exact rf_spans | with_reducible exact rf_heaps | with_reducible exact rf_total | with_reducible exact rf_nr | with_reducible exact rf_wd)
local macro_rules | `(tactic| walk_at "sp") => `(tactic| first
  | ((with_reducible apply g_isiTup); (focus walk_at "hp"))
  | ((with_reducible apply g_isiLst); (focus walk_at "hp"))
  | ((with_reducible apply g_isint); (focus omega); (focus omega))
  | ((with_reducible apply g_checkn); (focus omega); (focus omega))
  | ((with_reducible apply g_rbooks); (focus walk_at "hp"))
  | ((with_reducible apply g_rpace); (focus walk_at "hp"); intro _ _ _ _)
  | ((with_reducible apply g_rlen); (focus walk_at "hp"))
  | ((with_reducible apply g_rneed); (focus walk_at "hp"); (focus omega))
  | ((with_reducible apply g_rneedM); (focus walk_at "hp"))
  | ((with_reducible apply g_rwithM); (focus walk_at "hp"))
  | ((with_reducible apply g_rspans); (focus walk_at "hp"); (focus with_reducible assumption))
  | ((with_reducible apply g_rheaps); (focus walk_at "hp"); (focus with_reducible assumption))
  | ((with_reducible apply g_rtotal); (focus walk_at "hp"); (focus with_reducible assumption)))

local macro_rules | `(tactic| walk_at "lk") => `(tactic| first | with_reducible exact kv_days | with_reducible exact kv_heaps | with_reducible exact kv_reading | with_reducible exact kv_today | with_reducible exact kv_next)
local macro_rules | `(tactic| walk_at "g1") => `(tactic| first
  | with_reducible apply g_dget
  | ((with_reducible apply g_kDGet); (focus walk_at "hp"); (focus walk_at "lk")))

section
variable {P : Program} {w : World} {K : PySem.W.Frag} {mg : Str → Option Value} {base : Heap} {C SC : Addr}
theorem evt_len {ds hs : List Int} : ∀ t, (evt ds hs t).length ≤ ds.length * t
  | 0 => Nat.le_refl _
  | t + 1 => by
    show (evt ds hs t ++ _).length ≤ _
    have h1 := evt_len (ds := ds) (hs := hs) t
    have h2 := ended_len8 (N := ds.length) (s := scAt ds hs t)
    rw [List.length_append, Nat.mul_succ]
    omega
theorem Ent.frm {H H' : Hp} {h rd da hp : Addr} {hA : Nat → Addr} {N : Nat} {s : Sc} {zs : List V} {es : List (Int × Int × Int)} (D : DG K H h da hp rd hA N s) (f : Frm h rd hA N H H') (e : Ent K H zs es) : Ent K H' zs es := ⟨e.1, fun m x hx => let ⟨p, h1, h2⟩ := e.2 m x hx; ⟨p, h1, D.tup f h2⟩⟩
def sp_ldiary (K : PySem.W.Frag) : Sp := fun vs H Q _ => ∃ (p a b : Addr) (ds hs : List Int) (n : Nat), vs = [.ref p, .int (n : Int)] ∧ SqT K H p [.ref a, .ref b] ∧ SqT K H a (ds.map V.int) ∧ SqT K H b (hs.map V.int) ∧ RingOk ds hs ∧ n ≤ 400 ∧
  ∀ l zs H', H l = none → Ex H H' → H' l = some (.lst zs) → Ent K H' zs (evt ds hs n) → Q (.ref l) H'
theorem ok_ldiary (Z : Blt mg) (D__law_first : Df P w K mg base 2 "_law_first" ["_law_parts_here"] (sp_first K)) (D__law_day : Df P w K mg base 2 "_law_day" ["_law_h"] (sp_day K)) (G : GFun K mg "_law_diary" s__law_diary) : Df P w K mg base 3 "_law_diary" ["_law_parts_here", "_law_days"] (sp_ldiary K) := by
  refine Df.of G sc__law_diary b__law_diary (fun vs H Q E h => ?_) (fun f cdv A outer s H vs Q E hr h => ?_)
  · obtain ⟨p, a, b, ds, hs, n, rfl, _⟩ := h
    rfl
  · obtain ⟨p, a, b, ds, hs, n, rfl, hp0, ha, hb, O, hn, q⟩ := h
    have o8 := O.eight
    refine ⟨_, PSs.nox (pss_cons (ps_par (i := 2) (j := 3) rfl sc__law_diary.nd rfl rfl (by decide) rfl rfl (pa_cons (pg D__law_first hr (pa_cons (pv 0) pa_nil)) (pa_cons (pe_lst pa_nil) pa_nil)) (by rfl))
      (pss_cons (ps_for PassesOwn.never rfl (pi_range1 (by rfl) Z.zrange (pa_cons (pv 1) pa_nil)) (pg_name (i := 4) sc__law_diary.nd rfl (by first | exact Or.inl rfl | exact Or.inr rfl)) (pss_one (ps_set (i := 3) sc__law_diary.nd rfl (by first | exact Or.inl rfl | exact Or.inr rfl) (pe_op op_cat (pv 3) (pg D__law_day hr (pa_cons (pv 2) pa_nil))))))
      (pss_one (ps_ret (pv 3))))), ?_⟩
    walk_at "g0"
    walk_at "go"
    refine ⟨p, a, b, ds, hs, rfl, hp0, ha, hb, O, fun h da hp rd hA H1 nh nrd nhA e1 D1 => ?_⟩
    walk_at "go"
    rename_i l2 H2 n2 e2 h2
    refine g_kForR1 ⟨by omega, by omega⟩ (fun i σ H' => ∃ (l : Addr) (zs : List V) (v4 : Option V), σ = [some (.ref p), some (.int (n : Int)), some (.ref h), some (.ref l), v4] ∧ Ex H H' ∧ H l = none ∧ l ≠ h ∧ l ≠ rd ∧ (∀ j, j < ds.length → l ≠ hA j) ∧ DG K H' h da hp rd hA ds.length (scAt ds hs i) ∧ H' l = some (.lst zs) ∧ Ent K H' zs (evt ds hs i))
      ⟨l2, [], _, rfl, e1.trans e2, fresh_back e1 n2, (D1.fresh n2).1, (D1.fresh n2).2.2.2.1, fun j hj => Ne.symm ((D1.fresh n2).2.2.2.2 j hj), D1.ex e2, h2, Ent.nil⟩ ?_ ?_
    · rintro i σ H3 hi ⟨l, zs, v4, rfl, e3, nl, y1, y2, y3, D3, hl, E3⟩
      walk_at "go"
      refine ⟨h, da, hp, rd, hA, ds.length, _, rfl, scAt_ok O i, D3, fun l' zs' H4 n4 f4 h4 E4 D4 => ?_⟩
      have hl4 := f4 _ _ y1 y2 y3 hl
      have e4 : Ex H H4 := fun b o hb => f4 b o (fun z => by rw [z, nh] at hb; cases hb) (fun z => by rw [z, nrd] at hb; cases hb) (fun j hj z => by rw [z, nhA j hj] at hb; cases hb) (e3 b o hb)
      have E34 := Ent.frm D3 f4 E3
      walk_at "go"
      have hlen := evt_len (ds := ds) (hs := hs) (i + 1)
      have hbig : (zs ++ zs').length ≤ 3200 := by
        rw [List.length_append, E3.1, E4.1, ← List.length_append]
        refine Nat.le_trans hlen ?_
        have h1 : ds.length * (i + 1) ≤ 8 * (i + 1) := Nat.mul_le_mul_right _ o8
        omega
      have hsz : (zs ++ zs').length ≤ sizeLine := Nat.le_trans hbig (by rw [sizeLine_eq]; decide)
      refine g_cat hl4 h4 (by first | exact hsz | (rw [List.length_append] at hsz; exact hsz)) fun l5 H5 n5 e5 h5 => ?_
      walk_at "go"
      have F := D4.fresh n5
      exact ⟨l5, _, _, rfl, e4.trans e5, fresh_back e4 n5, F.1, F.2.2.2.1, fun j hj => Ne.symm (F.2.2.2.2 j hj), D4.ex e5, h5, (E34.ex e5).appL (E4.ex e5)⟩
    · rintro σ H3 ⟨l, zs, v4, rfl, e3, nl, y1, y2, y3, D3, hl, E3⟩
      rw [Int.toNat_natCast] at E3
      walk_at "go"
      exact q l zs H3 nl e3 hl E3
end
end G48

namespace G48
open PySem PySem.Spec PyProof.Rows L2 Evl
abbrev N_law : List Str := ["_law_script", "_law_row", "_law_parts_here", "_law_count", "_law_ring", "_law_due", "_law_torn", "_law_entry", "_law_k", "_law_bad", "_law_live", "_law_early", "_law_part"]
theorem sc_law : FnScope N_law ["_law_script"] (defScope s_law) := ⟨rfl, rfl, rfl, by decide +kernel, rfl, by decide +kernel, by decide +kernel⟩
theorem b_law : BindL "law" "law" s_law ["_law_script"] := fun _ _ _ _ _ _ us hl => match us, hl with | [_], _ => rfl
end G48
--lib F
--lib Q
--lib P
--lib V
/-! the law k51 -/
namespace G48
open PySem PySem.Spec PyProof.Rows L2 Evl
open LamX (Tabs ExtN)
/-! the steps -/
local macro_rules | `(tactic| walk_at "as") => `(tactic| with_reducible assumption)
local macro_rules | `(tactic| walk_at "hp") => `(tactic| first
  | with_reducible assumption
  | ((with_reducible apply SqT.of); walk_at "as")
  | ((with_reducible apply SqL.of); walk_at "as")
  | ((with_reducible apply ex_at); (focus walk_at "as"); walk_at "hp")
  | ((with_reducible apply ex_t); (focus walk_at "as"); walk_at "hp")
  | ((with_reducible apply ex_l); (focus walk_at "as"); walk_at "hp")
  | ((with_reducible apply exb_ins); (focus walk_at "as"); (focus walk_at "hp"); walk_at "hp")
  | ((with_reducible apply exb_t); (focus walk_at "as"); (focus walk_at "hp"); walk_at "hp")
  | ((with_reducible apply exb_at); (focus walk_at "as"); (focus walk_at "ne"); walk_at "hp")
  | ((with_reducible apply exb_l); (focus walk_at "as"); (focus walk_at "ne"); walk_at "hp"))
local macro_rules | `(tactic| walk_at "ne") => `(tactic| first
  | with_reducible assumption
  | exact Ne.symm (by with_reducible assumption)
  | exact ne_of_none (by with_reducible assumption) (by with_reducible assumption)
  | exact Ne.symm (ne_of_none (by with_reducible assumption) (by with_reducible assumption)))
local macro_rules | `(tactic| walk_at "tr") => `(tactic| first
  | rfl
  | with_reducible assumption
  | exact decide_eq_true (by first | with_reducible assumption | omega)
  | exact decide_eq_false (by first | with_reducible assumption | omega)
  | (rw [Bool.not_eq_true']; exact decide_eq_false (by first | with_reducible assumption | omega))
  | (rw [Bool.not_eq_false']; exact decide_eq_true (by first | with_reducible assumption | omega)))
local macro_rules | `(tactic| walk_at "nn") => `(tactic| first | with_reducible assumption | (exact List.cons_ne_nil _ _))
local macro_rules | `(tactic| walk_at "sz") => `(tactic| first | (exact sz1000 (Nat.le_of_ble_eq_true rfl)) | (refine sz1000 ?_; simp only [List.length_map, List.length_cons, List.length_nil, List.length_append]; omega) | with_reducible assumption)
local macro_rules | `(tactic| walk_at "sl") => `(tactic| first | with_reducible assumption | (refine lt1000 ?_; simp only [List.length_map, List.length_cons, List.length_nil, List.length_append]; omega) | (refine lt1000 ?_; omega))
local macro_rules | `(tactic| walk_at "ix") => `(tactic| first | rfl | with_reducible assumption)
local macro_rules | `(tactic| walk_at "rg") => `(tactic| exact RgOk.of_le (by omega) (by omega) (by omega) (by omega))
local macro_rules | `(tactic| walk_at "sp") => `(tactic| fail "sp")
local macro_rules | `(tactic| walk_at "cl") => `(tactic| with_reducible assumption)
local macro_rules | `(tactic| walk_at "lk") => `(tactic| with_reducible assumption)
local macro_rules | `(tactic| walk_at "it") => `(tactic| first | rfl | with_reducible assumption | exact atI_nat (by with_reducible assumption))
local macro_rules | `(tactic| walk_at "g1") => `(tactic| first
  | (with_reducible apply g_var); (focus rfl)
  | with_reducible apply g_c
  | with_reducible apply g_seq
  | with_reducible apply g_asg
  | with_reducible apply gg_name
  | with_reducible apply g_op
  | with_reducible apply g_cons
  | with_reducible apply g_nil
  | with_reducible apply g_cb
  | with_reducible apply g_fld
  | ((with_reducible apply g_kFld); (focus walk_at "hp"); (focus walk_at "cl"); (focus walk_at "cl"); (focus walk_at "lk"))
  | with_reducible apply g_call
  | walk_at "sp"
  | with_reducible apply g_ret
  | with_reducible apply g_drop
  | with_reducible apply g_test
  | with_reducible apply g_B
  | with_reducible apply g_kTest
  | with_reducible apply g_ifS
  | with_reducible apply g_kIfST
  | with_reducible apply g_kIfSF
  | with_reducible apply g_add
  | with_reducible apply g_sub
  | with_reducible apply g_lt
  | with_reducible apply g_le
  | with_reducible apply g_gt
  | with_reducible apply g_ge
  | with_reducible apply g_eqI
  | with_reducible apply g_neI
  | ((with_reducible apply g_mod); (focus first | decide | omega))
  | ((with_reducible apply g_mul); (focus first | (left; constructor <;> omega) | (right; constructor <;> omega)))
  | ((with_reducible apply g_fdiv); (focus (constructor <;> omega)))
  | ((with_reducible apply g_ixT); (focus walk_at "hp"); (focus walk_at "it"))
  | ((with_reducible apply g_ixL); (focus walk_at "hp"); (focus walk_at "it"))
  | with_reducible apply g_and
  | with_reducible apply g_or
  | with_reducible apply g_not
  | with_reducible apply g_kNotT
  | with_reducible apply g_kNotF
  | with_reducible apply g_if
  | with_reducible apply g_kAndT
  | with_reducible apply g_kAndF
  | with_reducible apply g_kOrT
  | with_reducible apply g_kOrF
  | with_reducible apply g_kIfT
  | with_reducible apply g_kIfF
  | with_reducible apply g_next
  | with_reducible apply g_andV
  | with_reducible apply g_orV
  | with_reducible apply g_notV
  | with_reducible apply g_kNotV
  | with_reducible apply g_kAndVT
  | with_reducible apply g_kAndVF
  | with_reducible apply g_chain
  | with_reducible apply g_kChainT
  | with_reducible apply g_kChainF
  | with_reducible apply g_tup
  | with_reducible apply g_lst
  | ((with_reducible apply g_kT); (focus walk_at "sz"); intro _ _ _ _ _)
  | ((with_reducible apply g_kL); (focus walk_at "sz"); intro _ _ _ _ _)
  | with_reducible apply g_un
  | with_reducible apply g_neg
  | with_reducible apply g_meth
  | ((with_reducible apply g_kMeth); (focus walk_at "hp"); (focus walk_at "lk"))
  | with_reducible apply g_prop
  | ((with_reducible apply g_kProp); (focus walk_at "hp"))
  | with_reducible apply g_make
  | with_reducible apply g_par
  | with_reducible apply g_kPar
  | ((with_reducible apply g_lenLM); (focus walk_at "hp"))
  | ((with_reducible apply g_lenTM); (focus walk_at "hp"))
  | ((with_reducible apply g_lenL); (focus walk_at "hp"))
  | ((with_reducible apply g_lenT); (focus walk_at "hp"))
  | with_reducible apply g_int1
  | with_reducible apply g_max2
  | with_reducible apply g_min2
  | ((with_reducible apply g_listL); (focus walk_at "hp"); intro _ _ _ _ _)
  | ((with_reducible apply g_listT); (focus walk_at "hp"); intro _ _ _ _ _)
  | ((with_reducible apply g_tupL); (focus walk_at "hp"); intro _ _ _ _ _)
  | ((with_reducible apply g_sum); (focus walk_at "hp"))
  | with_reducible apply g_sfld
  | with_reducible apply g_sl
  | with_reducible apply g_nopart
  | with_reducible apply g_part
  | with_reducible apply g_kPart
  | with_reducible apply g_lstRg
  | with_reducible apply g_rg1
  | with_reducible apply g_kRg1
  | with_reducible apply g_bm
  | with_reducible apply gg_sub
  | ((with_reducible apply gg_tup); (focus walk_at "hp"); (focus rfl))
  | with_reducible apply gg_cons
  | with_reducible apply gg_nil
  | with_reducible apply g_forL
  | with_reducible apply g_forT
  | with_reducible apply g_forR1
  | with_reducible apply g_forR2
  | with_reducible apply g_forE
  | with_reducible apply g_forEL
  | ((with_reducible apply g_maxT); (focus walk_at "hp"); (focus walk_at "nn"))
  | ((with_reducible apply g_maxL); (focus walk_at "hp"); (focus walk_at "nn"))
  | ((with_reducible apply g_catA); (focus walk_at "hp"); (focus walk_at "hp"); (focus walk_at "sz"); intro _ _ _ _)
  | ((with_reducible apply g_slA); (focus walk_at "hp"); intro _ _ _ _)
  | ((with_reducible apply g_tupD); (focus walk_at "hp"); intro _ _ _ _ _)
  | ((with_reducible apply g_setL); (focus walk_at "hp"); (focus walk_at "ix"); intro _ _ _)
  | ((with_reducible apply g_append); (focus walk_at "hp"); (focus walk_at "sl"); intro _ _ _)
  | ((with_reducible apply g_aug); (focus rfl))
  | with_reducible apply g_ipI
  | with_reducible apply g_retN
  | with_reducible apply g_lcR1
  | with_reducible apply g_lcR2
  | with_reducible apply g_lcL
  | with_reducible apply g_lcU
  | with_reducible apply g_lcN
  | ((with_reducible apply g_kLcG); (focus rfl))
  | with_reducible apply g_yes
  | with_reducible apply g_kLcTT
  | with_reducible apply g_kLcTF
  | ((with_reducible apply g_kLcE); (focus walk_at "hp"); (focus walk_at "sl"); intro _ _ _)
  | ((with_reducible apply g_pow); (focus (constructor <;> (try constructor) <;> decide)))
  | ((with_reducible apply g_kLRg); (focus walk_at "rg"); intro _ _ _ _ _)
  | ((with_reducible apply g_cat); (focus walk_at "hp"); (focus walk_at "hp"); (focus walk_at "sz"); intro _ _ _ _ _)
  | ((with_reducible apply g_slL); (focus walk_at "hp"); intro _ _ _ _ _)
  | with_reducible apply g_bmT
  | with_reducible apply g_break
  | with_reducible apply g_cont)
local macro_rules | `(tactic| walk_at "g0") => `(tactic| try dsimp only [L2.cxOf, L2.Cx.nox, L2.Cx.wish])
local macro_rules | `(tactic| walk_at "yn") => `(tactic| first
  | ((with_reducible apply y_kIfS); (focus walk_at "tr"))
  | ((with_reducible apply n_kIfS); (focus walk_at "tr"))
  | ((with_reducible apply y_kOr); (focus walk_at "tr"))
  | ((with_reducible apply n_kOr); (focus walk_at "tr"))
  | ((with_reducible apply y_kAnd); (focus walk_at "tr"))
  | ((with_reducible apply n_kAnd); (focus walk_at "tr"))
  | ((with_reducible apply y_kNot); (focus walk_at "tr"))
  | ((with_reducible apply n_kNot); (focus walk_at "tr"))
  | ((with_reducible apply y_kIf); (focus walk_at "tr"))
  | ((with_reducible apply n_kIf); (focus walk_at "tr"))
  | ((with_reducible apply y_kAndV); (focus walk_at "tr"))
  | ((with_reducible apply n_kAndV); (focus walk_at "tr"))
  | ((with_reducible apply y_kOrV); (focus walk_at "tr"))
  | ((with_reducible apply n_kOrV); (focus walk_at "tr"))
  | ((with_reducible apply y_kChain); (focus walk_at "tr"))
  | ((with_reducible apply n_kChain); (focus walk_at "tr"))
  | ((with_reducible apply y_kLcT); (focus walk_at "tr"))
  | ((with_reducible apply n_kLcT); (focus walk_at "tr"))
  | ((with_reducible apply y_kWh); (focus walk_at "tr"))
  | ((with_reducible apply n_kWh); (focus walk_at "tr")))
local macro_rules | `(tactic| walk_at "go") => `(tactic| repeat (first | walk_at "g1" | walk_at "yn"))
local macro_rules | `(tactic| walk_at "hp") => `(tactic| first
  | ((with_reducible apply RingIn.ex); (focus walk_at "as"); walk_at "hp")
  | ((with_reducible apply RingAt.ex); (focus walk_at "as"); walk_at "hp")
  | ((with_reducible apply RingIn.exb); (focus walk_at "as"); (focus walk_at "hp"); walk_at "hp")
  | ((with_reducible apply RingAt.exb); (focus walk_at "as"); (focus walk_at "hp"); walk_at "hp")
  | ((with_reducible apply TupK.ex); (focus walk_at "as"); walk_at "hp")
  | ((with_reducible apply TupK.exb); (focus walk_at "as"); (focus walk_at "hp"); walk_at "hp"))
local macro_rules | `(tactic| walk_at "lk") => `(tactic| first | with_reducible exact rf_spans | with_reducible exact rf_heaps | with_reducible exact rf_total | with_reducible exact rf_nr | with_reducible exact rf_wd)
local macro_rules | `(tactic| walk_at "sp") => `(tactic| first
  | ((with_reducible apply g_isiTup); (focus walk_at "hp"))
  | ((with_reducible apply g_isiLst); (focus walk_at "hp"))
  | ((with_reducible apply g_isint); (focus omega); (focus omega))
  | ((with_reducible apply g_checkn); (focus omega); (focus omega))
  | ((with_reducible apply g_rbooks); (focus walk_at "hp"))
  | ((with_reducible apply g_rpace); (focus walk_at "hp"); intro _ _ _ _)
  | ((with_reducible apply g_rlen); (focus walk_at "hp"))
  | ((with_reducible apply g_rneed); (focus walk_at "hp"); (focus omega))
  | ((with_reducible apply g_rneedM); (focus walk_at "hp"))
  | ((with_reducible apply g_rwithM); (focus walk_at "hp"))
  | ((with_reducible apply g_rspans); (focus walk_at "hp"); (focus with_reducible assumption))
  | ((with_reducible apply g_rheaps); (focus walk_at "hp"); (focus with_reducible assumption))
  | ((with_reducible apply g_rtotal); (focus walk_at "hp"); (focus with_reducible assumption)))

local macro_rules | `(tactic| walk_at "sp") => `(tactic| first
  | ((with_reducible apply g_taken); (focus walk_at "hp"); (focus first | decide | omega); (focus first | decide | omega); intro _ _ _ _ _ _))
local macro_rules | `(tactic| walk_at "hp") => `(tactic| first
  | ((with_reducible apply DiceAt.ex); (focus walk_at "as"); walk_at "hp")
  | ((with_reducible apply exb_tD); (focus walk_at "as"); (focus walk_at "hp"); walk_at "hp")
  | ((with_reducible apply exb_insD); (focus walk_at "as"); (focus walk_at "hp"); walk_at "hp")
  | ((with_reducible apply RingIn.exD); (focus walk_at "as"); (focus walk_at "hp"); walk_at "hp")
  | ((with_reducible apply TupK.exD); (focus walk_at "as"); (focus walk_at "hp"); walk_at "hp"))

section
variable {P : Program} {w : World} {K : PySem.W.Frag} {mg : Str → Option Value} {base : Heap} {C SC LC : Addr}
theorem nxs_scAt {ds hs : List Int} : ∀ t, nxs ds.length (Sc.first ds hs) t = scAt ds hs t
  | 0 => rfl
  | t + 1 => by show (nxs ds.length (Sc.first ds hs) t).next _ = _; rw [nxs_scAt t]; rfl
theorem evs_evt {ds hs : List Int} : ∀ t, evs ds.length (Sc.first ds hs) t = evt ds hs t
  | 0 => rfl
  | t + 1 => by show evs ds.length (Sc.first ds hs) t ++ (nxs ds.length (Sc.first ds hs) t).ended _ = _; rw [evs_evt t, nxs_scAt t]; rfl
theorem evt_late {ds hs : List Int} {t : Nat} : ∀ {u : Nat}, t ≤ u → ∃ r, evt ds hs u = evt ds hs t ++ r ∧ ∀ e ∈ r, (t : Int) < e.1 := by
  intro u h
  induction h with
  | refl => exact ⟨[], by rw [List.append_nil], fun e he => by cases he⟩
  | @step m hm ih =>
    obtain ⟨r, e, hr⟩ := ih
    refine ⟨r ++ (scAt ds hs m).ended ds.length, by show evt ds hs m ++ _ = _; rw [e, List.append_assoc], fun x hx => ?_⟩
    rcases List.mem_append.mp hx with hx | hx
    · exact hr x hx
    · unfold Sc.ended at hx
      obtain ⟨k, _, rfl⟩ := List.mem_map.mp hx
      have := scAt_dayN (ds := ds) (hs := hs) m
      have : t ≤ m := hm
      dsimp only
      omega
/-- the entries of a diary by a day -/
theorem early_take {ds hs : List Int} {t u c : Nat} (h : t ≤ u) : ((evt ds hs u).take c).filter (fun e => decide (e.1 ≤ (t : Int))) = (evt ds hs t).take c := by
  obtain ⟨r, e, hr⟩ := evt_late (ds := ds) (hs := hs) h
  rw [e, List.take_append, List.filter_append]
  have h1 : ((evt ds hs t).take c).filter (fun e => decide (e.1 ≤ (t : Int))) = (evt ds hs t).take c := List.filter_eq_self.mpr fun x hx => decide_eq_true (evt_day t x (List.mem_of_mem_take hx)).2.2
  have h2 : (r.take (c - (evt ds hs t).length)).filter (fun e => decide (e.1 ≤ (t : Int))) = [] := List.filter_eq_nil_iff.mpr fun x hx => by
    have := hr x (List.mem_of_mem_take hx)
    rw [decide_eq_true_iff]
    omega
  rw [h1, h2, List.append_nil]
theorem dia_put {H : Hp} {zs : List V} {its : List (Option (List V))} {es : List (Int × Int × Int)} {k : Nat} {x : V} {o : Option (List V)} (dv : DiaV K H zs its) (fit : ∀ j, j < es.length → fitI es its j = true) (hk : k < its.length) (hx : EntS K H x o) :
    DiaV K H (zs.take k ++ [x] ++ zs.drop (k + 1)) (its.set k o) ∧ (∀ j, j < es.length → j ≠ k → fitI es (its.set k o) j = true) ∧ ∀ e, es[k]? = some e → fitI es (its.set k o) k = fitB e o := by
  rw [List.append_assoc, show zs.take k ++ ([x] ++ zs.drop (k + 1)) = zs.set k x by rw [List.set_eq_take_append_cons_drop, if_pos (by rw [dv.len]; exact hk)]; rfl]
  refine ⟨⟨by rw [List.length_set, List.length_set, dv.len], fun i y hy => ?_⟩, fun j hj hjk => ?_, fun e he => ?_⟩
  · rw [List.getElem?_set] at hy
    by_cases z : k = i
    · subst z
      rw [if_pos rfl, if_pos (by rw [dv.len]; exact hk)] at hy
      cases hy
      exact ⟨o, by rw [List.getElem?_set, if_pos rfl, if_pos hk], hx⟩
    · rw [if_neg z] at hy
      obtain ⟨o', h1, h2⟩ := dv.at_ i y hy
      exact ⟨o', by rw [List.getElem?_set, if_neg z]; exact h1, h2⟩
  · have := fit j hj
    unfold fitI at this ⊢
    rw [List.getElem?_set, if_neg (fun z => hjk z.symm)]
    exact this
  · exact fitI_at he (by rw [List.getElem?_set, if_pos rfl, if_pos hk])
theorem EntS.exb {H H' : Hp} {l : Addr} {ys : List V} {x : V} (e : Exb l H H') (hl : H l = some (.lst ys)) (hl' : ∃ us, H' l = some (.lst us)) : ∀ {o : Option (List V)}, EntS K H x o → EntS K H' x o
  | some _, ⟨p, h1, h2, h3⟩ => ⟨p, h1, exb_t e hl h2, h3⟩
  | none, .inl ⟨a, xs, h1, h2⟩ => by
    by_cases z : a = l
    · obtain ⟨us, hu⟩ := hl'
      exact .inl ⟨l, us, by rw [h1, z], SqL.of hu⟩
    · exact .inl ⟨a, xs, h1, exb_l e z h2⟩
  | none, .inr h => .inr h
theorem cut_drop {xs : List V} {k : Nat} : cutV xs (some ((k : Nat) + 1 : Int)) none = xs.drop (k + 1) := by
  rw [show ((k : Int) + 1) = ((k + 1 : Nat) : Int) by omega]
  unfold cutV
  rw [HT.sIx_none, HT.sIx_nat]
  by_cases z : k + 1 ≤ xs.length
  · rw [Nat.min_eq_left z, List.take_of_length_le (by rw [List.length_drop]; exact Nat.le_refl _)]
  · rw [Nat.min_eq_right (by omega), List.drop_of_length_le (Nat.le_refl _), List.drop_of_length_le (by omega), List.take_nil]
def sp_law (K : PySem.W.Frag) : Sp := fun vs H Q _ => ∃ (a : Addr) (ns : List Int), vs = [.ref a] ∧ Scr K H a (ns.map V.int) ∧ ns.length ≤ 63 ∧ H (lamT K) = some (.tbl #[]) ∧ ∀ H', Q (.bl true) H'
theorem sp_law_len {K : PySem.W.Frag} {vs : List V} {H : Hp} {Q : VK} {E : XK} (h : sp_law K vs H Q E) : vs.length = ["_law_script"].length := by
  obtain ⟨a, ns, rfl, _⟩ := h
  rfl
set_option maxHeartbeats 16000000 in
theorem bd_law (Z : Blt mg) (R : RingC K C) (RL : LiveC K LC) (Err_DiaryError : ErrN K (He.ga K "DiaryError") erNm 6 5 ["entry"]) (G__law_raised : GFun K mg "_law_raised" s__law_raised) (T__law_raised : GivesL P w K mg base N__law_raised "_law_raised" s__law_raised "_law_work" 10 (TRaiseV K)) (D__law_taken : Df P w K mg base 1 "_law_taken" ["_law_row", "_law_many"] (sp_taken K)) (D__law_parts : Df P w K mg base 3 "_law_parts" ["_law_row", "_law_most"] (sp_parts K)) (I_Ring : If P w K mg base "Ring" C 3 ["self", "days", "starts"] (sp_Ring_init K C))
    (D__law_diary : Df P w K mg base 3 "_law_diary" ["_law_parts_here", "_law_days"] (sp_ldiary K)) (DG_diary_of : Gf P w K mg base 5 "diary_of" ["ring", "count"] (sp_diary K C)) (D_mended : Df P w K mg base 9 "mended" ["ring", "diary"] (sp_mended K C)) (I_LiveRing : If P w K mg base "LiveRing" LC 5 ["self", "ring"] (sp_Live_init K C SC LC)) (M_LiveRing_pass_days : Mf P w K mg base LC 5 "pass_days" ["self", "count"] (sp_pass K C SC LC)) : BodyT P w K mg base N_law s_law 12 (sp_law K) := by
  intro f A outer s H vs Q E TB hr h
  · obtain ⟨sc, ns, rfl, hsc, hns, ht0, q⟩ := h
    have cl_Ring := R.cl
    have cl_LiveRing := RL.cl
    refine ⟨_, (pss_cons (ps_set (i := 1) sc_law.nd rfl (by first | exact Or.inl rfl | exact Or.inr rfl) (pe_lst (pa_cons (pv 0) (pa_cons pe_int (pa_cons pe_int (pa_cons pe_int pa_nil))))))
      (pss_cons (ps_par (i := 2) (j := 3) rfl sc_law.nd rfl rfl (by decide) rfl rfl (pa_cons (pg D__law_parts hr (pa_cons (pv 1) (pa_cons pe_int pa_nil))) (pa_cons (pg D__law_taken hr (pa_cons (pv 1) (pa_cons pe_int pa_nil))) pa_nil)) (by rfl))
      (pss_cons (ps_set (i := 4) sc_law.nd rfl (by first | exact Or.inl rfl | exact Or.inr rfl) (pk I_Ring hr (pa_cons (pe_ix ix_tup (pv 2) pe_int (fun _ _ => rfl)) (pa_cons (pe_ix ix_tup (pv 2) pe_int (fun _ _ => rfl)) pa_nil))))
      (pss_cons (ps_set (i := 5) sc_law.nd rfl (by first | exact Or.inl rfl | exact Or.inr rfl) (pe_slice sl_list (pg D__law_diary hr (pa_cons (pv 2) (pa_cons pe_int pa_nil))) po_none (po_some (pv 3))))
      (pss_cons (ps_set (i := 3) sc_law.nd rfl (by first | exact Or.inl rfl | exact Or.inr rfl) (pe_callB c_len (by rfl) Z.zlen PySem.boot_len (pa_cons (pv 5) pa_nil)))
      (pss_cons (ps_if (pt_cmpR (op_neD hr.units) (pgL DG_diary_of hr (pa_cons (pv 4) (pa_cons (pv 3) pa_nil)) Z.zlist) (pv 5) (nomark _)) (pss_one (ps_ret pe_bl)) pss_nil)
      (pss_cons (ps_set (i := 6) sc_law.nd rfl (by first | exact Or.inl rfl | exact Or.inr rfl) (pe_lst pa_nil))
      (pss_cons (ps_for PassesOwn.never rfl (pi_list (pv 5)) (pg_name (i := 7) sc_law.nd rfl (by first | exact Or.inl rfl | exact Or.inr rfl)) (pss_one (ps_expr (pe_bm PySem.F.plainAttrs_list PySem.F.slot_list_append PySem.F.type_list_append mt_append (pv 6) (pa_cons (pe_callTy c_tuple_of (by rfl) Z.ztuple (by decide +kernel) (pa_cons (pe_lc (own := [("_law_part", 12)]) rfl sc_law.nd (pi_tup (pv 7)) (blkOk_by (N := N_law) (sc := defScope s_law) (by decide +kernel)) (fun _ _ _ _ _ => (pg_name (i := 12) sc_law.nd rfl (by first | exact Or.inl rfl | exact Or.inr rfl))) (fun _ _ _ _ _ => pts_nil) (fun _ _ _ _ _ => (pe_ifExp (pt_cmpR op_eq (pg D__law_taken hr (pa_cons (pv 1) (pa_cons pe_int pa_nil))) pe_int (nomark _)) pe_non (pv 12)))) pa_nil)) pa_nil)))))
      (pss_cons (ps_if (pt_cmpR (op_neD hr.units) (pg D_mended hr (pa_cons (pv 4) (pa_cons (pv 6) pa_nil))) (pv 5) (nomark _)) (pss_one (ps_ret pe_bl)) pss_nil)
      (pss_cons (ps_if (pt_cmpR op_gt (pv 3) pe_int (nomark _)) (pss_cons (ps_set (i := 8) sc_law.nd rfl (by first | exact Or.inl rfl | exact Or.inr rfl) (pg D__law_taken hr (pa_cons (pv 1) (pa_cons (pv 3) pa_nil))))
          (pss_cons (ps_set (i := 9) sc_law.nd rfl (by first | exact Or.inl rfl | exact Or.inr rfl) (pe_lst (pa_cons (pe_slice sl_tupA (pe_ix ix_list (pv 5) (pv 8) (fun _ _ => rfl)) po_none (po_some pe_int)) (pa_cons (pe_callTy c_list_of (by rfl) Z.zlist (by decide +kernel) (pa_cons (pe_ix ix_list (pv 5) (pv 8) (fun _ _ => rfl)) pa_nil)) (pa_cons (pe_tup (pa_cons (pe_ix ix_tup (pe_ix ix_list (pv 5) (pv 8) (fun _ _ => rfl)) pe_int (fun _ _ => rfl)) (pa_cons (pe_ix ix_tup (pe_ix ix_list (pv 5) (pv 8) (fun _ _ => rfl)) pe_int (fun _ _ => rfl)) (pa_cons (pe_op op_add (pe_ix ix_tup (pe_ix ix_list (pv 5) (pv 8) (fun _ _ => rfl)) pe_int (fun _ _ => rfl)) pe_int) pa_nil)))) (pa_cons (pe_tup (pa_cons (pe_op op_add (pe_ix ix_tup (pe_ix ix_list (pv 5) (pv 8) (fun _ _ => rfl)) pe_int (fun _ _ => rfl)) pe_int) (pa_cons pe_non (pa_cons pe_non pa_nil)))) (pa_cons pe_int (pa_cons pe_non pa_nil))))))))
          (pss_one (ps_if (pt_cmpR (op_neD hr.units) (pe_toldL0 (T := lamTs K) TB rfl lamTs_m lamTs_u hr G__law_raised sc__law_raised b__law_raised T__law_raised rfl (.inl rfl) (lamS_of (N := N_law) (sc := defScope s_law) (by decide +kernel)) (lamB0 fun _ _ _ _ _ _ _ _ => rfl) (fun A outer s H E f c' hr => (pg D_mended hr (pa_cons (pv 4) (pa_cons (pe_op op_cat (pe_op op_cat (pe_slice (sl_listK K) (pv 6) po_none (po_some (pv 8))) (pe_lst (pa_cons (pe_ix (ix_listK K) (pv 9) (pg D__law_taken hr (pa_cons (pv 1) (pa_cons pe_int pa_nil))) (fun _ _ => rfl)) pa_nil))) (pe_slice (sl_listK K) (pv 6) (po_some (pe_op op_add (pv 8) pe_int)) po_none)) pa_nil)) (passes_call (takes_of rfl rfl rfl rfl) (fun _ _ _ _ h => h))))) (pe_tup (pa_cons pe_str (pa_cons (pv 8) pa_nil))) (nomark _)) (pss_one (ps_ret pe_bl)) pss_nil)))) pss_nil)
      (pss_cons (ps_set (i := 10) sc_law.nd rfl (by first | exact Or.inl rfl | exact Or.inr rfl) (pk I_LiveRing hr (pa_cons (pv 4) pa_nil)))
      (pss_cons (ps_setLc (i := 11) (own := [("_law_entry", 7)]) rfl sc_law.nd rfl rfl (sw_true rfl rfl rfl (by decide +kernel)) (pi_list (pv 5)) (blkOk_by (N := N_law) (sc := defScope s_law) (by decide +kernel)) (fun _ _ _ _ _ => (pg_name (i := 7) sc_law.nd rfl (by first | exact Or.inl rfl | exact Or.inr rfl))) (fun _ _ _ _ _ => (pts_one (pt_cmpR op_le (pe_ix (ix_tupK K) (pv 7) pe_int (fun _ _ => rfl)) pe_int (nomark _)))) (fun _ _ _ _ _ => (pv 7)))
      (pss_one (ps_ret (pe_and (pe_cmpR (op_eqD hr.units) (pm (pv 10) cl_LiveRing M_LiveRing_pass_days hr (pa_cons pe_int pa_nil)) (pe_lst pa_nil) (nomark _)) (pe_one (pe_cmpR (op_eqD hr.units) (pe_slice sl_list (pm (pv 10) cl_LiveRing M_LiveRing_pass_days hr (pa_cons pe_int pa_nil)) po_none (po_some (pe_callB c_len (by rfl) Z.zlen PySem.boot_len (pa_cons (pv 11) pa_nil)))) (pv 11) (nomark _)))))))))))))))))), ?_⟩
    walk_at "g0"
    walk_at "go"
    rename_i d H1 nd e1 hd
    have T1 := (lamTs_0 ht0).ext e1
    have D1 : DiceAt K H1 d := ⟨sc, ns, 0, 0, 0, hd, hsc.ex e1, hns, by decide, by decide, by decide⟩
    clear hd hsc e1 ht0 nd
    refine ⟨d, 6, rfl, D1, by decide, fun p a b ds hs H3 np e3 D3 hp ta tb O hlm => ?_⟩
    have T3 : Tabs (lamTs K) H3 := tabs_exD e3 D1 T1
    have sa := ta.sq (K := K)
    have sb := tb.sq (K := K)
    walk_at "go"
    rename_i cn H4 c0 c1 e4 D4
    obtain ⟨cnt, rfl⟩ : ∃ cnt : Nat, cn = (cnt : Int) := ⟨cn.toNat, by omega⟩
    have T4 : Tabs (lamTs K) H4 := tabs_exD e4 D3 T3
    have hp4 := exb_tD e4 D3 (SqT.of (K := K) hp)
    have sa4 := exb_tD e4 D3 sa
    have sb4 := exb_tD e4 D3 sb
    have hcnt : cnt < 40 := by omega
    clear c0 c1 e4 T3 D3 hp ta tb sa sb e3 T1 D1 np
    refine g_mkRing sa4 sb4 O fun r H5 nr e5 RI5 => ?_
    have hp5 := ex_t e5 hp4
    have sa5 := ex_t e5 sa4
    have sb5 := ex_t e5 sb4
    walk_at "go"
    refine ⟨p, a, b, ds, hs, 200, rfl, hp5, sa5, sb5, O, by decide, fun l6 zs6 H6 n6 e6 h6 E6 => ?_⟩
    walk_at "go"
    rename_i l7 H7 n7 e7 h7
    rw [cut_take] at h7
    have E7 := (E6.ex e7).take cnt
    have T7 := ((T4.ext e5).ext e6).ext e7
    have D7 := ((D4.ex e5).ex e6).ex e7
    have RI7 := (RI5.ex e6).ex e7
    obtain ⟨zs, hzs⟩ : ∃ zs, zs = zs6.take cnt := ⟨_, rfl⟩
    obtain ⟨es, hes⟩ : ∃ es, es = (evt ds hs 200).take cnt := ⟨_, rfl⟩
    rw [← hzs] at h7 E7
    rw [← hes] at E7
    have n7d : l7 ≠ d := by
      obtain ⟨_, hd⟩ := ((D4.ex e5).ex e6).lst
      exact Ne.symm (ne_of_none hd n7)
    have hel : es.length ≤ 40 := by rw [hes, List.length_take]; omega
    have dia : Diary ds hs es.length es := ⟨200, by rw [hes, List.length_take]; omega, by
      rw [hes, List.length_take, List.take_eq_take_iff]
      omega⟩
    have hzl := E7.1
    clear h6 e6 n6 e7 n7 E6 RI5 hp4 hp5 sa4 sa5 sb4 sb5 T4 D4 e5 nr
    rw [show ((cutV zs6 none (some (cnt : Int))).length : Int) = (es.length : Int) by rw [cut_take, ← hzs, hzl]]
    walk_at "go"
    refine g_listG ?_
    walk_at "go"
    refine ⟨r, a, b, ds, hs, es.length, rfl, RI7, by omega, fun H8 ys fs e8 E8 Y8 => g_kLG fun l9 H9 n9 e9 h9 => ?_⟩
    have e79 := e8.trans e9
    have eu := Y8.uni dia
    rw [eu] at E8
    walk_at "go"
    refine g_neEnt (SqL.of h9) (E8.ex e9) (SqL.of (e79 _ _ h7)) (E7.ex e79) ?_
    walk_at "go"
    rename_i lt H10 n10 e10 h10
    have e710 := e79.trans e10
    have D10 := D7.ex e710
    have T10 := T7.ext e710
    have RI10 := RI7.ex e710
    have E10 := E7.ex e710
    have h710 := e710 _ _ h7
    have nlt : lt ≠ d := by
      obtain ⟨_, hd⟩ := (D7.ex e79).lst
      exact Ne.symm (ne_of_none hd n10)
    have nl7 : l7 ≠ lt := ne_of_none (e79 _ _ h7) n10
    have hN10 : H7 lt = none := fresh_back e79 n10
    have hlt10 := h10
    clear h10 n10 e10 E8 Y8 eu h9 e9 n9 e79 e8
    refine g_kForL (SqL.of h710) (fun i σ H' => ∃ (ys : List V) (v7 v8 v9 v10 v11 v12 : Option V), σ = [some (.ref sc), some (.ref d), some (.ref p), some (.int (es.length : Nat)), some (.ref r), some (.ref l7), some (.ref lt), v7, v8, v9, v10, v11, v12] ∧ Exb d H7 H' ∧ DiceAt K H' d ∧ H' lt = some (.lst ys) ∧ ys.length = i ∧ ∀ (j : Nat) (e : Int × Int × Int), j < i → es[j]? = some e → ∃ (t : Addr) (ws : List V), ys[j]? = some (.ref t) ∧ SqT K H' t ws ∧ TornW e ws)
      ⟨[], _, _, _, _, _, _, rfl, Exb.of e710, D10, hlt10, rfl, fun j e hj => absurd hj (Nat.not_lt_zero j)⟩ (fun i σ H' _ hP => by
        obtain ⟨_, _, _, _, _, _, _, _, e, _⟩ := hP
        exact SqL.of (e _ _ n7d h7)) ?_ ?_
    · rintro i x σ H11 hx ⟨ys, v7, v8, v9, v10, v11, v12, rfl, e11, D11, hlt11, hyl, hys⟩
      have hi := (List.getElem?_eq_some_iff.mp hx).1
      obtain ⟨e, he⟩ : ∃ e, es[i]? = some e := ⟨es[i]'(by rw [hzl] at hi; exact hi), List.getElem?_eq_getElem (by rw [hzl] at hi; exact hi)⟩
      obtain ⟨pe, hp1, hp2⟩ := E7.2 i e he
      rw [hx] at hp1
      cases hp1
      have hp3 := exb_tD e11 D7 hp2
      walk_at "go"
      refine g_kBM_list (SqL.of hlt11) ?_
      walk_at "go"
      refine g_lcU ?_
      walk_at "go"
      refine g_kLcU (xs := (eL e).map V.int) hp3 (fun A j H' => ∃ ws : List V, Exb d H11 H' ∧ DiceAt K H' d ∧ H' A = some (.lst ws) ∧ ws.length = j ∧ ∀ (k : Nat) (v : V) (n : Int), ws[k]? = some v → (eL e)[k]? = some n → v = .non ∨ v = .int n)
        (fun A H12 nA e12 hA => ⟨[], Exb.of e12, D11.ex e12, hA, rfl, fun k v n h => by cases h⟩) (fun A j H' nA _ hP => by
          obtain ⟨ws, e12, _⟩ := hP
          exact exb_tD e12 D11 hp3) ?_ ?_
      · rintro A j x H12 nA hx' ⟨ws, e12, D12, hA, hwl, hws⟩
        have hAd : A ≠ d := by
          obtain ⟨_, hd⟩ := D11.lst
          exact Ne.symm (ne_of_none hd nA)
        obtain ⟨n, hn, rfl⟩ : ∃ n, (eL e)[j]? = some n ∧ x = .int n := by
          rw [List.getElem?_map] at hx'
          obtain ⟨n, h1, h2⟩ := Option.map_eq_some_iff.mp hx'
          exact ⟨n, h1, h2.symm⟩
        walk_at "go"
        rename_i k1 H13 k10 k11 e13 D13
        have hA13 := e13 _ _ hAd hA
        have fin : ∀ v : V, v = .non ∨ v = .int n → kLcE A (fun H' => ∃ ws : List V, Exb d H11 H' ∧ DiceAt K H' d ∧ H' A = some (.lst ws) ∧ ws.length = j + 1 ∧ ∀ (k : Nat) (v : V) (n : Int), ws[k]? = some v → (eL e)[k]? = some n → v = .non ∨ v = .int n) v H13 := fun v hv => by
          refine g_kLcE hA13 (lt1000 ?_) fun H14 e14 h14 => ⟨ws ++ [v], ?_, D13.exb e14 (Ne.symm hAd) hA13, h14, by rw [List.length_append, hwl]; rfl, fun k v' n' h1 h2 => ?_⟩
          · have := (List.getElem?_eq_some_iff.mp hn).1
            have : (eL e).length = 3 := rfl
            omega
          · exact Exb.ex2 nA (e12.trans e13) e14
          · by_cases z : k < ws.length
            · rw [List.getElem?_append_left z] at h1
              exact hws k v' n' h1 h2
            · rw [List.getElem?_append_right (by omega)] at h1
              have hk : k - ws.length < 1 := (List.getElem?_eq_some_iff.mp h1).1
              have : k = j := by omega
              subst this
              rw [show k - ws.length = 0 by omega] at h1
              cases h1
              rw [hn] at h2
              cases h2
              exact hv
        refine g_kIf (fun _ => ?_) fun _ => ?_
        · walk_at "go"
          exact fin _ (.inl rfl)
        · walk_at "go"
          exact fin _ (.inr rfl)
      · rintro A H12 nA ⟨ws, e12, D12, hA, hwl, hws⟩
        have hAd : A ≠ d := by
          obtain ⟨_, hd⟩ := D11.lst
          exact Ne.symm (ne_of_none hd nA)
        have hlt12 := e12 _ _ nlt hlt11
        walk_at "go"
        rename_i t H13 nt e13 ht H14 e14 h14
        have hlt13 := e13 _ _ hlt12
        refine ⟨ys ++ [.ref t], _, _, _, _, _, _, rfl, Exb.ex2 hN10 (e11.trans (e12.trans (Exb.of e13))) e14, (D12.ex e13).exb e14 (Ne.symm nlt) hlt13, h14, by rw [List.length_append, hyl]; rfl, fun j e' hj he' => ?_⟩
        by_cases z : j < ys.length
        · obtain ⟨t', ws', q1, q2, q3⟩ := hys j e' (by omega) he'
          exact ⟨t', ws', by rw [List.getElem?_append_left z]; exact q1, exb_t e14 hlt13 (ex_t e13 (exb_tD e12 D11 q2)), q3⟩
        · have : j = i := by omega
          subst this
          rw [he] at he'
          cases he'
          exact ⟨t, ws, by rw [List.getElem?_append_right (by omega), hyl, Nat.sub_self]; rfl, exb_t e14 hlt13 ht.sq, hwl, hws⟩
    · rintro σ H11 ⟨tv, v7, v8, v9, v10, v11, v12, rfl, e11, D11, hlt11, tl11, ht11⟩
      rw [hzl] at tl11 ht11
      obtain ⟨_, hd7⟩ := D7.lst
      have RI11 := RI7.exb e11 hd7
      have E11 := E7.exb e11 hd7
      have h711 := e11 _ _ n7d h7
      have T11 := tabs_exD e11 D7 T7
      obtain ⟨its, il, hit⟩ := list_choice (R := fun i (o : Option (List V)) => ∃ (t' : Addr) (ws : List V) (e : Int × Int × Int), tv[i]? = some (.ref t') ∧ es[i]? = some e ∧ o = some ws ∧ SqT K H11 t' ws ∧ ws.length = 3 ∧ fitB e (some ws) = true ∧ ∀ v ∈ ws, ∀ H', Pl K H' v) (n := es.length) fun i hi => by
        obtain ⟨e, he⟩ : ∃ e, es[i]? = some e := ⟨_, List.getElem?_eq_getElem hi⟩
        obtain ⟨t', ws, h1, h2, h3⟩ := ht11 i e hi he
        obtain ⟨f1, f2⟩ := torn_fit h3
        exact ⟨some ws, t', ws, e, h1, he, rfl, h2, h3.1, f1, f2⟩
      have dv : ∀ H', (∀ (p : Addr) (xs : List V), SqT K H11 p xs → SqT K H' p xs) → DiaV K H' tv its := fun H' tr => ⟨by rw [tl11, il], fun i x hx => by
        have hi := (List.getElem?_eq_some_iff.mp hx).1
        rw [tl11] at hi
        obtain ⟨t', ws, e, h1, h2, h3, h4, h5, h6, h7⟩ := hit i _ (List.getElem?_eq_getElem (by rw [il]; exact hi))
        refine ⟨_, List.getElem?_eq_getElem (by rw [il]; exact hi), ?_⟩
        rw [hx] at h1
        cases h1
        rw [h3]
        exact ⟨t', rfl, tr _ _ h4, by omega, h7⟩⟩
      have fit : ∀ j, j < es.length → fitI es its j = true := fun j hj => by
        obtain ⟨t', ws, e, h1, h2, h3, h4, h5, h6, h7⟩ := hit j _ (List.getElem?_eq_getElem (by rw [il]; exact hj))
        rw [fitI_at h2 (List.getElem?_eq_getElem (by rw [il]; exact hj)), h3]
        exact h6
      have hmin : min its.length 500 = es.length := by rw [il]; omega
      clear hit ht11 hlt10 h710 E10 RI10 T10 D10 e710
      walk_at "go"
      refine ⟨r, a, b, .ref lt, ds, hs, rfl, RI11, .inr ⟨lt, tv, its, es, rfl, SqL.of hlt11, dv H11 (fun _ _ h => h), by omega, by rw [hmin]; exact dia, .inr ⟨fit, .inl ⟨by omega, fun l12 ms H12 n12 e12 h12 E12 => ?_⟩⟩⟩⟩
      walk_at "go"
      refine g_neEnt (SqL.of h12) E12 (SqL.of (e12 _ _ h711)) (E11.ex e12) ?_
      have RI12 := RI11.ex e12
      have h712 := e12 _ _ h711
      have E12' := E11.ex e12
      have hlt12 := e12 _ _ hlt11
      have D12 := D11.ex e12
      have T12 := T11.ext e12
      have tr12 : ∀ (p : Addr) (xs : List V), SqT K H11 p xs → SqT K H12 p xs := fun _ _ h => ex_t e12 h
      clear E12 h12 e12 n12 RI11 E11 h711 T11 D11 hlt11 e11
      walk_at "go"
      refine g_kIfSM (fun σ H' => ∃ v8 v9 : Option V, σ = [some (.ref sc), some (.ref d), some (.ref p), some (.int (es.length : Nat)), some (.ref r), some (.ref l7), some (.ref lt), v7, v8, v9, v10, v11, v12] ∧ RingIn K C H' r a b ds hs ∧ H' l7 = some (.lst zs) ∧ Ent K H' zs es) (fun hc N hN => ?_) (fun hc N hN => ?_) ?_
      · have hc := of_decide_eq_true hc
        walk_at "go"
        rename_i kk H13 k0 k1 e13 D13
        obtain ⟨k, rfl⟩ : ∃ k : Nat, kk = (k : Int) := ⟨kk.toNat, by omega⟩
        have hk : k < es.length := by omega
        obtain ⟨_, hd12⟩ := D12.lst
        have h713 := e13 _ _ n7d h712
        have hlt13 := e13 _ _ nlt hlt12
        have E13 := E12'.exb e13 hd12
        have RI13 := RI12.exb e13 hd12
        have T13 := tabs_exD e13 D12 T12
        have tr13 : ∀ (p : Addr) (xs : List V), SqT K H11 p xs → SqT K H13 p xs := fun _ _ h => exb_t e13 hd12 (tr12 _ _ h)
        obtain ⟨e, he⟩ : ∃ e, es[k]? = some e := ⟨_, List.getElem?_eq_getElem hk⟩
        obtain ⟨pe, hz, hpe⟩ := E13.2 k e he
        clear k0 k1 e13 RI12 h712 E12' hlt12 D12 T12 tr12
        walk_at "go"
        rename_i t0 H14 e14 h14 t1 H15 n15 e15 h15 t2 H16 n16 e16 h16 t3 H17 n17 e17 h17 lb H18 n18 e18 h18
        have e1418 := ((e15.trans e16).trans e17).trans e18
        have e1318 := e14.trans e1418
        refine g_toldL (T13.ext e1318) fun H19 e19 T19 => ?_
        have hlb := exn_lst e19 h18
        have hlt19 := exn_lst e19 (e1318 _ _ hlt13)
        have RI19 := (RI13.ex e1318).exn e19
        have D19 := (D13.ex e1318).exn e19
        have h719 := exn_lst e19 (e1318 _ _ h713)
        have E19 := (E13.ex e1318).exn e19
        have bad : ∀ (j : Nat) (x : V), [V.ref t0, V.ref t1, V.ref t2, V.ref t3, V.int 5, V.non][j]? = some x → ∃ o, EntS K H19 x o ∧ fitB e o = false := by
          intro j x hx
          have s0 := exn_t e19 (ex_t e1418 h14)
          have s1 := exn_lst e19 (e18 _ _ (e17 _ _ (e16 _ _ h15)))
          have s2 := exn_t e19 (ex_t (e17.trans e18) (SqT.of (K := K) h16))
          have s3 := exn_t e19 (ex_t e18 (SqT.of (K := K) h17))
          rcases j with _ | _ | _ | _ | _ | _ | j
          · cases hx
            exact ⟨some [.int e.1, .int e.2.1], ⟨t0, rfl, s0, (show 2 ≤ 50 by decide), fun v hv H' => by
              simp only [List.mem_cons, List.not_mem_nil, or_false] at hv
              rcases hv with rfl | rfl <;> exact .int _⟩, rfl⟩
          · cases hx
            exact ⟨none, .inl ⟨t1, _, rfl, SqL.of s1⟩, rfl⟩
          · cases hx
            refine ⟨some [.int e.1, .int e.2.1, .int (e.2.2 + 1)], ⟨t2, rfl, s2, (show 3 ≤ 50 by decide), fun v hv H' => by
              simp only [List.mem_cons, List.not_mem_nil, or_false] at hv
              rcases hv with rfl | rfl | rfl <;> exact .int _⟩, ?_⟩
            show (_ && (_ && (decide (e.2.2 ≤ e.2.2 + 1) && decide (e.2.2 + 1 ≤ e.2.2)))) = false
            rw [decide_eq_false (by omega : ¬ e.2.2 + 1 ≤ e.2.2), Bool.and_false, Bool.and_false, Bool.and_false]
          · cases hx
            refine ⟨some [.int (e.1 + 1), .non, .non], ⟨t3, rfl, s3, (show 3 ≤ 50 by decide), fun v hv H' => by
              simp only [List.mem_cons, List.not_mem_nil, or_false] at hv
              rcases hv with rfl | rfl | rfl
              · exact .int _
              · exact .non
              · exact .non⟩, ?_⟩
            show ((decide (e.1 ≤ e.1 + 1) && decide (e.1 + 1 ≤ e.1)) && _) = false
            rw [decide_eq_false (by omega : ¬ e.1 + 1 ≤ e.1), Bool.and_false, Bool.false_and]
          · cases hx
            exact ⟨none, .inr ⟨.type "int", fun _ => .base (.int 5), kit_ty (by decide +kernel)⟩, rfl⟩
          · cases hx
            exact ⟨none, .inr ⟨.type "NoneType", fun _ => .base .non, kit_ty (by decide +kernel)⟩, rfl⟩
          · cases hx
        unfold TRaiseV
        walk_at "go"
        rename_i l20 H20 n20 e20 h20 jj H21 j0 j1 e21 D21
        rw [cut_take] at h20
        obtain ⟨j, rfl⟩ : ∃ j : Nat, jj = (j : Int) := ⟨jj.toNat, by omega⟩
        obtain ⟨x, hx⟩ : ∃ x, [V.ref t0, V.ref t1, V.ref t2, V.ref t3, V.int 5, V.non][j]? = some x := ⟨_, List.getElem?_eq_getElem (show j < 6 by omega)⟩
        obtain ⟨o, hxo, hfo⟩ := bad j x hx
        obtain ⟨zd, hd20⟩ := (D19.ex e20).lst
        have nlb : lb ≠ d := by
          obtain ⟨_, hd⟩ := (D13.ex (e14.trans ((e15.trans e16).trans e17))).lst
          exact Ne.symm (ne_of_none hd n18)
        have n20d : l20 ≠ d := by
          obtain ⟨_, hd⟩ := D19.lst
          exact Ne.symm (ne_of_none hd n20)
        have hlb21 := e21 _ _ nlb (e20 _ _ hlb)
        have h2021 := e21 _ _ n20d h20
        have hlt21 := e21 _ _ nlt (e20 _ _ hlt19)
        have RI21 := (RI19.ex e20).exb e21 hd20
        have h721 := e21 _ _ n7d (e20 _ _ h719)
        have E21 := (E19.ex e20).exb e21 hd20
        have tr21 : ∀ (p : Addr) (xs : List V), SqT K H11 p xs → SqT K H21 p xs := fun _ _ h => exb_t e21 hd20 (ex_t e20 (exn_t e19 (ex_t e1318 (tr13 _ _ h))))
        have hxo := (hxo.ex e20).exb e21 hd20 D21.lst
        clear bad E19 h719 D19 RI19 hlt19 hlb T19 h18 e18 n18 h17 e17 n17 h16 e16 n16 h15 e15 n15 h14 e14 e1318 e1418 RI13 E13 hpe T13 h713 hlt13 D13 tr13 e19 h20 n20 e20 e21 hd20 j0 j1
        refine g_ixL (k := (j : Int)) (SqL.of hlb21) (atI_nat hx) ?_
        walk_at "go"
        rename_i l22 H22 n22 e22 h22
        refine g_cat (e22 _ _ h2021) h22 (sz1000 (by rw [List.length_take]; show _ + 1 ≤ 1000; omega)) fun l23 H23 n23 e23 h23 => ?_
        have e2123 := e22.trans e23
        have hlt23 := e2123 _ _ hlt21
        walk_at "go"
        rename_i l24 H24 n24 e24 h24
        rw [cut_drop] at h24
        refine g_cat (e24 _ _ h23) h24 (sz1000 (by rw [List.length_append, List.length_take, List.length_drop]; show _ + 1 + _ ≤ 1000; omega)) fun l25 H25 n25 e25 h25 => ?_
        walk_at "go"
        have e2125 := (e2123.trans e24).trans e25
        obtain ⟨dv25, ft1, ft2⟩ := dia_put (dv H25 fun _ _ h => ex_t e2125 (tr21 _ _ h)) fit (by rw [il]; exact hk) (hxo.ex e2125)
        have RI25 := RI21.ex e2125
        refine ⟨r, a, b, .ref l25, ds, hs, rfl, RI25, .inr ⟨l25, _, its.set k o, es, rfl, SqL.of h25, dv25, by rw [List.length_set]; omega, by rw [List.length_set, hmin]; exact dia, .inl ⟨k, hk, fun j hj => ft1 j (by omega) (by omega), (ft2 e he).trans hfo, fun H27 e27 dd ndd => .inr ⟨He.ga K "DiaryError", dd, .int (k : Nat), 5, rfl, rfl, .inr (.inr rfl), Err_DiaryError, upd_same, fun pe H28 n28 e28 hp28 => ?_⟩⟩⟩⟩
        have hp28 : H28 pe = some (.tup [.str "diary", .int (k : Nat)]) := hp28
        have e2528 := (e27.trans (Ex.new ndd)).trans e28
        walk_at "go"
        rename_i p29 H29 n29 e29 h29
        refine g_neSI (x := "diary") (by decide +kernel) (SqT.of (e29 _ _ hp28)) (SqT.of h29) ?_
        walk_at "go"
        have e2129 := (e2125.trans e2528).trans e29
        exact hN _ _ ⟨_, _, rfl, RI21.ex e2129, e2129 _ _ h721, E21.ex e2129⟩
      · walk_at "go"
        exact hN _ _ ⟨_, _, rfl, RI12, h712, E12'⟩
      · rintro σ H13 ⟨v8, v9, rfl, RI13, h713, E13⟩
        clear RI12 h712 E12' hlt12 D12 T12 tr12
        walk_at "go"
        refine g_mkLive RI13 fun x H14 nx e14 L14 => ?_
        have h714 := e14 _ _ h713
        have E14 := E13.ex e14
        walk_at "go"
        refine g_kLcL (SqL.of h714) (fun A j H' => ∃ ys : List V, Ex H14 H' ∧ H' A = some (.lst ys) ∧ Ent K H' ys ((es.take j).filter fun e => decide (e.1 ≤ ((60 : Nat) : Int)))) (fun A H15 nA e15 hA => ⟨[], e15, hA, by rw [List.take_zero]; exact Ent.nil⟩) (fun A j H' nA _ hP => by
          obtain ⟨_, e, _⟩ := hP
          exact SqL.of (e _ _ h714)) ?_ ?_
        · rintro A j y H15 nA hy ⟨ys, e15, hA, EA⟩
          have hj := (List.getElem?_eq_some_iff.mp hy).1
          rw [hzl] at hj
          obtain ⟨e, he⟩ : ∃ e, es[j]? = some e := ⟨_, List.getElem?_eq_getElem hj⟩
          obtain ⟨pe, hp1, hp2⟩ := E14.2 j e he
          rw [hy] at hp1
          cases hp1
          have hp3 := ex_t e15 hp2
          have htk : es.take (j + 1) = es.take j ++ [e] := by rw [List.take_add_one, he]; rfl
          have hlen : ys.length ≤ 40 := by
            rw [EA.1]
            refine Nat.le_trans (List.length_filter_le _ _) ?_
            rw [List.length_take]
            omega
          walk_at "go"
          refine g_kLcT (fun hb => ?_) (fun hb => ?_)
          · walk_at "go"
            rename_i H16 e16 h16
            refine ⟨_, Exb.ex nA e15 e16, h16, ?_⟩
            have hb' : (fun e : Int × Int × Int => decide (e.1 ≤ ((60 : Nat) : Int))) e = true := hb
            rw [htk, List.filter_append, show [e].filter (fun e : Int × Int × Int => decide (e.1 ≤ ((60 : Nat) : Int))) = [e] from List.filter_cons_of_pos hb']
            exact (EA.exb e16 hA).snoc (exb_t e16 hA hp3)
          · refine ⟨ys, e15, hA, ?_⟩
            have hb' : ¬ (fun e : Int × Int × Int => decide (e.1 ≤ ((60 : Nat) : Int))) e = true := by
              intro z
              have z : decide (e.1 ≤ 60) = true := z
              rw [hb] at z
              cases z
            rw [htk, List.filter_append, show [e].filter (fun e : Int × Int × Int => decide (e.1 ≤ ((60 : Nat) : Int))) = [] from List.filter_cons_of_neg hb', List.append_nil]
            exact EA
        · rintro A H15 nA ⟨ys, e15, hA, EA⟩
          rw [hzl, List.take_length, hes, early_take (t := 60) (by decide)] at EA
          have L15 := L14.ex e15
          obtain ⟨_, _, _, _, _, _, _, _, _, _, ha15, lf15, _⟩ := L15.obj
          walk_at "go"
          refine g_kMeth ha15 (lf15.nm (by decide +kernel)) ?_
          walk_at "go"
          refine ⟨x, none, ds, hs, _, [], [], 0, rfl, L15, scAt_ok O 0, by decide, by decide, fun l16 zs16 H16 n16 e16 h16 E16 L16 => ?_⟩
          have hA16 := e16 _ _ (L15.ne hA) hA
          have EA16 := EA.kp (L15.keep e16)
          walk_at "go"
          rename_i l17 H17 n17 e17 h17
          refine g_eqEnt (es := []) (SqL.of (e17 _ _ h16)) (E16.ex e17) (SqL.of h17) Ent.nil ?_
          have L17 := L16.ex e17
          have hA17 := e17 _ _ hA16
          have EA17 := EA16.ex e17
          obtain ⟨_, _, _, _, _, _, _, _, _, _, ha17, lf17, _⟩ := L17.obj
          walk_at "go"
          refine g_kMeth ha17 (lf17.nm (by decide +kernel)) ?_
          walk_at "go"
          refine ⟨x, none, ds, hs, _, _, [], 60, rfl, L17, scAt_ok O 0, by decide, (show 1 ≤ 900 by decide), fun l18 zs18 H18 n18 e18 h18 E18 L18 => ?_⟩
          have hA18 := e18 _ _ (L17.ne hA17) hA17
          have EA18 := EA17.kp (L17.keep e18)
          have E18 : Ent K H18 zs18 (evs ds.length (Sc.first ds hs) 60) := E18
          rw [evs_evt] at E18
          walk_at "go"
          rename_i l19 H19 n19 e19 h19
          rw [cut_take] at h19
          have e3 := (E18.ex e19).take ys.length
          rw [show (evt ds hs 60).take ys.length = (evt ds hs 60).take cnt by
            rw [EA.1, List.take_eq_take_iff, List.length_take]
            omega] at e3
          refine g_eqEnt (SqL.of h19) e3 (SqL.of (e19 _ _ hA18)) (EA18.ex e19) ?_
          walk_at "go"
          exact q _
end
end G48

namespace G48
open PySem PySem.Spec PyProof.Rows L2 Evl
theorem facts {P : Program} {w : World} {K : PySem.W.Frag} {h : Heap} {mg : Str → Option Value} {f : Addr} (X : K.In h) (G : h.Ns mainGlobals mg) (hfa : mg ("law" : Str) = some (.ref f)) (c0 : SaysL fasL fnL h K) :
    ∃ fd : FuncData, (∀ (s : Shared) (v : Value), BindsTo s fd ⟨[v], []⟩ [("_law_script", v)]) ∧ ∀ base : Heap, LamX.TabB base mg (lamC K) (lamT K) → FnOk P w K mg base CX0 13 f fd ["_law_script"] (sp_law K) := by
  have c := c0.1
  obtain ⟨fd, FL⟩ := c.def_ 27 (d := gd "law" s_law)
  have e := hfa.symm.trans (He.glo_ok X G (c.fact 52))
  cases e
  refine ⟨fd, fun s v => FunD.bindsA FL b_law s [v] rfl, fun base TB => ?_⟩
  have Z : Blt mg := ⟨He.free_ok X G (c.fact 0), He.free_ok X G (c.fact 1), He.free_ok X G (c.fact 2), He.free_ok X G (c.fact 3), He.free_ok X G (c.fact 4), He.free_ok X G (c.fact 5), He.free_ok X G (c.fact 6), He.free_ok X G (c.fact 7), He.free_ok X G (c.fact 8), He.free_ok X G (c.fact 9), He.free_ok X G (c.fact 10), He.free_ok X G (c.fact 11), He.free_ok X G (c.fact 12), He.free_ok X G (c.fact 13), He.free_ok X G (c.fact 14), He.free_ok X G (c.fact 15), He.free_ok X G (c.fact 16), He.free_ok X G (c.fact 17), He.free_ok X G (c.fact 18), He.free_ok X G (c.fact 19), He.free_ok X G (c.fact 20), He.free_ok X G (c.fact 21)⟩
  have G_is_integer : GFun K mg "is_integer" s_is_integer := let ⟨fd, F⟩ := c.def_ 0 (d := gd "is_integer" s_is_integer); ⟨_, fd, He.glo_ok X G (c.fact 22), Fun_ofD F⟩
  have G_check_number : GFun K mg "check_number" s_check_number := let ⟨fd, F⟩ := c.def_ 1 (d := gd "check_number" s_check_number); ⟨_, fd, He.glo_ok X G (c.fact 23), Fun_ofD F⟩
  have G_check_days : GFun K mg "check_days" s_check_days := let ⟨fd, F⟩ := c.def_ 2 (d := gd "check_days" s_check_days); ⟨_, fd, He.glo_ok X G (c.fact 24), Fun_ofD F⟩
  have G_check_starts : GFun K mg "check_starts" s_check_starts := let ⟨fd, F⟩ := c.def_ 3 (d := gd "check_starts" s_check_starts); ⟨_, fd, He.glo_ok X G (c.fact 25), Fun_ofD F⟩
  have G_Ring___init__ : IFun K mg "Ring" (He.ga K "Ring") "Ring.__init__" s_Ring___init__ := let ⟨fd, F⟩ := c.def_ 4 (d := md "Ring" "__init__" "Ring.__init__" s_Ring___init__); ⟨_, fd, He.mkr_ok (c.fact 26), He.glo_ok X G (c.fact 27), Fun_ofD F⟩
  have G_Ring_books : PFun K (He.ga K "Ring") "books" "Ring.books" s_Ring_books := let ⟨fd, F⟩ := c.def_ 5 (d := prd "Ring" "books" "Ring.books" s_Ring_books); let ⟨pA, hp⟩ := Gp.pp_ok (c.fact 28); ⟨pA, _, fd, hp, Fun_ofD F⟩
  have G_Ring___len__ : CFun K (He.ga K "Ring") "__len__" "Ring.__len__" s_Ring___len__ := let ⟨fd, F⟩ := c.def_ 6 (d := md "Ring" "__len__" "Ring.__len__" s_Ring___len__); ⟨_, fd, He.meth_ok (c.fact 29), Fun_ofD F⟩
  have G_Ring_need_reader : CFun K (He.ga K "Ring") "need_reader" "Ring.need_reader" s_Ring_need_reader := let ⟨fd, F⟩ := c.def_ 7 (d := md "Ring" "need_reader" "Ring.need_reader" s_Ring_need_reader); ⟨_, fd, He.meth_ok (c.fact 30), Fun_ofD F⟩
  have G__law_taken : GFun K mg "_law_taken" s__law_taken := let ⟨fd, F⟩ := c.def_ 8 (d := gd "_law_taken" s__law_taken); ⟨_, fd, He.glo_ok X G (c.fact 31), Fun_ofD F⟩
  have G__law_parts : GFun K mg "_law_parts" s__law_parts := let ⟨fd, F⟩ := c.def_ 9 (d := gd "_law_parts" s__law_parts); ⟨_, fd, He.glo_ok X G (c.fact 32), Fun_ofD F⟩
  have G_Scene___init__ : IFun K mg "Scene" (He.ga K "Scene") "Scene.__init__" s_Scene___init__ := let ⟨fd, F⟩ := c.def_ 10 (d := md "Scene" "__init__" "Scene.__init__" s_Scene___init__); ⟨_, fd, He.mkr_ok (c.fact 33), He.glo_ok X G (c.fact 34), Fun_ofD F⟩
  have G_Scene_begun : CFun K (He.ga K "Scene") "begun" "Scene.begun" s_Scene_begun := let ⟨fd, F⟩ := c.def_ 11 (d := md "Scene" "begun" "Scene.begun" s_Scene_begun); ⟨_, fd, He.meth_ok (c.fact 35), Fun_ofD F⟩
  have G_Scene_following : CFun K (He.ga K "Scene") "following" "Scene.following" s_Scene_following := let ⟨fd, F⟩ := c.def_ 12 (d := md "Scene" "following" "Scene.following" s_Scene_following); ⟨_, fd, He.meth_ok (c.fact 36), Fun_ofD F⟩
  have G_first_scene : GFun K mg "first_scene" s_first_scene := let ⟨fd, F⟩ := c.def_ 13 (d := gd "first_scene" s_first_scene); ⟨_, fd, He.glo_ok X G (c.fact 37), Fun_ofD F⟩
  have G__law_begin : GFun K mg "_law_begin" s__law_begin := let ⟨fd, F⟩ := c.def_ 14 (d := gd "_law_begin" s__law_begin); ⟨_, fd, He.glo_ok X G (c.fact 38), Fun_ofD F⟩
  have G__law_first : GFun K mg "_law_first" s__law_first := let ⟨fd, F⟩ := c.def_ 15 (d := gd "_law_first" s__law_first); ⟨_, fd, He.glo_ok X G (c.fact 39), Fun_ofD F⟩
  have G__law_day : GFun K mg "_law_day" s__law_day := let ⟨fd, F⟩ := c.def_ 16 (d := gd "_law_day" s__law_day); ⟨_, fd, He.glo_ok X G (c.fact 40), Fun_ofD F⟩
  have G_diary_of : GFun K mg "diary_of" s_diary_of := let ⟨fd, F⟩ := c.def_ 17 (d := gd "diary_of" s_diary_of); ⟨_, fd, He.glo_ok X G (c.fact 41), Fun_ofD F⟩
  have G_DiaryError___init__ : CFun K (He.ga K "DiaryError") "__init__" "DiaryError.__init__" s_DiaryError___init__ := let ⟨fd, F⟩ := c.def_ 18 (d := md "DiaryError" "__init__" "DiaryError.__init__" s_DiaryError___init__); ⟨_, fd, He.meth_ok (c.fact 42), Fun_ofD F⟩
  have G_is_alike : GFun K mg "is_alike" s_is_alike := let ⟨fd, F⟩ := c.def_ 19 (d := gd "is_alike" s_is_alike); ⟨_, fd, He.glo_ok X G (c.fact 43), Fun_ofD F⟩
  have G_fits : GFun K mg "fits" s_fits := let ⟨fd, F⟩ := c.def_ 20 (d := gd "fits" s_fits); ⟨_, fd, He.glo_ok X G (c.fact 44), Fun_ofD F⟩
  have G_mended : GFun K mg "mended" s_mended := let ⟨fd, F⟩ := c.def_ 21 (d := gd "mended" s_mended); ⟨_, fd, He.glo_ok X G (c.fact 45), Fun_ofD F⟩
  have G__law_raised : GFun K mg "_law_raised" s__law_raised := let ⟨fd, F⟩ := c.def_ 22 (d := gd "_law_raised" s__law_raised); ⟨_, fd, He.glo_ok X G (c.fact 46), Fun_ofD F⟩
  have G_LiveRing___init__ : IFun K mg "LiveRing" (He.ga K "LiveRing") "LiveRing.__init__" s_LiveRing___init__ := let ⟨fd, F⟩ := c.def_ 23 (d := md "LiveRing" "__init__" "LiveRing.__init__" s_LiveRing___init__); ⟨_, fd, He.mkr_ok (c.fact 47), He.glo_ok X G (c.fact 48), Fun_ofD F⟩
  have G_LiveRing_enter : CFun K (He.ga K "LiveRing") "enter" "LiveRing.enter" s_LiveRing_enter := let ⟨fd, F⟩ := c.def_ 24 (d := md "LiveRing" "enter" "LiveRing.enter" s_LiveRing_enter); ⟨_, fd, He.meth_ok (c.fact 49), Fun_ofD F⟩
  have G_LiveRing_pass_days : CFun K (He.ga K "LiveRing") "pass_days" "LiveRing.pass_days" s_LiveRing_pass_days := let ⟨fd, F⟩ := c.def_ 25 (d := md "LiveRing" "pass_days" "LiveRing.pass_days" s_LiveRing_pass_days); ⟨_, fd, He.meth_ok (c.fact 50), Fun_ofD F⟩
  have G__law_diary : GFun K mg "_law_diary" s__law_diary := let ⟨fd, F⟩ := c.def_ 26 (d := gd "_law_diary" s__law_diary); ⟨_, fd, He.glo_ok X G (c.fact 51), Fun_ofD F⟩
  have R : RingC K (He.ga K "Ring") := ⟨He.cls_ok (c.fact 53), He.noat_ok (c.fact 54), He.noat_ok (c.fact 55), He.noat_ok (c.fact 56)⟩
  have RS : SceneC K (He.ga K "Scene") := ⟨He.cls_ok (c.fact 57), He.noat_ok (c.fact 58), He.noat_ok (c.fact 59), He.noat_ok (c.fact 60), He.noat_ok (c.fact 61), He.noat_ok (c.fact 62)⟩
  have RL : LiveC K (He.ga K "LiveRing") := ⟨He.cls_ok (c.fact 63), He.noat_ok (c.fact 64), He.noat_ok (c.fact 65), He.noat_ok (c.fact 66), He.noat_ok (c.fact 67), He.noat_ok (c.fact 68), He.noat_ok (c.fact 69), He.noat_ok (c.fact 70), He.noat_ok (c.fact 71)⟩
  have c_MAX_READERS : ∃ t, mg "MAX_READERS" = some (.int 8 t) := He.int_ok X G (c.fact 72)
  have c_MAX_DAYS : ∃ t, mg "MAX_DAYS" = some (.int 30 t) := He.int_ok X G (c.fact 73)
  have c_MAX_BOOKS : ∃ t, mg "MAX_BOOKS" = some (.int 12 t) := He.int_ok X G (c.fact 74)
  have c_MAX_ENTRIES : ∃ t, mg "MAX_ENTRIES" = some (.int 500 t) := He.int_ok X G (c.fact 75)
  have Err_DiaryError : ErrN K (He.ga K "DiaryError") erNm 6 5 ["entry"] := errN_ok (c.fact 76)
  have Rin_ReadingError : RinC K (He.ga K "ReadingError") := rin_ok (c.fact 77)
  have g_ReadingError : mg "ReadingError" = some (.ref (He.ga K "ReadingError")) := He.glo_ok X G (c.fact 78)
  have g_DiaryError : mg "DiaryError" = some (.ref (He.ga K "DiaryError")) := He.glo_ok X G (c.fact 79)
  have c_WORDS : ∃ t, mg "WORDS" = some (.int 3 t) := He.int_ok X G (c.fact 80)
  have g_BeingRead : mg "BeingRead" = some (.ref (He.ga K "BeingRead")) := He.glo_ok X G (c.fact 81)
  have g_InvalidNumber : mg "InvalidNumber" = some (.ref (He.ga K "InvalidNumber")) := He.glo_ok X G (c.fact 82)
  have g_UnknownBook : mg "UnknownBook" = some (.ref (He.ga K "UnknownBook")) := He.glo_ok X G (c.fact 83)
  have g_Contradiction : mg "Contradiction" = some (.ref (He.ga K "Contradiction")) := He.glo_ok X G (c.fact 84)
  have g_InvalidOperation : mg "InvalidOperation" = some (.ref (He.ga K "InvalidOperation")) := He.glo_ok X G (c.fact 85)
  have c_MAX_PASSED : ∃ t, mg "MAX_PASSED" = some (.int 400 t) := He.int_ok X G (c.fact 86)
  have D_is_integer := ok_is_integer (P := P) (w := w) (base := base) Z G_is_integer
  have D_check_number := ok_check_number (P := P) (w := w) (base := base) Z D_is_integer G_check_number
  have D_check_days := ok_check_days (P := P) (w := w) (base := base) Z c_MAX_READERS c_MAX_DAYS D_is_integer G_check_days
  have D_check_starts := ok_check_starts (P := P) (w := w) (base := base) Z c_MAX_BOOKS D_is_integer G_check_starts
  have I_Ring := ok_Ring_init (P := P) (w := w) (base := base) (C := He.ga K "Ring") Z R D_check_days D_check_starts G_Ring___init__
  have Q_Ring_books := ok_Ring_books (P := P) (w := w) (base := base) (C := He.ga K "Ring") Z R G_Ring_books
  have M_Ring___len__ := ok_Ring_len (P := P) (w := w) (base := base) (C := He.ga K "Ring") Z R G_Ring___len__
  have M_Ring_need_reader := ok_Ring_need (P := P) (w := w) (base := base) (C := He.ga K "Ring") Z R D_is_integer G_Ring_need_reader
  have D__law_taken := ok_taken (P := P) (w := w) (base := base) Z G__law_taken
  have D__law_parts := ok_parts (P := P) (w := w) (base := base) Z D__law_taken G__law_parts
  have I_Scene := ok_Scene_init (P := P) (w := w) (base := base) (SC := He.ga K "Scene") Z RS G_Scene___init__
  have M_Scene_begun := ok_begun (P := P) (w := w) (base := base) (SC := He.ga K "Scene") Z RS I_Scene G_Scene_begun
  have M_Scene_following := ok_following (P := P) (w := w) (base := base) (SC := He.ga K "Scene") Z RS I_Scene M_Scene_begun G_Scene_following
  have D_first_scene := ok_first_scene (P := P) (w := w) (base := base) (C := He.ga K "Ring") (SC := He.ga K "Scene") Z R RS I_Scene M_Scene_begun M_Ring___len__ G_first_scene
  have D__law_begin := ok_begin (P := P) (w := w) (base := base) Z G__law_begin
  have D__law_first := ok_first (P := P) (w := w) (base := base) Z D__law_begin G__law_first
  have D__law_day := ok_day (P := P) (w := w) (base := base) Z D__law_begin G__law_day
  have DG_diary_of := ok_diary (P := P) (w := w) (base := base) (C := He.ga K "Ring") (SC := He.ga K "Scene") Z R RS c_MAX_ENTRIES D_check_number D_first_scene M_Scene_following G_diary_of
  have DZ_diary_of := okz_diary (P := P) (w := w) (base := base) (C := He.ga K "Ring") (SC := He.ga K "Scene") Z R RS c_MAX_ENTRIES D_check_number D_first_scene M_Scene_following G_diary_of
  have E_DiaryError := ok_DiaryError (P := P) (w := w) (base := base) Z Err_DiaryError Rin_ReadingError g_ReadingError g_DiaryError G_DiaryError___init__
  have D_is_alike := ok_alk (P := P) (w := w) (base := base) Z D_is_integer G_is_alike
  have D_fits := ok_fits (P := P) (w := w) (base := base) Z c_WORDS D_is_alike G_fits
  have D_mended := ok_mended (P := P) (w := w) (base := base) (C := He.ga K "Ring") Z c_MAX_ENTRIES Err_DiaryError E_DiaryError D_fits DZ_diary_of G_mended
  have T__law_raised := ok_raisedV (P := P) (w := w) (base := base) Z g_ReadingError g_BeingRead g_InvalidNumber g_UnknownBook g_Contradiction g_InvalidOperation g_DiaryError
  have I_LiveRing := ok_Live_init (P := P) (w := w) (base := base) (C := He.ga K "Ring") (SC := He.ga K "Scene") (LC := He.ga K "LiveRing") Z RL D_first_scene G_LiveRing___init__
  have M_LiveRing_enter := ok_enter (P := P) (w := w) (base := base) (C := He.ga K "Ring") (SC := He.ga K "Scene") (LC := He.ga K "LiveRing") Z RL G_LiveRing_enter
  have M_LiveRing_pass_days := ok_pass (P := P) (w := w) (base := base) (C := He.ga K "Ring") (SC := He.ga K "Scene") (LC := He.ga K "LiveRing") Z RL RS c_MAX_PASSED D_check_number M_Scene_following M_LiveRing_enter G_LiveRing_pass_days
  have D__law_diary := ok_ldiary (P := P) (w := w) (base := base) Z D__law_first D__law_day G__law_diary
  exact fn_lam (st := s_law) (Fun_ofD FL) sc_law (fun vs H Q E h => sp_law_len h) (bd_law (P := P) (w := w) (base := base) Z R RL Err_DiaryError G__law_raised T__law_raised D__law_taken D__law_parts I_Ring D__law_diary DG_diary_of D_mended I_LiveRing M_LiveRing_pass_days) TB
end G48
open PySem PySem.W PySem.Calls PyProof.Rows
theorem PySem.Challenge.cw_readingring_k51_whole_diaries_holds : PySem.Challenge.rw_readingring_k51_whole_diaries.Holds := by
  w_on; o_law
  refine HandSHeadRun.head_any (r := OpenLaw.row PySem.Challenge.rw_readingring_k51_whole_diaries) (q := view (OpenLaw.row PySem.Challenge.rw_readingring_k51_whole_diaries).prog [43]) (H := G48.hk) (ob := G48.ob) (M := 40000) (loose := G48.loose) (d := HandSHeadRun.topDef (OpenLaw.row PySem.Challenge.rw_readingring_k51_whole_diaries).prog 43) (kwd := []) G48.ob_eq
    (by kernel_rfl) (fun s => by kernel_rfl) G48.run (by kernel_rfl) (by kernel_rfl) (by kernel_rfl) (by rfl) (by first | assumption | decide +kernel) (by decide +kernel) ⟨rfl, rfl, rfl, rfl, rfl, by decide +kernel⟩ ?hw ?hc
  case hw => w_witness2
  case hc =>
    refine G48.walk_lam (l := PySem.Challenge.rw_readingring_k51_whole_diaries) (n := 63) (k := 13) (x := "_law_script") rfl (by decide) (by kernel_rfl) ⟨rfl, by decide, by decide⟩ ?F
    intro w mg fa h Y G hmg0
    obtain ⟨K, KX, c⟩ := Y
    have hmg : mg ("law" : PySem.Str) = some (.ref fa) := by
      have e : (HandSHeadRun.topDef (OpenLaw.row PySem.Challenge.rw_readingring_k51_whole_diaries).prog 43).name = ("law" : PySem.Str) := by kernel_rfl
      rw [← e]
      exact hmg0
    obtain ⟨fd, hb, hF⟩ := G48.facts (P := (PySem.Challenge.rw_readingring_k51_whole_diaries).prog) (w := w) KX G hmg c
    exact ⟨K, KX, fd, G48.lamC K, G48.lamT K, G48.sp_law K, c.2.2.2, c.2.2.1, PySem.W.codeHd_of_K KX c.2.1, hb, fun H a ns hl hT hS => ⟨a, ns, rfl, hS, hl, hT, fun _ => rfl⟩, fun base _ _ TB => hF base TB⟩
