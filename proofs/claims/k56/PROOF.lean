import PyProof.Rows.All
import Wide.All
import OpenK.AllK
import Wide.FinOn
import HandS.ForMost
import HandS.ForExc
import HandS.Evl
import HandS.Property
import HandS.IsInst
import HandS.TupAny
import HandS.Flow
import HandS.Zip
import HandS.Conv
import HandS.Defaults
import HandS.Head0
import HandS.Head1
import HandS.Head2
import HandS.HeadEnd
import HandS.HeadHook1
import HandS.HeadHook2
import HandS.HeadNt
import HandS.TupMul
import HandS.TupLe
import HandS.Strs
import HandS.Walk
import KE.GoesEnum
import KE.GoesMore
import KE.DatumOrd
import PySem.Challenge.RW_readingring_k56_whole_the_pace_with_evid
set_option Elab.async false
set_option linter.all false
set_option maxRecDepth 100000
set_option maxHeartbeats 2000000
/-! a Hook whose facts are any Bools of the part of the heap -/
namespace Gp
open PySem PySem.W PySem.Spec PyProof.Rows He5
abbrev FB : Type := Frag → Bool
def obsP (fas : List FB) (fn : List DefA) (K : Frag) : He.AlD := ((fas.all fun f => f K) && fn.all fun d => d.ok K, fn.map fun d => fnA K (d.at_ K))
def SaysP (fas : List FB) (fn : List DefA) (K : Frag) : Prop := obsP fas fn K = valA fn
def obsPG (n : Nat) (fas : List FB) (fn : List DefA) (g : Addr → Option Obj) : He.AlD := obsP fas fn (He.frG g (asA g n))
def hookP (n : Nat) (fas : List FB) (fn : List DefA) : Hook where
  α := He.AlD
  obs := fun s => obsPG n fas fn s.heap.get?
  val := fun _ => valA fn
  says := fun _ h => ∃ K : Frag, K.In h ∧ SaysP fas fn K
  of := fun _ _ e => ⟨_, He.frG_in, e⟩
  keeps := fun _ _ _ ⟨K, hK, c⟩ k => ⟨K, Frag.In.keeps hK k, c⟩
theorem obsPG_eq {n : Nat} {fas : List FB} {fn : List DefA} {g : Addr → Option Obj} {s : Shared} (h : ∀ a, g a = s.heap.get? a) : obsPG n fas fn g = (hookP n fas fn).obs s := by
  have e : g = s.heap.get? := funext h
  rw [e] <;> rfl
section
variable {fas : List FB} {fn : List DefA} {K : Frag}
theorem SaysP.fact (c : SaysP fas fn K) (i : Nat) {f : FB} (h : fas[i]? = some f := by rfl) : f K = true := by
  have c1 := (He.ba (show ((fas.all fun f => f K) && fn.all fun d => d.ok K) = true from congrArg (fun z : He.AlD => z.1) c)).1
  exact List.all_eq_true.mp c1 f (List.mem_of_getElem? h)
theorem SaysP.def_ (c : SaysP fas fn K) (i : Nat) {d : DefA} (h : fn[i]? = some d := by rfl) : ∃ fd, L2.FunD K d.name d.qual d.params d.body d.scope (d.dvs K) (d.kws K) (d.at_ K) fd := by
  have c2 := (He.ba (show ((fas.all fun f => f K) && fn.all fun d => d.ok K) = true from congrArg (fun z : He.AlD => z.1) c)).2
  have e : fn.map (fun d => fnA K (d.at_ K)) = fn.map DefA.val := congrArg (fun z : He.AlD => z.2) c
  have e2 : (fn.map fun d => fnA K (d.at_ K))[i]? = (fn.map DefA.val)[i]? := by rw [e]
  rw [List.getElem?_map, List.getElem?_map, h] at e2
  exact DefA.funD (Option.some.inj e2) (List.all_eq_true.mp c2 d (List.mem_of_getElem? h))
end
/-- a property's getter -/
def pga (K : Frag) (C : Addr) (m : PySem.Str) : Addr := match findIn K (.ref C) m with
  | some (some (.ref p)) => (match recIn K p "property" with
    | some (.ref g :: _) => g
    | _ => 0)
  | _ => 0
def ppB (K : Frag) (C : Addr) (m : PySem.Str) : Bool := match findIn K (.ref C) m with
  | some (some (.ref p)) => decide (specialIn K (.ref p) "__get__" = some (some (.builtin "property.__get__"))) && (decide (takesIn K (.ref p) = some true) && (match recIn K p "property" with
    | some (.ref _ :: _) => true
    | _ => false))
  | _ => false
theorem pp_ok {K : Frag} {C : Addr} {m : PySem.Str} (h : ppB K C m = true) : ∃ p, L2.PropOf K C m p (pga K C m) := by
  unfold ppB at h
  unfold pga
  split at h
  · rename_i p hp
    obtain ⟨h1, h2⟩ := He.ba h
    obtain ⟨h2, h3⟩ := He.ba h2
    split at h3
    · rename_i g rest hr
      refine ⟨p, hp, of_decide_eq_true h1, of_decide_eq_true h2, rest, ?_⟩
      exact hr
    · cases h3
  · cases h
end Gp
theorem Fun_ofD {K : PySem.W.Frag} {x q : PySem.Str} {st : PySem.Stmt} {f : PySem.Addr} {fd : PySem.FuncData} (F : L2.FunD K x q (L2.defArgs st) (L2.defBody st) (L2.defScope st) [] [] f fd) : L2.Fun K x q st f fd := by
  obtain ⟨oc, od, dV, kV, doc, pm, an, cdv, ct, osl, rfl, lk, hcd, hD, hK⟩ := F.ex
  rcases hD with ⟨_, rfl⟩ | ⟨e, _⟩
  · exact ⟨⟨oc, od, kV, doc, pm, an, cdv, ct, osl, rfl, lk, hcd⟩, F.kp⟩
  · exact absurd rfl e
namespace G48
open PySem PySem.Spec PyProof.Rows L2 Evl
/-! ### the built-ins that stand -/
structure Blt (mg : Str → Option Value) : Prop where
  zlen : mg "len" = none
  zisinstance : mg "isinstance" = none
  zint : mg "int" = none
  zbool : mg "bool" = none
  ztuple : mg "tuple" = none
  zlist : mg "list" = none
  zmax : mg "max" = none
  zmin : mg "min" = none
  zsum : mg "sum" = none
  zrange : mg "range" = none
  zenumerate : mg "enumerate" = none
  zzip : mg "zip" = none
  zall : mg "all" = none
  zany : mg "any" = none
  zsorted : mg "sorted" = none
  zstr : mg "str" = none
  zset : mg "set" = none
  zabs : mg "abs" = none
  zdivmod : mg "divmod" = none
  zbytes : mg "bytes" = none
  zdict : mg "dict" = none
  zValueError : mg "ValueError" = none

/-! ### defs that stand, and defs that keep a promise -/
structure GFun (K : PySem.W.Frag) (mg : Str → Option Value) (x : Str) (st : Stmt) : Prop where
  ex : ∃ f fd, mg x = some (.ref f) ∧ Fun K x x st f fd
structure CFun (K : PySem.W.Frag) (C : Addr) (m q : Str) (st : Stmt) : Prop where
  ex : ∃ f fd, Meth K C m f ∧ Fun K m q st f fd
structure PFun (K : PySem.W.Frag) (C : Addr) (m q : Str) (st : Stmt) : Prop where
  ex : ∃ p f fd, PropOf K C m p f ∧ Fun K m q st f fd
structure IFun (K : PySem.W.Frag) (mg : Str → Option Value) (x : Str) (C : Addr) (q : Str) (st : Stmt) : Prop where
  ex : ∃ f fd, Mk K C f ∧ mg x = some (.ref C) ∧ Fun K "__init__" q st f fd

section
variable (P : Program) (w : World) (K : PySem.W.Frag) (mg : Str → Option Value) (base : Heap)
structure Df (k : Nat) (x : Str) (ps : List Str) (sp : Sp) : Prop where
  ex : ∃ f fd, mg x = some (.ref f) ∧ PySem.W.keepIn K (.ref f) = true ∧ Binds K fd ps [] ∧ FnOk P w K mg base (L2.CX P w) k f fd ps sp
structure Mf (C : Addr) (k : Nat) (m : Str) (ps : List Str) (sp : Sp) : Prop where
  ex : ∃ f fd, Meth K C m f ∧ Binds K fd ps [] ∧ FnOk P w K mg base (L2.CX P w) k f fd ps sp
structure Pf (C : Addr) (k : Nat) (m : Str) (ps : List Str) (sp : Sp) : Prop where
  ex : ∃ p f fd, PropOf K C m p f ∧ Binds K fd ps [] ∧ FnOk P w K mg base (L2.CX P w) k f fd ps sp
structure If (x : Str) (C : Addr) (k : Nat) (ps : List Str) (sp : Sp) : Prop where
  ex : ∃ f fd, Mk K C f ∧ mg x = some (.ref C) ∧ Binds K fd ps [] ∧ FnOk P w K mg base (L2.CX P w) k f fd ps sp
end

section
variable {P : Program} {w : World} {K : PySem.W.Frag} {mg : Str → Option Value} {base : Heap}
/-- the body's question -/
abbrev Body (P : Program) (w : World) (K : PySem.W.Frag) (mg : Str → Option Value) (base : Heap) (qual : Str) (N : List Str) (st : Stmt) (f : Addr) (k : Nat) (sp : Sp) : Prop :=
  ∀ (cdv : Value) (A : Around) (outer : List Env) (s : Shared) (H : Hp) (vs : List V) (Q : VK) (E : XK), Room k (A.deeper (envOfC qual (defScope st) s.heap.objs.size f cdv)) → sp vs H Q E →
      ∃ t, PSs (cxOf (L2.CX P w) P w K mg base N qual (defScope st) f cdv A outer s H E) (defBody st) t ∧ t { nx := fun _ H' => Q .non H', rt := Q } (start N vs) H
abbrev BindL (q x : Str) (st : Stmt) (ps : List Str) : Prop := ∀ (kV doc pm : Value) (an : Option Addr) (cdv ct : Value) (us : List Value), us.length = ps.length → bindArgs (PySem.W.fnOf x q (defArgs st) (defBody st) (defScope st) .none kV doc pm an cdv ct) ⟨us, []⟩ = pure (ps.zip us)
theorem Df.of {x : Str} {st : Stmt} {N ps : List Str} {k : Nat} {sp : Sp} (G : GFun K mg x st) (S : FnScope N ps (defScope st)) (hb : BindL x x st ps)
    (len : ∀ vs H Q E, sp vs H Q E → vs.length = ps.length) (body : ∀ f, Body P w K mg base x N st f k sp) : Df P w K mg base (k + 1) x ps sp := by
  obtain ⟨f, fd, hg, F⟩ := G.ex
  exact ⟨f, fd, hg, F.kp, F.binds hb, F.okX S len (body f)⟩
theorem Mf.of {C : Addr} {m q : Str} {st : Stmt} {N ps : List Str} {k : Nat} {sp : Sp} (G : CFun K C m q st) (S : FnScope N ps (defScope st)) (hb : BindL q m st ps)
    (len : ∀ vs H Q E, sp vs H Q E → vs.length = ps.length) (body : ∀ f, Body P w K mg base q N st f k sp) : Mf P w K mg base C (k + 1) m ps sp := by
  obtain ⟨f, fd, hg, F⟩ := G.ex
  exact ⟨f, fd, hg, F.binds hb, F.okX S len (body f)⟩
theorem Pf.of {C : Addr} {m q : Str} {st : Stmt} {N ps : List Str} {k : Nat} {sp : Sp} (G : PFun K C m q st) (S : FnScope N ps (defScope st)) (hb : BindL q m st ps)
    (len : ∀ vs H Q E, sp vs H Q E → vs.length = ps.length) (body : ∀ f, Body P w K mg base q N st f k sp) : Pf P w K mg base C (k + 1) m ps sp := by
  obtain ⟨p, f, fd, hg, F⟩ := G.ex
  exact ⟨p, f, fd, hg, F.binds hb, F.okX S len (body f)⟩
theorem If.of {C : Addr} {x q : Str} {st : Stmt} {N ps : List Str} {k : Nat} {sp : Sp} (G : IFun K mg x C q st) (S : FnScope N ps (defScope st)) (hb : BindL q "__init__" st ps)
    (len : ∀ vs H Q E, sp vs H Q E → vs.length = ps.length) (body : ∀ f, Body P w K mg base q N st f k sp) : If P w K mg base x C (k + 1) ps sp := by
  obtain ⟨f, fd, hg, hm, F⟩ := G.ex
  exact ⟨f, fd, hg, hm, F.binds hb, F.okX S len (body f)⟩
end
section
variable {X : Cx} {k j : Nat} {x : Str} {ps : List Str} {sp : Sp} {E : XK} {p pos apos : Pos} {e o : Expr} {es : List Expr} {t : TA} {ta : TE} {C : Addr} {m : Str}
/-- f(e, ..), f a def of the text, raising as E says -/
theorem pg (D : Df X.prog X.w X.K X.mg X.base k x ps sp) (hr : Room j X.A) (ha : PA X (e :: es) t) (hx : Passes (L2.CX X.prog X.w) X E := by exact passL) (hk : k ≤ j := by decide) (hg : Gl X x := by rfl)
    (hd : (x == ("__debug__" : Str)) = false := by decide) (he : starEach (e :: es) X.env = (false, eval e X.env) :: starEach es X.env := by rfl) (hpl : (backTo pos (starEach es X.env)).any (·.1) = false := by rfl) :
    PE X (.Call (.Name x p) (e :: es) [] pos) (tCall sp [] E t) := by
  obtain ⟨f, fd, hm, kp, b, F⟩ := D.ex
  exact pe_call F (hr.mono hk) hg hm kp b .nil hx ha hd he hpl
theorem pg0 (D : Df X.prog X.w X.K X.mg X.base k x ps sp) (hr : Room j X.A) (hx : Passes (L2.CX X.prog X.w) X E := by exact passL) (hk : k ≤ j := by decide) (hg : Gl X x := by rfl)
    (hd : (x == ("__debug__" : Str)) = false := by decide) : PE X (.Call (.Name x p) [] [] pos) (tCall sp [] E tNil) := by
  obtain ⟨f, fd, hm, kp, b, F⟩ := D.ex
  exact pe_call0 F (hr.mono hk) hg hm kp b .nil hx hd
/-- o.m(e, ..), o.m() -/
theorem pm {pl : Sem Bool} (ho : PE X o ta) (c : Cls X.K C) (D : Mf X.prog X.w X.K X.mg X.base C k m ps sp) (hr : Room j X.A) (ha : PA X (e :: es) t) (hx : Passes (L2.CX X.prog X.w) X E := by exact passL) (hk : k ≤ j := by decide)
    (hst : starEach (e :: es) X.env = (false, eval e X.env) :: starEach es X.env := by rfl) (hpl : (backTo pos (starEach es X.env)).any (·.1) = false := by rfl)
    (ht : eval (.Call (.Attribute o m apos) (e :: es) [] pos) X.env = (do
      let ov ← eval o X.env
      standAt apos.atName
      let (f, first) ← holding [ov] (getMethod ov m pl)
      callWith pos f first (backTo pos (starEach (e :: es) X.env)) (backToKw pos (keywordEach [] X.env))) := by rfl) :
    PE X (.Call (.Attribute o m apos) (e :: es) [] pos) (tMeth C m sp [] E ta t) := by
  obtain ⟨f, fd, hm, b, F⟩ := D.ex
  exact pe_meth ho c hm F (hr.mono hk) b .nil hx ha hst hpl ht
theorem pm0 {pl : Sem Bool} (ho : PE X o ta) (c : Cls X.K C) (D : Mf X.prog X.w X.K X.mg X.base C k m ps sp) (hr : Room j X.A) (hx : Passes (L2.CX X.prog X.w) X E := by exact passL) (hk : k ≤ j := by decide)
    (ht : eval (.Call (.Attribute o m apos) [] [] pos) X.env = (do
      let ov ← eval o X.env
      standAt apos.atName
      let (f, first) ← holding [ov] (getMethod ov m pl)
      callWith pos f first (backTo pos (starEach [] X.env)) (backToKw pos (keywordEach [] X.env))) := by rfl) :
    PE X (.Call (.Attribute o m apos) [] [] pos) (tMeth C m sp [] E ta tNil) := by
  obtain ⟨f, fd, hm, b, F⟩ := D.ex
  exact pe_meth0 ho c hm F (hr.mono hk) b .nil hx ht
/-- o.m, a property -/
theorem pp (ho : PE X o ta) (c : Cls X.K C) (D : Pf X.prog X.w X.K X.mg X.base C k m ps sp) (hr : Room j X.A) (hk : k + 1 ≤ j := by decide) (hab : attributeBase o m X.env (eval o X.env) = eval o X.env := by rfl) :
    PE X (.Attribute o m pos) (tProp C sp [] E0 ta) := by
  obtain ⟨p, f, fd, hm, b, F⟩ := D.ex
  exact pe_prop ho c hm F (hr.mono hk) b .nil passL hab
/-- C(e, ..) -/
theorem pk (D : If X.prog X.w X.K X.mg X.base x C k ps sp) (hr : Room j X.A) (ha : PA X (e :: es) t) (hx : Passes (L2.CX X.prog X.w) X E := by exact passL) (hk : k + 1 ≤ j := by decide) (hg : Gl X x := by rfl)
    (hd : (x == ("__debug__" : Str)) = false := by decide) (he : starEach (e :: es) X.env = (false, eval e X.env) :: starEach es X.env := by rfl) (hpl : (backTo pos (starEach es X.env)).any (·.1) = false := by rfl) :
    PE X (.Call (.Name x p) (e :: es) [] pos) (tMake C sp [] E t) := by
  obtain ⟨f, fd, M, hm, b, F⟩ := D.ex
  exact pe_make M F (hr.mono hk) hg hm b .nil hx ha hd he hpl
/-- a call of a def one level in (by a built-in) -/
theorem run_in1 {f : Addr} {fd : FuncData} {ds : List Value} {dvs : List V} {pins : List (Addr × Obj)} {σ : L2.St} {H : Hp} {s : Shared} {Q : VK} {us : List Value} {vs : List V} (F : FnOk X.prog X.w X.K X.mg X.base (L2.CX X.prog X.w) k f fd ps sp) (hr : Room (k + 1) X.A) (hb : Binds X.K fd ps ds) (hd : Vals dvs ds) (hx : Passes (L2.CX X.prog X.w) X E)
    (I : Inv X pins σ H s) (r : Vals vs us) (h : sp (vs ++ dvs) H Q E) : wpAny (model X.prog X.w) X.A.in1 (call (.ref f) us) (EP X pins σ Q) X.xe s := by
  have r2 : Vals (vs ++ dvs) (us ++ ds) := r.append hd
  have hl : (us ++ ds).length = ps.length := by rw [← r2.length]; exact F.len _ _ _ _ h
  refine wpAny_call (codeAny_mono (F.run X.A.in1 X.stack s H ⟨us, []⟩ (us ++ ds) (vs ++ dvs) Q E hr.in1 I.env0.in1 (hb s us I.kIn hl) r2 h) fun r s' hq => ?_)
  cases r with
  | error e => exact hx pins σ H s e s' I hq
  | ok fl =>
    cases fl with
    | ret u => exact I.after hq
    | next => exact False.elim hq
    | brk => exact False.elim hq
    | cont => exact False.elim hq
/-- len(o), by the own __len__ -/
def rLenO (C : Addr) (sp : Sp) (E : XK) : List V → Hp → VK → Prop := fun xs H Q => ∃ a dx fs, xs = [.ref a] ∧ H a = some (.ins C dx fs) ∧ sp [.ref a] H (fun v H2 => ∃ n : Int, v = .int n ∧ (0 ≤ n ∧ n < 2 ^ 63) ∧ Q (.int n) H2) E
theorem call_lenO (D : Mf X.prog X.w X.K X.mg X.base C k "__len__" ps sp) (hr : Room j X.A) (hk : k + 1 ≤ j := by decide) (hx : Passes (L2.CX X.prog X.w) X E := by exact passL) : CallR X (.builtin "len") (rLenO C sp E) := by
  intro pins s σ H xs us Q I r h
  obtain ⟨a, dx, fs, rfl, ea, q⟩ := h
  obtain ⟨u, rfl, rx⟩ := vals1 r
  obtain rfl : u = Value.ref a := rx
  obtain ⟨f, fd, hm, b, F⟩ := D.ex
  obtain ⟨mA, O, _, _, _, _⟩ := ins_get I.hok ea
  obtain ⟨od, J, _⟩ := O.look
  obtain ⟨m0, fr⟩ := I.fr
  refine PySem.W.len_K fr I.ok.mod.kin J hm.at_ hm.fn ?_
  refine thn (run_in1 F (hr.mono hk) b .nil hx I (us := [.ref a]) (vs := [.ref a]) (.cons rfl .nil) q) fun u s1 ⟨v, H1, I1, rv, n, ev, hn, q1⟩ => ?_
  subst ev
  obtain ⟨tk, rfl⟩ := rv
  exact ⟨hn, .int n, H1, I1.tok _, ⟨_, rfl⟩, q1⟩
end
end G48
namespace G48
open PySem PySem.Spec PyProof.Rows L2 Evl
/-! ### heaps: what stands is carried over -/
/-- all but l stands -/
def Exb (l : Addr) (H H' : Hp) : Prop := ∀ b o, b ≠ l → H b = some o → H' b = some o
theorem Exb.upd {H : Hp} {l : Addr} {o : HO} : Exb l H (upd H l o) := fun b u nb e => by rw [upd_ne nb]; exact e
theorem Exb.of {l : Addr} {H H' : Hp} (e : Ex H H') : Exb l H H' := fun b u _ h => e b u h
theorem Exb.trans {l : Addr} {H H1 H2 : Hp} (a : Exb l H H1) (b : Exb l H1 H2) : Exb l H H2 := fun c o n h => b c o n (a c o n h)
theorem Exb.ex {l : Addr} {H0 H H' : Hp} (h : H0 l = none) (a : Ex H0 H) (b : Exb l H H') : Ex H0 H' := fun c o e => b c o (ne_of_none e h) (a c o e)
theorem ex_at {H H' : Hp} {a : Addr} {o : HO} (e : Ex H H') (h : H a = some o) : H' a = some o := e a o h
theorem exb_at {H H' : Hp} {l a : Addr} {o : HO} (e : Exb l H H') (n : a ≠ l) (h : H a = some o) : H' a = some o := e a o n h
theorem exb_t {K : PySem.W.Frag} {H H' : Hp} {l a : Addr} {xs ys : List V} (e : Exb l H H') (hl : H l = some (.lst ys)) (h : SqT K H a xs) : SqT K H' a xs := by
  rcases h with (h | ⟨o, h⟩) | h
  · exact .inl (.inl (e _ _ (ne_of h hl (by intro z; cases z)) h))
  · exact .inl (.inr ⟨o, e _ _ (ne_of h hl (by intro z; cases z)) h⟩)
  · exact .inr h
theorem exb_l {K : PySem.W.Frag} {H H' : Hp} {l a : Addr} {xs : List V} (e : Exb l H H') (n : a ≠ l) (h : SqL K H a xs) : SqL K H' a xs := by
  rcases h with (h | ⟨o, h⟩) | h
  · exact .inl (.inl (e _ _ n h))
  · exact .inl (.inr ⟨o, e _ _ n h⟩)
  · exact .inr h
theorem exb_ins {H H' : Hp} {l a C dx : Addr} {fs : List (Str × V)} {ys : List V} (e : Exb l H H') (hl : H l = some (.lst ys)) (h : H a = some (.ins C dx fs)) : H' a = some (.ins C dx fs) :=
  e _ _ (ne_of h hl (by intro z; cases z)) h


theorem sz1000 {n : Nat} (h : n ≤ 1000) : n ≤ sizeLine := Nat.le_trans h (by rw [sizeLine_eq]; decide)
theorem lt1000 {n : Nat} (h : n < 1000) : n < sizeLine := Nat.lt_trans h (by rw [sizeLine_eq]; decide)
/-! ### a reading's first step, by what stands at its head -/
section
variable {K : PySem.W.Frag} {σ : L2.St} {H H' : Hp} {ta tb tc te : TE} {t u : TT} {x y z v : V} {Q : VK} {QB : Bool → Hp → Prop} {i : Nat} {D : Ends} {t1 t2 t3 : TS} {tr : TA} {QA : List V → Hp → Prop} {r r' : R2} {a C dx : Addr} {fs : List (Str × V)} {f m : Str} {b c : Bool} {xs ys : List V} {sp : Sp} {E : XK} {ra : List V → Hp → VK → Prop}
theorem g_var (h : σ[i]? = some (some v)) (q : Q v H) : tVar i σ H Q := ⟨v, h, q⟩
theorem g_c (q : Q v H) : tC v σ H Q := q
theorem g_op (q : ta σ H fun x H1 => tb σ H1 fun y H2 => r x y H2 Q) : tOp r ta tb σ H Q := q
theorem g_un {r : V → Hp → VK → Prop} (q : ta σ H fun x H1 => r x H1 Q) : tUn r ta σ H Q := q
theorem g_nil (q : QA [] H) : tNil σ H QA := q
theorem g_cons (q : ta σ H fun x H1 => tr σ H1 fun xs H2 => QA (x :: xs) H2) : tCons ta tr σ H QA := q
theorem g_cb (q : tr σ H fun vs H1 => ra vs H1 Q) : tCB ra tr σ H Q := q
theorem app_nil_sp (sp : Sp) (Q : VK) (E : XK) : (fun (vs : List V) (H1 : Hp) => sp (vs ++ []) H1 Q E) = fun vs H1 => sp vs H1 Q E := by
  funext vs H1
  rw [List.append_nil]
theorem g_call (q : tr σ H fun vs H1 => sp vs H1 Q E) : tCall sp [] E tr σ H Q := by
  show tr σ H (fun vs H1 => sp (vs ++ []) H1 Q E)
  rw [app_nil_sp]
  exact q
def kT (Q : VK) (xs : List V) (H1 : Hp) : Prop := xs.length ≤ sizeLine ∧ ∀ p, H1 p = none → Q (.ref p) (upd H1 p (.tup xs))
def kL (Q : VK) (xs : List V) (H1 : Hp) : Prop := xs.length ≤ sizeLine ∧ ∀ p, H1 p = none → Q (.ref p) (upd H1 p (.lst xs))
theorem g_tup (q : tr σ H (kT Q)) : tTup tr σ H Q := q
theorem g_lst (q : tr σ H (kL Q)) : tLst tr σ H Q := q
theorem g_kT (h : xs.length ≤ sizeLine) (q : ∀ p H2, H p = none → Ex H H2 → H2 p = some (.tup xs) → Q (.ref p) H2) : kT Q xs H := ⟨h, fun p hp => q p _ hp (Ex.new hp) upd_same⟩
theorem g_kL (h : xs.length ≤ sizeLine) (q : ∀ p H2, H p = none → Ex H H2 → H2 p = some (.lst xs) → Q (.ref p) H2) : kL Q xs H := ⟨h, fun p hp => q p _ hp (Ex.new hp) upd_same⟩
def kTest (Q : Bool → Hp → Prop) : VK := fun x H' => ∃ k, x = .bl k ∧ Q k H'
theorem g_test (q : ta σ H (kTest QB)) : tTest ta σ H QB := q
theorem g_B (q : ta σ H (kTest QB)) : tB ta σ H QB := q
theorem g_kTest (q : QB b H) : kTest QB (.bl b) H := ⟨b, rfl, q⟩
def kNot (Q : Bool → Hp → Prop) (c : Bool) (H1 : Hp) : Prop := Q (!c) H1
theorem g_not (q : t σ H (kNot QB)) : tNot t σ H QB := q
theorem g_kNotT (q : QB false H) : kNot QB true H := q
theorem g_kNotF (q : QB true H) : kNot QB false H := q
theorem g_kNotS (q : QB (!c) H) : kNot QB c H := q
def kAnd (u : TT) (σ : L2.St) (Q : Bool → Hp → Prop) (c : Bool) (H1 : Hp) : Prop := if c = true then u σ H1 Q else Q false H1
def kOr (u : TT) (σ : L2.St) (Q : Bool → Hp → Prop) (c : Bool) (H1 : Hp) : Prop := if c = true then Q true H1 else u σ H1 Q
theorem g_and (q : t σ H (kAnd u σ QB)) : tAnd t u σ H QB := q
theorem g_or (q : t σ H (kOr u σ QB)) : tOr t u σ H QB := q
theorem g_kAndT (q : u σ H QB) : kAnd u σ QB true H := q
theorem g_kAndF (q : QB false H) : kAnd u σ QB false H := q
theorem g_kOrT (q : QB true H) : kOr u σ QB true H := q
theorem g_kOrF (q : u σ H QB) : kOr u σ QB false H := q
theorem g_kAnd (h1 : c = true → u σ H QB) (h2 : c = false → QB false H) : kAnd u σ QB c H := by
  cases c with
  | true => exact h1 rfl
  | false => exact h2 rfl
theorem g_kOr (h1 : c = true → QB true H) (h2 : c = false → u σ H QB) : kOr u σ QB c H := by
  cases c with
  | true => exact h1 rfl
  | false => exact h2 rfl
def kAndV (tb : TE) (σ : L2.St) (Q : VK) : VK := fun x H1 => ∃ c, x = .bl c ∧ if c = true then tb σ H1 Q else Q (.bl false) H1
def kOrV (tb : TE) (σ : L2.St) (Q : VK) : VK := fun x H1 => ∃ c, x = .bl c ∧ if c = true then Q (.bl true) H1 else tb σ H1 Q
theorem g_andV (q : ta σ H (kAndV tb σ Q)) : tAndV ta tb σ H Q := q
theorem g_orV (q : ta σ H (kOrV tb σ Q)) : tOrV ta tb σ H Q := q
theorem g_kAndVT (q : tb σ H Q) : kAndV tb σ Q (.bl true) H := ⟨true, rfl, q⟩
theorem g_kAndVF (q : Q (.bl false) H) : kAndV tb σ Q (.bl false) H := ⟨false, rfl, q⟩
theorem g_kOrVT (q : Q (.bl true) H) : kOrV tb σ Q (.bl true) H := ⟨true, rfl, q⟩
theorem g_kOrVF (q : tb σ H Q) : kOrV tb σ Q (.bl false) H := ⟨false, rfl, q⟩
theorem g_kAndV (h1 : c = true → tb σ H Q) (h2 : c = false → Q (.bl false) H) : kAndV tb σ Q (.bl c) H := by
  cases c with
  | true => exact g_kAndVT (h1 rfl)
  | false => exact g_kAndVF (h2 rfl)
theorem g_kOrV (h1 : c = true → Q (.bl true) H) (h2 : c = false → tb σ H Q) : kOrV tb σ Q (.bl c) H := by
  cases c with
  | true => exact g_kOrVT (h1 rfl)
  | false => exact g_kOrVF (h2 rfl)
def kNotV (Q : VK) : VK := fun x H1 => ∃ c, x = .bl c ∧ Q (.bl (!c)) H1
theorem g_notV (q : ta σ H (kNotV Q)) : tNotV ta σ H Q := q
theorem g_kNotV (q : Q (.bl (!c)) H) : kNotV Q (.bl c) H := ⟨c, rfl, q⟩
def kIf (ta tb : TE) (σ : L2.St) (Q : VK) (c : Bool) (H1 : Hp) : Prop := if c = true then ta σ H1 Q else tb σ H1 Q
theorem g_if (q : t σ H (kIf ta tb σ Q)) : tIf t ta tb σ H Q := q
theorem g_kIfT (q : ta σ H Q) : kIf ta tb σ Q true H := q
theorem g_kIfF (q : tb σ H Q) : kIf ta tb σ Q false H := q
theorem g_kIf (h1 : c = true → ta σ H Q) (h2 : c = false → tb σ H Q) : kIf ta tb σ Q c H := by
  cases c with
  | true => exact h1 rfl
  | false => exact h2 rfl
def kIfS (t u : TS) (D : Ends) (σ : L2.St) (c : Bool) (H1 : Hp) : Prop := if c = true then t D σ H1 else u D σ H1
theorem g_ifS (q : t σ H (kIfS t1 t2 D σ)) : tIfS t t1 t2 D σ H := q
theorem g_kIfST (q : t1 D σ H) : kIfS t1 t2 D σ true H := q
theorem g_kIfSF (q : t2 D σ H) : kIfS t1 t2 D σ false H := q
theorem g_kIfS (h1 : c = true → t1 D σ H) (h2 : c = false → t2 D σ H) : kIfS t1 t2 D σ c H := by
  cases c with
  | true => exact h1 rfl
  | false => exact h2 rfl
def kChain (r' : R2) (tc : TE) (σ : L2.St) (y : V) (Q : VK) : VK := fun z H3 => ∃ k, z = .bl k ∧ (if k = true then tc σ H3 fun w' H4 => r' y w' H4 Q else Q (.bl false) H3)
theorem g_chain (q : ta σ H fun x H1 => tb σ H1 fun y H2 => r x y H2 (kChain r' tc σ y Q)) : tChain r r' ta tb tc σ H Q := q
theorem g_kChainT (q : tc σ H fun w' H4 => r' y w' H4 Q) : kChain r' tc σ y Q (.bl true) H := ⟨true, rfl, q⟩
theorem g_kChainF (q : Q (.bl false) H) : kChain r' tc σ y Q (.bl false) H := ⟨false, rfl, q⟩
theorem g_kChain (h1 : c = true → tc σ H fun w' H4 => r' y w' H4 Q) (h2 : c = false → Q (.bl false) H) : kChain r' tc σ y Q (.bl c) H := by
  cases c with
  | true => exact g_kChainT (h1 rfl)
  | false => exact g_kChainF (h2 rfl)
theorem y_kAnd (hc : c = true) (q : u σ H QB) : kAnd u σ QB c H := by rw [hc]; exact q
theorem n_kAnd (hc : c = false) (q : QB false H) : kAnd u σ QB c H := by rw [hc]; exact q
theorem y_kOr (hc : c = true) (q : QB true H) : kOr u σ QB c H := by rw [hc]; exact q
theorem n_kOr (hc : c = false) (q : u σ H QB) : kOr u σ QB c H := by rw [hc]; exact q
theorem y_kNot (hc : c = true) (q : QB false H) : kNot QB c H := by rw [hc]; exact q
theorem n_kNot (hc : c = false) (q : QB true H) : kNot QB c H := by rw [hc]; exact q
theorem y_kAndV (hc : c = true) (q : tb σ H Q) : kAndV tb σ Q (.bl c) H := by rw [hc]; exact g_kAndVT q
theorem n_kAndV (hc : c = false) (q : Q (.bl false) H) : kAndV tb σ Q (.bl c) H := by rw [hc]; exact g_kAndVF q
theorem y_kOrV (hc : c = true) (q : Q (.bl true) H) : kOrV tb σ Q (.bl c) H := by rw [hc]; exact g_kOrVT q
theorem n_kOrV (hc : c = false) (q : tb σ H Q) : kOrV tb σ Q (.bl c) H := by rw [hc]; exact g_kOrVF q
theorem y_kIf (hc : c = true) (q : ta σ H Q) : kIf ta tb σ Q c H := by rw [hc]; exact q
theorem n_kIf (hc : c = false) (q : tb σ H Q) : kIf ta tb σ Q c H := by rw [hc]; exact q
theorem y_kIfS (hc : c = true) (q : t1 D σ H) : kIfS t1 t2 D σ c H := by rw [hc]; exact q
theorem n_kIfS (hc : c = false) (q : t2 D σ H) : kIfS t1 t2 D σ c H := by rw [hc]; exact q
theorem y_kChain (hc : c = true) (q : tc σ H fun w' H4 => r' y w' H4 Q) : kChain r' tc σ y Q (.bl c) H := by rw [hc]; exact g_kChainT q
theorem n_kChain (hc : c = false) (q : Q (.bl false) H) : kChain r' tc σ y Q (.bl c) H := by rw [hc]; exact g_kChainF q
/-! objects -/
def kFld (K : PySem.W.Frag) (f : Str) (Q : VK) : VK := fun x H1 => ∃ a C dx fs v, x = .ref a ∧ H1 a = some (.ins C dx fs) ∧ Cls K C ∧ NoAttr K C f ∧ fs.lookup f = some v ∧ Q v H1
theorem g_fld (q : ta σ H (kFld K f Q)) : tFld K ta f σ H Q := q
theorem g_kFld (h : H a = some (.ins C dx fs)) (c : Cls K C) (n : NoAttr K C f) (l : fs.lookup f = some v) (q : Q v H) : kFld K f Q (.ref a) H := ⟨a, C, dx, fs, v, rfl, h, c, n, l, q⟩
def kMeth (C : Addr) (m : Str) (sp : Sp) (E : XK) (tr : TA) (σ : L2.St) (Q : VK) : VK := fun x H1 => ∃ a dx fs, x = .ref a ∧ H1 a = some (.ins C dx fs) ∧ fs.lookup m = none ∧ tr σ H1 fun vs H2 => sp (x :: vs) H2 Q E
theorem g_meth (q : ta σ H (kMeth C m sp E tr σ Q)) : tMeth C m sp [] E ta tr σ H Q := by
  have e : (fun (x : V) (H1 : Hp) => ∃ a dx fs, x = .ref a ∧ H1 a = some (.ins C dx fs) ∧ fs.lookup m = none ∧ tr σ H1 fun vs H2 => sp (x :: (vs ++ [])) H2 Q E) = kMeth C m sp E tr σ Q := by
    funext x H1
    have e2 : (fun (vs : List V) (H2 : Hp) => sp (x :: (vs ++ [])) H2 Q E) = fun vs H2 => sp (x :: vs) H2 Q E := by
      funext vs H2
      rw [List.append_nil]
    unfold kMeth
    rw [e2]
  show ta σ H (fun (x : V) (H1 : Hp) => ∃ a dx fs, x = .ref a ∧ H1 a = some (.ins C dx fs) ∧ fs.lookup m = none ∧ tr σ H1 fun vs H2 => sp (x :: (vs ++ [])) H2 Q E)
  rw [e]
  exact q
theorem g_kMeth (h : H a = some (.ins C dx fs)) (l : fs.lookup m = none) (q : tr σ H fun vs H2 => sp (.ref a :: vs) H2 Q E) : kMeth C m sp E tr σ Q (.ref a) H := ⟨a, dx, fs, rfl, h, l, q⟩
def kProp (C : Addr) (sp : Sp) (E : XK) (Q : VK) : VK := fun x H1 => ∃ a dx fs, x = .ref a ∧ H1 a = some (.ins C dx fs) ∧ sp [.ref a] H1 Q E
theorem g_prop (q : ta σ H (kProp C sp E Q)) : tProp C sp [] E ta σ H Q := q
theorem g_kProp (h : H a = some (.ins C dx fs)) (q : sp [.ref a] H Q E) : kProp C sp E Q (.ref a) H := ⟨a, dx, fs, rfl, h, q⟩
/-- a new instance: its own dict at dx -/
def kMake (C : Addr) (sp : Sp) (E : XK) (Q : VK) (vs : List V) (H1 : Hp) : Prop := ∀ x dx, H1 x = none → H1 dx = none → dx ≠ x → sp (.ref x :: vs) (upd (upd H1 dx (.own x)) x (.ins C dx [])) (fun v H2 => v = .non ∧ Q (.ref x) H2) E
theorem g_make (q : tr σ H (kMake C sp E Q)) : tMake C sp [] E tr σ H Q := by
  have e : (fun (vs : List V) (H1 : Hp) => ∀ x dx, H1 x = none → H1 dx = none → dx ≠ x → sp (.ref x :: (vs ++ [])) (upd (upd H1 dx (.own x)) x (.ins C dx [])) (fun v H2 => v = .non ∧ Q (.ref x) H2) E) = kMake C sp E Q := by
    funext vs H1
    rw [List.append_nil] <;> rfl
  show tr σ H (fun (vs : List V) (H1 : Hp) => ∀ x dx, H1 x = none → H1 dx = none → dx ≠ x → sp (.ref x :: (vs ++ [])) (upd (upd H1 dx (.own x)) x (.ins C dx [])) (fun v H2 => v = .non ∧ Q (.ref x) H2) E)
  rw [e]
  exact q
def kSFld (K : PySem.W.Frag) (f : Str) (D : Ends) (σ : L2.St) (y : V) : VK := fun x H2 => ∃ a C dx fs, x = .ref a ∧ H2 a = some (.ins C dx fs) ∧ Cls K C ∧ NoAttr K C f ∧ fs.length < 1000 ∧ D.nx σ (upd H2 a (.ins C dx (putF f y fs)))
theorem g_sfld (q : tb σ H fun y H1 => ta σ H1 (kSFld K f D σ y)) : sFld K ta tb f D σ H := q
theorem g_kSFld (h : H a = some (.ins C dx fs)) (c : Cls K C) (n : NoAttr K C f) (l : fs.length < 1000) (q : ∀ H2, Exb a H H2 → H2 a = some (.ins C dx (putF f y fs)) → D.nx σ H2) : kSFld K f D σ y (.ref a) H := ⟨a, C, dx, fs, rfl, h, c, n, l, q _ Exb.upd upd_same⟩
/-! slices, ranges as lists, methods of the built-in types -/
theorem g_sl {rs : V → Option Int → Option Int → Hp → VK → Prop} {tl th : TO} (q : te σ H fun x H1 => tl σ H1 fun l H2 => th σ H2 fun h H3 => rs x l h H3 Q) : tSl rs te tl th σ H Q := q
theorem g_nopart {QO : Option Int → Hp → Prop} (q : QO none H) : tNoPart σ H QO := q
def kPart (QO : Option Int → Hp → Prop) : VK := fun x H1 => ∃ i, x = .int i ∧ QO (some i) H1
theorem g_part {QO : Option Int → Hp → Prop} (q : te σ H (kPart QO)) : tPart te σ H QO := q
theorem g_kPart {QO : Option Int → Hp → Prop} {i : Int} (q : QO (some i) H) : kPart QO (.int i) H := ⟨i, rfl, q⟩
def kLRg (Q : VK) (a b : Int) (H1 : Hp) : Prop := RgOk a b ∧ ∀ q, H1 q = none → Q (.ref q) (upd H1 q (.lst (rgV a b)))
theorem g_lstRg {tg : L2.St → Hp → (Int → Int → Hp → Prop) → Prop} (q : tg σ H (kLRg Q)) : tLstRg tg σ H Q := q
theorem g_kLRg {i j : Int} (h : RgOk i j) (q : ∀ p H2, H p = none → Ex H H2 → H2 p = some (.lst (rgV i j)) → Q (.ref p) H2) : kLRg Q i j H := ⟨h, fun p hp => q p _ hp (Ex.new hp) upd_same⟩
def kRg1 (R : Int → Int → Hp → Prop) : VK := fun x H1 => ∃ n, x = .int n ∧ R 0 n H1
theorem g_rg1 {R : Int → Int → Hp → Prop} (q : ta σ H (kRg1 R)) : tRg1 ta σ H R := q
theorem g_kRg1 {R : Int → Int → Hp → Prop} {n : Int} (q : R 0 n H) : kRg1 R (.int n) H := ⟨n, rfl, q⟩
theorem g_rg2 {R : Int → Int → Hp → Prop} (q : ta σ H fun x H1 => tb σ H1 fun y H2 => ∃ i j, x = .int i ∧ y = .int j ∧ R i j H2) : tRg2 ta tb σ H R := q
def kBM (K : PySem.W.Frag) (T : String) (r : V → List V → Hp → VK → Prop) (tr : TA) (σ : L2.St) (Q : VK) : VK := fun x H1 => tyV K T x H1 ∧ tr σ H1 fun xs H2 => r x xs H2 Q
theorem g_bm {r : V → List V → Hp → VK → Prop} {T : String} (q : ta σ H (kBM K T r tr σ Q)) : tBM K T r ta tr σ H Q := q
theorem g_kBM_list {r : V → List V → Hp → VK → Prop} (h : SqL K H a xs) (q : tr σ H fun vs H2 => r (.ref a) vs H2 Q) : kBM K "list" r tr σ Q (.ref a) H := ⟨.inl ⟨rfl, xs, h⟩, q⟩
/-! statements -/
theorem g_seq (q : t1 { D with nx := t2 D } σ H) : tSeq t1 t2 D σ H := q
theorem g_next (q : D.nx σ H) : tNext D σ H := q
theorem g_break (q : D.bk σ H) : tBreak D σ H := q
theorem g_cont (q : D.ct σ H) : tCont D σ H := q
theorem g_asg {g : TG} (q : te σ H fun x H1 => g x σ H1 D.nx) : tAsg te g D σ H := q
theorem g_ret (q : te σ H D.rt) : tRet te D σ H := q
theorem g_retN (q : D.rt .non H) : tRetN D σ H := q
theorem g_drop (q : te σ H fun _ H1 => D.nx σ H1) : tDrop te D σ H := q
theorem gg_name {QS : L2.St → Hp → Prop} (q : QS (σ.set i (some v)) H) : gName i v σ H QS := q
theorem gg_tup {QS : L2.St → Hp → Prop} {n : Nat} {gs : TGs} (h : SqT K H a xs) (l : xs.length = n) (q : gs xs σ H QS) : gTup K n gs (.ref a) σ H QS := ⟨a, xs, rfl, h, l, q⟩
theorem gg_cons {QS : L2.St → Hp → Prop} {g : TG} {gs : TGs} (q : g v σ H fun σ' H' => gs xs σ' H' QS) : gCons g gs (v :: xs) σ H QS := ⟨v, xs, rfl, q⟩
theorem gg_nil {QS : L2.St → Hp → Prop} (q : QS σ H) : gNil [] σ H QS := ⟨rfl, q⟩
theorem gg_sub {QS : L2.St → Hp → Prop} {st : TSet} (q : ta σ H fun o H1 => tb σ H1 fun k H2 => st o k v H2 fun H3 => QS σ H3) : gSub ta tb st v σ H QS := q
theorem g_setL {QH : Hp → Prop} {l : Addr} {k : Int} {j : Nat} (h : H l = some (.lst xs)) (e : ixN xs.length k = some j) (q : ∀ H2, Exb l H H2 → H2 l = some (.lst (xs.set j v)) → QH H2) : rSetL (.ref l) (.int k) v H QH := ⟨l, xs, k, j, rfl, rfl, h, e, q _ Exb.upd upd_same⟩
def kPar (i j : Nat) (D : Ends) (σ : L2.St) (vs : List V) (H1 : Hp) : Prop := ∃ v w, vs = [v, w] ∧ D.nx ((σ.set i (some v)).set j (some w)) H1
theorem g_par {j : Nat} (q : tr σ H (kPar i j D σ)) : tPar i j tr D σ H := q
theorem g_kPar {j : Nat} (q : D.nx ((σ.set i (some x)).set j (some y)) H) : kPar i j D σ [x, y] H := ⟨x, y, rfl, q⟩
theorem g_aug {ti : TIp} (h : σ[i]? = some (some x)) (q : te σ H fun y H1 => ti x y H1 fun z H2 => D.nx (σ.set i (some z)) H2) : tAug i te ti D σ H := ⟨x, h, q⟩
theorem g_ipI {g : Int → Int → Int} {p k : Int} (q : Q (.int (g p k)) H) : ipI g (.int p) (.int k) H Q := ⟨p, k, rfl, rfl, q⟩
/-- while: W with its measure -/
def kWh (W : Nat → L2.St → Hp → Prop) (tb : TS) (D : Ends) (m : Nat) (σ : L2.St) (b : Bool) (H1 : Hp) : Prop :=
  if b = true then ∃ N : L2.St → Hp → Prop, (∀ σ' H', N σ' H' → ∃ m', m' < m ∧ W m' σ' H') ∧ tb { D with nx := N, ct := N, bk := D.nx } σ H1 else D.nx σ H1
theorem g_while (W : Nat → L2.St → Hp → Prop) (m0 : Nat) (h0 : W m0 σ H) (hs : ∀ m σ' H', W m σ' H' → t σ' H' (kWh W t1 D m σ')) : tWhile t t1 D σ H := ⟨W, ⟨m0, h0⟩, hs⟩
theorem g_kWhT {W : Nat → L2.St → Hp → Prop} {m : Nat} (q : t1 { D with nx := fun σ' H' => ∃ m', m' < m ∧ W m' σ' H', ct := fun σ' H' => ∃ m', m' < m ∧ W m' σ' H', bk := D.nx } σ H) : kWh W t1 D m σ true H := ⟨_, fun _ _ h => h, q⟩
theorem g_kWhF {W : Nat → L2.St → Hp → Prop} {m : Nat} (q : D.nx σ H) : kWh W t1 D m σ false H := q
theorem g_kWh {W : Nat → L2.St → Hp → Prop} {m : Nat} (h1 : b = true → t1 { D with nx := fun σ' H' => ∃ m', m' < m ∧ W m' σ' H', ct := fun σ' H' => ∃ m', m' < m ∧ W m' σ' H', bk := D.nx } σ H) (h2 : b = false → D.nx σ H) : kWh W t1 D m σ b H := by
  cases b with
  | true => exact g_kWhT (h1 rfl)
  | false => exact g_kWhF (h2 rfl)
theorem y_kWh {W : Nat → L2.St → Hp → Prop} {m : Nat} (hc : b = true) (q : t1 { D with nx := fun σ' H' => ∃ m', m' < m ∧ W m' σ' H', ct := fun σ' H' => ∃ m', m' < m ∧ W m' σ' H', bk := D.nx } σ H) : kWh W t1 D m σ b H := by rw [hc]; exact g_kWhT q
theorem n_kWh {W : Nat → L2.St → Hp → Prop} {m : Nat} (hc : b = false) (q : D.nx σ H) : kWh W t1 D m σ b H := by rw [hc]; exact g_kWhF q
/-- for over a list, a tuple, a range -/
def kForL (K : PySem.W.Frag) (g : TG) (tb : TS) (D : Ends) (σ : L2.St) : VK := fun x H1 => tFor (iList K (tC x)) g tb D σ H1
theorem g_forL {g : TG} (q : te σ H (kForL K g t1 D σ)) : tFor (iList K te) g t1 D σ H := q
theorem g_kForL {g : TG} (h : SqL K H a xs) (Pv : Nat → L2.St → Hp → Prop) (h0 : Pv 0 σ H) (hl : ∀ i σ H, i ≤ xs.length → Pv i σ H → SqL K H a xs)
    (hs : ∀ i x σ H, xs[i]? = some x → Pv i σ H → g x σ H fun σ2 H2 => t1 { D with nx := Pv (i + 1), ct := Pv (i + 1), bk := D.nx } σ2 H2) (hd : ∀ σ H, Pv xs.length σ H → D.nx σ H) : kForL K g t1 D σ (.ref a) H :=
  ⟨a, rfl, ⟨xs, h⟩, for_list Pv h0 hl hs hd⟩
def kForT (K : PySem.W.Frag) (g : TG) (tb : TS) (D : Ends) (σ : L2.St) : VK := fun x H1 => tFor (iTup K (tC x)) g tb D σ H1
theorem g_forT {g : TG} (q : te σ H (kForT K g t1 D σ)) : tFor (iTup K te) g t1 D σ H := q
theorem g_kForT {g : TG} (h : SqT K H a xs) (Pv : Nat → L2.St → Hp → Prop) (h0 : Pv 0 σ H) (hl : ∀ i σ H, i ≤ xs.length → Pv i σ H → SqT K H a xs)
    (hs : ∀ i x σ H, xs[i]? = some x → Pv i σ H → g x σ H fun σ2 H2 => t1 { D with nx := Pv (i + 1), ct := Pv (i + 1), bk := D.nx } σ2 H2) (hd : ∀ σ H, Pv xs.length σ H → D.nx σ H) : kForT K g t1 D σ (.ref a) H :=
  ⟨a, rfl, ⟨xs, h⟩, for_tup Pv h0 hl hs hd⟩
def kForR1 (g : TG) (tb : TS) (D : Ends) (σ : L2.St) (vs : List V) (H1 : Hp) : Prop := tFor (iRng1 (fun _ H Q => Q vs H)) g tb D σ H1
theorem g_forR1 {g : TG} (q : tr σ H (kForR1 g t1 D σ)) : tFor (iRng1 tr) g t1 D σ H := q
theorem g_kForR1 {g : TG} {n : Int} (hn : 0 ≤ n ∧ n < 2 ^ 62) (Pv : Nat → L2.St → Hp → Prop) (h0 : Pv 0 σ H)
    (hs : ∀ (i : Nat) σ H, (i : Int) < n → Pv i σ H → g (.int i) σ H fun σ2 H2 => t1 { D with nx := Pv (i + 1), ct := Pv (i + 1), bk := D.nx } σ2 H2) (hd : ∀ σ H, Pv n.toNat σ H → D.nx σ H) : kForR1 g t1 D σ [.int n] H :=
  ⟨n, rfl, by omega, by omega, for_range (lo := 0) (n := n.toNat) Pv h0 (fun i σ H hi p => by
    have e0 : (0 : Int) + (i : Int) = (i : Int) := Int.zero_add _
    rw [e0]
    exact hs i σ H (by omega) p) hd⟩
def kForR2 (g : TG) (tb : TS) (D : Ends) (σ : L2.St) (vs : List V) (H1 : Hp) : Prop := tFor (iRng2 (fun _ H Q => Q vs H)) g tb D σ H1
theorem g_forR2 {g : TG} (q : tr σ H (kForR2 g t1 D σ)) : tFor (iRng2 tr) g t1 D σ H := q
theorem g_kForR2 {g : TG} {lo n : Int} (hn : -(2 ^ 62) ≤ lo ∧ lo < 2 ^ 62 ∧ -(2 ^ 62) ≤ n ∧ n < 2 ^ 62) (Pv : Nat → L2.St → Hp → Prop) (h0 : Pv 0 σ H)
    (hs : ∀ (i : Nat) σ H, lo + (i : Int) < n → Pv i σ H → g (.int (lo + i)) σ H fun σ2 H2 => t1 { D with nx := Pv (i + 1), ct := Pv (i + 1), bk := D.nx } σ2 H2) (hd : ∀ σ H, Pv (n - lo).toNat σ H → D.nx σ H) : kForR2 g t1 D σ [.int lo, .int n] H :=
  ⟨lo, n, rfl, hn, for_range (lo := lo) (n := (n - lo).toNat) Pv h0 (fun i σ H hi p => hs i σ H (by omega) p) hd⟩
/-! relations on values -/
theorem g_add {p k : Int} (q : Q (.int (p + k)) H) : rI0 (fun i j => .int (i + j)) (.int p) (.int k) H Q := ⟨p, k, rfl, rfl, q⟩
theorem g_sub {p k : Int} (q : Q (.int (p - k)) H) : rI0 (fun i j => .int (i - j)) (.int p) (.int k) H Q := ⟨p, k, rfl, rfl, q⟩
theorem g_mul {p k : Int} (h : CMul p k) (q : Q (.int (p * k)) H) : rI CMul (fun i j => .int (i * j)) (.int p) (.int k) H Q := ⟨p, k, rfl, rfl, h, q⟩
theorem g_fdiv {p k : Int} (h : CDiv p k) (q : Q (.int (p / k)) H) : rI CDiv (fun i j => .int (i / j)) (.int p) (.int k) H Q := ⟨p, k, rfl, rfl, h, q⟩
theorem g_mod {p k : Int} (h : 0 < k) (q : Q (.int (p % k)) H) : rI (fun _ j => 0 < j) (fun i j => .int (i % j)) (.int p) (.int k) H Q := ⟨p, k, rfl, rfl, h, q⟩
theorem g_pow {p k : Int} (h : CPow p k) (q : Q (.int (p ^ k.toNat)) H) : rI CPow (fun i j => .int (i ^ j.toNat)) (.int p) (.int k) H Q := ⟨p, k, rfl, rfl, h, q⟩
theorem g_lt {p k : Int} (q : Q (.bl (decide (p < k))) H) : rI0 (fun i j => .bl (decide (i < j))) (.int p) (.int k) H Q := ⟨p, k, rfl, rfl, q⟩
theorem g_le {p k : Int} (q : Q (.bl (decide (p ≤ k))) H) : rI0 (fun i j => .bl (decide (i ≤ j))) (.int p) (.int k) H Q := ⟨p, k, rfl, rfl, q⟩
theorem g_gt {p k : Int} (q : Q (.bl (decide (k < p))) H) : rI0 (fun i j => .bl (decide (j < i))) (.int p) (.int k) H Q := ⟨p, k, rfl, rfl, q⟩
theorem g_ge {p k : Int} (q : Q (.bl (decide (k ≤ p))) H) : rI0 (fun i j => .bl (decide (j ≤ i))) (.int p) (.int k) H Q := ⟨p, k, rfl, rfl, q⟩
theorem g_neg {p : Int} (q : Q (.int (-p)) H) : rU (fun i => .int (-i)) (.int p) H Q := ⟨p, rfl, q⟩
theorem dec_ii {p k : Int} : decide (V.int p = V.int k) = decide (p = k) := by rw [dec_int, Bool.beq_eq_decide_eq]
theorem g_eqI {p k : Int} (q : Q (.bl (decide (p = k))) H) : rEq (.int p) (.int k) H Q := ⟨rfl, by rw [dec_ii]; exact q⟩
theorem g_neI {p k : Int} (q : Q (.bl (!decide (p = k))) H) : rNe (.int p) (.int k) H Q := ⟨rfl, by rw [dec_ii]; exact q⟩
theorem g_eqS (h : scal x y = true) (q : Q (.bl (decide (x = y))) H) : rEq x y H Q := ⟨h, q⟩
theorem g_neS (h : scal x y = true) (q : Q (.bl (!decide (x = y))) H) : rNe x y H Q := ⟨h, q⟩
theorem g_ixL {k : Int} (h : SqL K H a xs) (e : atI xs k = some v) (q : Q v H) : rIxL K (.ref a) (.int k) H Q := ⟨a, xs, k, v, rfl, rfl, h, e, q⟩
theorem g_ixT {k : Int} (h : SqT K H a xs) (e : atI xs k = some v) (q : Q v H) : rIxT K (.ref a) (.int k) H Q := ⟨a, xs, k, v, rfl, rfl, h, e, q⟩
theorem g_eqD {d e : PyData} (h1 : Dp K H x d) (h2 : Dp K H y e) (s1 : SeqAt.shaped d = true) (s2 : SeqAt.shaped e = true) (q : Q (.bl (PyData.eqv d e)) H) : rEqD K x y H Q := ⟨d, e, h1, h2, s1, s2, q⟩
theorem g_neD {d e : PyData} (h1 : Dp K H x d) (h2 : Dp K H y e) (s1 : SeqAt.shaped d = true) (s2 : SeqAt.shaped e = true) (q : Q (.bl (!PyData.eqv d e)) H) : rNeD K x y H Q := ⟨d, e, h1, h2, s1, s2, q⟩
/-- t + u, t[lo:hi] of tuples: some tuple of these items -/
theorem g_catA {a b : Addr} {xs ys : List V} (h1 : SqT K H a xs) (h2 : SqT K H b ys) (l : xs.length + ys.length ≤ sizeLine) (q : ∀ p H2, Ex H H2 → SqT K H2 p (xs ++ ys) → Q (.ref p) H2) : rCatA K (.ref a) (.ref b) H Q :=
  ⟨a, b, xs, ys, rfl, rfl, h1, h2, l, fun e => q b H (Ex.refl H) (by rw [e]; exact h2), fun _ e => q a H (Ex.refl H) (by rw [e, List.append_nil]; exact h1), fun _ _ p hp => q p _ (Ex.new hp) (SqT.of upd_same)⟩
theorem cutV_whole {xs : List V} {lo hi : Option Int} (h : HT.sIx xs.length 0 lo = 0 ∧ HT.sIx xs.length xs.length hi = xs.length) : cutV xs lo hi = xs := by
  unfold cutV
  rw [h.1, h.2]
  simp
theorem g_slA {lo hi : Option Int} (h : SqT K H a xs) (q : ∀ p H2, Ex H H2 → SqT K H2 p (cutV xs lo hi) → Q (.ref p) H2) : rSlA K (.ref a) lo hi H Q :=
  ⟨a, xs, rfl, h, fun w => q a H (Ex.refl H) (by rw [cutV_whole w]; exact h), fun _ p hp => q p _ (Ex.new hp) (SqT.of upd_same)⟩
theorem g_slL {lo hi : Option Int} (h : SqL K H a xs) (q : ∀ p H2, H p = none → Ex H H2 → H2 p = some (.lst (cutV xs lo hi)) → Q (.ref p) H2) : rSlL K (.ref a) lo hi H Q :=
  ⟨a, xs, rfl, h, fun p hp => q p _ hp (Ex.new hp) upd_same⟩
theorem g_cat {a b : Addr} (h1 : H a = some (.lst xs)) (h2 : H b = some (.lst ys)) (l : xs.length + ys.length ≤ sizeLine) (q : ∀ p H2, H p = none → Ex H H2 → H2 p = some (.lst (xs ++ ys)) → Q (.ref p) H2) : rCat (.ref a) (.ref b) H Q :=
  ⟨a, b, xs, ys, rfl, rfl, h1, h2, l, fun p hp => q p _ hp (Ex.new hp) upd_same⟩
theorem g_append {l : Addr} (h : H l = some (.lst xs)) (z : xs.length < sizeLine) (q : ∀ H2, Exb l H H2 → H2 l = some (.lst (xs ++ [y])) → Q .non H2) : rAppend (.ref l) [y] H Q := ⟨l, xs, y, rfl, rfl, h, z, q _ Exb.upd upd_same⟩
theorem g_sum {ns : List Int} (h : SqL K H a (ns.map V.int)) (q : Q (.int ns.sum) H) : rSum K [.ref a] H Q := ⟨a, ns, rfl, h, q⟩
theorem g_isi {u w : Value} (k : ClsV v u) (ty : TyX K H x w) (e : PySem.W.kitOne K w u = some b) (q : Q (.bl b) H) : rIsi K [x, v] H Q := ⟨x, v, w, u, b, rfl, k, ty, e, q⟩
end
/-! named relations of built-in calls -/
def rLen (K : PySem.W.Frag) : List V → Hp → VK → Prop := fun xs H Q => ∃ x n, xs = [x] ∧ LenV K x H n ∧ Q (.int n) H
def rListOf (K : PySem.W.Frag) : List V → Hp → VK → Prop := fun xs H Q => ∃ p ys, xs = [.ref p] ∧ (SqL K H p ys ∨ SqT K H p ys) ∧ ∀ l, H l = none → Q (.ref l) (upd H l (.lst ys))
def rTupOf (K : PySem.W.Frag) : List V → Hp → VK → Prop := fun xs H Q => ∃ p ys, xs = [.ref p] ∧ ((SqL K H p ys ∧ ∀ l, H l = none → Q (.ref l) (upd H l (.tup ys))) ∨ (SqT K H p ys ∧ Q (.ref p) H))
def rInt1 : List V → Hp → VK → Prop := fun xs H Q => (∃ i, xs = [.int i] ∧ Q (.int i) H) ∨ ∃ k, xs = [.bl k] ∧ Q (.int (if k then 1 else 0)) H
def rMax2 : List V → Hp → VK → Prop := fun xs H Q => ∃ i j, xs = [.int i, .int j] ∧ Q (.int (if j > i then j else i)) H
def rMin2 : List V → Hp → VK → Prop := fun xs H Q => ∃ i j, xs = [.int i, .int j] ∧ Q (.int (if j < i then j else i)) H
def rDivmod : List V → Hp → VK → Prop := fun xs H Q => ∃ i j, xs = [.int i, .int j] ∧ CDiv i j ∧ ∀ p, H p = none → Q (.ref p) (upd H p (.tup [.int (i / j), .int (i % j)]))
section
variable {X : Cx}
theorem c_len : CallR X (.builtin "len") (rLen X.K) := call_len
theorem c_list_of : CallR X (.type "list") (rListOf X.K) := call_list_of
theorem c_int1 : CallR X (.type "int") rInt1 := call_int1
theorem c_max2 (hc : X.calm = true) : CallR X (.builtin "max") rMax2 := call_max2 hc
theorem c_min2 (hc : X.calm = true) : CallR X (.builtin "min") rMin2 := call_min2 hc
theorem c_divmod : CallR X (.builtin "divmod") rDivmod := call_divmod
/-- a module's constant -/
theorem pint {x : Str} {i : Int} {pos : Pos} (h : ∃ t, X.mg x = some (.int i t)) (hg : Gl X x := by rfl) (hd : (x == ("__debug__" : Str)) = false := by decide) : PE X (.Name x pos) (tC (.int i)) := by
  obtain ⟨t, h⟩ := h
  exact pe_glob hg h ⟨_, rfl⟩ hd
theorem pstr {x z : Str} {pos : Pos} (h : ∃ t, X.mg x = some (.str z t)) (hg : Gl X x := by rfl) (hd : (x == ("__debug__" : Str)) = false := by decide) : PE X (.Name x pos) (tC (.str z)) := by
  obtain ⟨t, h⟩ := h
  exact pe_glob hg h ⟨_, rfl⟩ hd
end
section
variable {K : PySem.W.Frag} {H : Hp} {Q : VK} {a : Addr} {xs ys : List V} {z : Str}
theorem g_lenL (h : SqL K H a xs) (q : Q (.int (xs.length : Int)) H) : rLen K [.ref a] H Q := ⟨.ref a, xs.length, rfl, .inl ⟨xs, h, rfl⟩, q⟩
theorem g_lenT (h : SqT K H a xs) (q : Q (.int (xs.length : Int)) H) : rLen K [.ref a] H Q := ⟨.ref a, xs.length, rfl, .inr ⟨xs, h, rfl⟩, q⟩
theorem g_lenLM {α : Type} {g : α → V} {ns : List α} (h : SqL K H a (ns.map g)) (q : Q (.int (ns.length : Int)) H) : rLen K [.ref a] H Q := ⟨.ref a, ns.length, rfl, .inl ⟨_, h, (List.length_map g).symm⟩, q⟩
theorem g_lenTM {α : Type} {g : α → V} {ns : List α} (h : SqT K H a (ns.map g)) (q : Q (.int (ns.length : Int)) H) : rLen K [.ref a] H Q := ⟨.ref a, ns.length, rfl, .inr ⟨_, h, (List.length_map g).symm⟩, q⟩
theorem g_lenS (h : z.length ≤ sizeLine) (q : Q (.int (z.length : Int)) H) : rLen K [.str z] H Q := ⟨.str z, z.length, rfl, ⟨h, rfl⟩, q⟩
theorem g_listL (h : SqL K H a xs) (q : ∀ p H2, H p = none → Ex H H2 → H2 p = some (.lst xs) → Q (.ref p) H2) : rListOf K [.ref a] H Q := ⟨a, xs, rfl, .inl h, fun p hp => q p _ hp (Ex.new hp) upd_same⟩
theorem g_listT (h : SqT K H a xs) (q : ∀ p H2, H p = none → Ex H H2 → H2 p = some (.lst xs) → Q (.ref p) H2) : rListOf K [.ref a] H Q := ⟨a, xs, rfl, .inr h, fun p hp => q p _ hp (Ex.new hp) upd_same⟩
theorem g_tupL (h : SqL K H a xs) (q : ∀ p H2, H p = none → Ex H H2 → H2 p = some (.tup xs) → Q (.ref p) H2) : rTupOf K [.ref a] H Q := ⟨a, xs, rfl, .inl ⟨h, fun p hp => q p _ hp (Ex.new hp) upd_same⟩⟩
theorem g_int1 {i : Int} (q : Q (.int i) H) : rInt1 [.int i] H Q := .inl ⟨i, rfl, q⟩
theorem g_int1b {b : Bool} (q : Q (.int (if b then 1 else 0)) H) : rInt1 [.bl b] H Q := .inr ⟨b, rfl, q⟩
theorem max2_eq (i j : Int) : (if j > i then j else i) = max i j := by
  by_cases h : j > i
  · rw [if_pos h]
    omega
  · rw [if_neg h]
    omega
theorem min2_eq (i j : Int) : (if j < i then j else i) = min i j := by
  by_cases h : j < i
  · rw [if_pos h]
    omega
  · rw [if_neg h]
    omega
theorem g_max2 {i j : Int} (q : Q (.int (max i j)) H) : rMax2 [.int i, .int j] H Q := ⟨i, j, rfl, by rw [max2_eq]; exact q⟩
theorem g_min2 {i j : Int} (q : Q (.int (min i j)) H) : rMin2 [.int i, .int j] H Q := ⟨i, j, rfl, by rw [min2_eq]; exact q⟩
theorem g_divmod {i j : Int} (h : CDiv i j) (q : ∀ p H2, H p = none → Ex H H2 → H2 p = some (.tup [.int (i / j), .int (i % j)]) → Q (.ref p) H2) : rDivmod [.int i, .int j] H Q := ⟨i, j, rfl, h, fun p hp => q p _ hp (Ex.new hp) upd_same⟩
end
end G48
namespace PySem
open AutoSeq1 (wpAny_loadPart')
set_option maxHeartbeats 4000000 in
theorem g48_enum_newB {v : Value} {o : Obj} {H : Heap → Prop} (B : Begins v o H) :
    Meets (Builtin.«enumerate.__new__» ⟨[.type "enumerate", v], []⟩) (fun _ R s => H s.heap ∧
      R (.ok (.ret (.ref (s.heap.push o).objs.size))) { s with heap := (s.heap.push o).push { cls := .type "enumerate", data := .fields #[.none, .bool false, .ref s.heap.objs.size, rawInt 0, .none, .none] } }) :=
  .of_wp fun prog w A R s h => by
    obtain ⟨hp, g, d, tk, os⟩ := s; obtain ⟨h1, h⟩ := h
    have hsub := sub_enumerate
    have q1 : ∀ {A' : Around} {E : Value → Shared → Prop} {Q : Value → Shared → Prop}, Q (.ref hp.objs.size) ⟨hp.push o, g, d, tk, os⟩ → wpAny (model prog w) A' (pyIter v) Q E ⟨hp, g, d, tk, os⟩ :=
      fun q => B.iter prog w _ _ ⟨hp, g, d, tk, os⟩ _ h1 q
    wp_walk using q1
    refine wpAny_stack_any fun st => wpAny_pure ?_
    split
    · rename_i c _ _ _ _ _
      cases (c == Value.type "enumerate")
      · wp_walk using q1
        exact ⟨_, rfl, h⟩
      · wp_walk using q1
        exact ⟨_, rfl, h⟩
    · wp_walk using q1
      exact ⟨_, rfl, h⟩
section
variable {prog : Program} {w : World} {A : Around} {E : Value → Shared → Prop} {s : Shared}
theorem g48_call_enum {v : Value} {o : Obj} {H : Heap → Prop} {Q : Value → Shared → Prop} (B : Begins v o H) (h1 : H s.heap)
    (h : ∀ h', IsEnum h' (s.heap.objs.size + 1) s.heap.objs.size 0 .none → h'.get? s.heap.objs.size = some o → h'.objs.size = s.heap.objs.size + 2 →
      (∀ b o, s.heap.get? b = some o → h'.get? b = some o) → Q (.ref (s.heap.objs.size + 1)) { s with heap := h' }) :
    wpAny (model prog w) A (call (.type "enumerate") [v]) Q E s := by
  refine callType_new F.called_enumerate (by decide) (F.typeCall_enumerate_1 _) (F.newCall_enumerate_1 _) (fun obj => F.args_object_init_2 obj _) F.entry_enumerate_new
    (g48_enum_newB B) ⟨h1, ?_⟩
  have hz : (s.heap.push o).objs.size = s.heap.objs.size + 1 := Heap.size_push ..
  show _ ∧ _
  rw [hz]
  have he : IsEnum ((s.heap.push o).push
      { cls := .type "enumerate", data := .fields #[.none, .bool false, .ref s.heap.objs.size, rawInt 0, .none, .none] }) (s.heap.objs.size + 1) s.heap.objs.size 0 .none := by
    have := Heap.get?_push_size (s.heap.push o)
      (o := { cls := .type "enumerate", data := .fields #[.none, .bool false, .ref s.heap.objs.size, rawInt 0, .none, .none] }) rfl
    rw [hz] at this; exact this
  refine ⟨⟨_, he, rfl⟩, h _ he (Heap.get?_push_of_some _ (Heap.get?_push_size _ B.free)) (by rw [Heap.size_push, hz]) fun b o x => Heap.get?_push_of_some _ (Heap.get?_push_of_some _ x)⟩
end
end PySem
namespace G48
open PySem PySem.Spec PyProof.Rows L2 Evl
/-! ### enumerate(tuple) -/
def ItetG (K : PySem.W.Frag) (a : Addr) : It :=
  ⟨fun i H => ∃ (xs : List V) (x : V), SqT K H a xs ∧ xs[i]? = some x, fun i H v H' => ∃ T x, v = .ref T ∧ H T = none ∧ H' = upd H T (.tup [.int (i : Nat), x]) ∧ ∀ xs, SqT K H a xs → xs[i]? = some x, fun i H => ∃ xs : List V, SqT K H a xs ∧ xs.length ≤ i⟩
theorem turn_enumT {P : Program} {w : World} {K : PySem.W.Frag} {elts : List Expr} {kk : Nat} {tpos : Pos} (a e it : Addr) (ne1 : e ≠ it) (ne2 : e ≠ a) (ne3 : a ≠ it) :
    Turn P w K (.Tuple elts kk tpos) (ItetG K a) [e, it] e (fun i h => (∃ old, IsEnum h e it ((i : Nat) : Int) old) ∧ h.IsTupleIter it a i) where
  mem := by simp
  obj := fun i h st b hb => by
    obtain ⟨⟨old, he⟩, ⟨o, ho, hc, hd⟩⟩ := st
    have e' : b = e ∨ b = it := by simpa using hb
    rcases e' with z | z
    · rw [z]; exact ⟨_, he, fun v q => nomatch q⟩
    · rw [z]; exact ⟨o, ho, fun v q => by rw [hd] at q; cases q⟩
  keep := fun i h h' st k => let ⟨⟨old, he⟩, hi⟩ := st; ⟨⟨old, k e (by simp) _ he⟩, hi.at fun o q => k it (by simp) o q⟩
  item := by
    intro X hP hw hK hc i pins s σ H E I hf st hg
    subst hP hw hK
    obtain ⟨⟨old, he⟩, hit⟩ := st
    obtain ⟨xs, x, hq, hx⟩ := hg
    obtain ⟨its, rv, p, hz⟩ := I.tuple hq
    obtain ⟨u, hu, ru⟩ := rv.get hx
    have hel : e < s.heap.objs.size := Heap.lt_size he
    have hil : it < s.heap.objs.size := by obtain ⟨_, q, _⟩ := hit; exact Heap.lt_size q
    have hlt : i < its.toArray.size := by
      have := (List.getElem?_eq_some_iff.mp hu).1
      simpa using this
    have D : Draws X.prog X.w X.A.in1 it [it, a] its.toArray.size (fun i v => its.toArray[i]? = some v) (fun i h => h.IsTupleIter it a i ∧ h.IsTuple a its.toArray) := Draws.tuple (show X.A.in1.handled = none from I.ok.hd hc) it a ne3 its.toArray
    refine wpAny_pyNext_enum_itemC D he ⟨hit, show s.heap.IsTuple a its.toArray from p⟩ hlt ne1 (by simp [ne1, ne2]) fun y h' tk hy ho hst hT hsz hk => ?_
    have ey : y = u := by
      have h1 : its.toArray[i]? = some y := hy
      have h2 : its.toArray[i]? = some u := by simpa using hu
      rw [h1] at h2
      exact Option.some.inj h2
    subst ey
    refine ⟨_, rfl, wpAny_letOwnedTupleGo_enum (s := { s with heap := h', toks := tk + 1 }) ho fun h'' he' sb => ?_⟩
    have hT2 : h''.get? s.heap.objs.size = some { cls := .type "tuple", data := .seq #[.int i tk, y] } := (sb.2 _ (Nat.ne_of_gt hel)).trans hT
    have new : ObjOk X.prog X.w (upd H s.heap.objs.size (.tup [.int (i : Nat), x])) h'' s.heap.objs.size (.tup [.int (i : Nat), x]) :=
      ⟨by show 2 ≤ sizeLine; decide, [.int i tk, y], .cons ⟨_, rfl⟩ (.cons ru .nil), ⟨_, hT2, rfl, _, rfl⟩⟩
    have I1 : Inv X pins σ (upd H s.heap.objs.size (.tup [.int (i : Nat), x])) { s with heap := h'', toks := tk + 1 } :=
      I.turnedNew (ch := [e, it]) (fun b ob hb q => (sb.2 b (fun z => hb (by simp [z]))).trans (hk b ob (fun z => hb (by simp [z])) (fun z => hb (by simp [z])) q)) hf (Nat.le_refl _) new
    refine ⟨.ref s.heap.objs.size, _, I1, rfl, ⟨_, x, rfl, I.hok.fresh (Nat.le_refl _), rfl, fun ys hy => by rw [I.tuple_inj hy hq]; exact hx⟩, ⟨⟨y, ?_⟩, hst.1.at fun o q => (sb.2 it (Ne.symm ne1)).trans q⟩, fun b hb => ?_⟩
    · have e1 : ((i + 1 : Nat) : Int) = (i : Int) + 1 := by omega
      rw [e1]; exact he'
    · have hb' : b < s.heap.objs.size := by
        have e' : b = e ∨ b = it := by simpa using hb
        rcases e' with z | z
        · rw [z]; exact hel
        · rw [z]; exact hil
      rw [upd_ne (Nat.ne_of_lt hb')]
      exact (hf b hb).1
  done := by
    intro X hP hw hK hc i pins s σ H E I hf st hg
    subst hP hw hK
    obtain ⟨⟨old, he⟩, hit⟩ := st
    obtain ⟨xs, hq, hx⟩ := hg
    obtain ⟨its, rv, p, hz⟩ := I.tuple hq
    obtain ⟨f0, f1, f2, f3, f4, f5⟩ := hf it (by simp)
    have hl := rv.length
    have D : Draws X.prog X.w X.A.in1 it [it, a] i (fun _ _ => True) (fun j h => j = i ∧ h.IsTupleIter it a i ∧ h.IsTuple a its.toArray) :=
      { live := fun _ _ st => let ⟨_, ⟨o, ho, _⟩, _⟩ := st; ⟨o, ho⟩
        frame := fun _ _ _ st hk => ⟨st.1, st.2.1.at fun o e => hk it (by simp) o e, st.2.2.at fun o e => hk a (by simp) o e⟩
        item := fun j s Q E hi st hQ => absurd st.1 (Nat.ne_of_lt hi)
        done := fun s Q E st hE => wpAny_nextOf_tuple_end (show X.A.in1.handled = none from I.ok.hd hc) st.2.1 st.2.2 (by simp; omega) hE }
    exact wpAny_pyNext_enum_endD D he ⟨rfl, hit, show s.heap.IsTuple a its.toArray from p⟩ fun h' eb => ⟨rfl, I.turned (t' := s.toks) (fun b o hb q => eb b o hb q) f0 f1 f3 f4 f5⟩
  self := fun A i s Q E st h => let ⟨⟨_, he⟩, _⟩ := st; wpAny_pyIter_enum he h
def iEnumT (K : PySem.W.Frag) (ta : TA) : TI := fun σ H R => ta σ H fun vs H1 => ∃ a xs, vs = [.ref a] ∧ SqT K H1 a xs ∧ R (ItetG K a) H1
theorem pi_enumT {X : Cx} {e : Expr} {ta : TA} {p pos tpos : Pos} {elts : List Expr} {kk : Nat} (hg : Gl X "enumerate") (hm : X.mg "enumerate" = none) (ha : PA X [e] ta) (hs : starEach [e] X.env = [(false, eval e X.env)] := by rfl) :
    PI X (.Tuple elts kk tpos) (.Call (.Name "enumerate" p) [e] [] pos) (iEnumT X.K ta) := by
  refine ⟨fun pins s σ H R I h => ?_⟩
  refine Call_ (ld_blt I hg hm PyProof.Rows.boot_enumerate (PyProof.Rows.callWith_type1 (thn (ha.run pos pins s σ H _ I h) fun us s1 ⟨vs, H1, I1, r1, q1⟩ => ?_) hs rfl))
  obtain ⟨a, xs, ex, hq, q⟩ := q1
  subst ex
  cases r1 with
  | cons r rr =>
    cases rr
    cases r
    obtain ⟨its, rv, p', hz⟩ := I1.tuple hq
    have hal : a < s1.heap.objs.size := by
      obtain ⟨o, ho, _⟩ := id p'
      exact Heap.lt_size ho
    refine g48_call_enum (begins_tuple a its.toArray) (show s1.heap.IsTuple a its.toArray from p') fun h' he hit hsz hk => wpAny_pyIter_enum he ?_
    have I2 : Inv X pins σ H1 { s1 with heap := h' } := I1.kept (t' := s1.toks) hk
    refine ⟨s1.heap.objs.size + 1, [s1.heap.objs.size + 1, s1.heap.objs.size], _, _, H1, rfl, I2, turn_enumT a (s1.heap.objs.size + 1) s1.heap.objs.size (Nat.succ_ne_self _) (Nat.ne_of_gt (Nat.lt_succ_of_lt hal)) (Nat.ne_of_lt hal), ⟨⟨.none, he⟩, ⟨_, hit, rfl, rfl⟩⟩, fun b hb => ?_, q⟩
    have e' : b = s1.heap.objs.size + 1 ∨ b = s1.heap.objs.size := by simpa using hb
    have hle : s1.heap.objs.size ≤ b := by
      rcases e' with z | z
      · rw [z]; exact Nat.le_add_right _ _
      · rw [z]; exact Nat.le_refl _
    exact I1.fpOk hle (I1.hok.fresh hle)
section
variable {K : PySem.W.Frag} {a : Addr} {xs : List V}
theorem walk_enumT : Walk (ItetG K a) xs.length (fun H => SqT K H a xs) (YPair (fun i => some (.int (i : Nat))) (fun i => xs[i]?)) := by
  refine ⟨fun i _ hi q => ⟨xs, xs[i], q, by simp [hi]⟩, fun _ q => ⟨xs, q, Nat.le_refl _⟩, fun i H v H' _ q y => ?_⟩
  obtain ⟨T, x, h1, h2, h3, h4⟩ := y
  exact ⟨T, .int (i : Nat), x, h1, h2, h3, rfl, h4 xs q⟩
end
/-- the loop: each turn a pair (i, x) at a new place -/
def kForE (K : PySem.W.Frag) (g : TG) (tb : TS) (D : Ends) (σ : L2.St) (vs : List V) (H1 : Hp) : Prop := tFor (iEnumT K (fun _ H Q => Q vs H)) g tb D σ H1
section
variable {K : PySem.W.Frag} {σ : L2.St} {H : Hp} {tr : TA} {D : Ends} {t1 : TS} {g : TG} {a : Addr} {xs : List V}
theorem g_forE (q : tr σ H (kForE K g t1 D σ)) : tFor (iEnumT K tr) g t1 D σ H := q
theorem g_kForE (h : SqT K H a xs) (Pv : Nat → L2.St → Hp → Prop) (h0 : Pv 0 σ H) (hl : ∀ i σ H, i ≤ xs.length → Pv i σ H → SqT K H a xs)
    (hs : ∀ i x σ H T H', xs[i]? = some x → Pv i σ H → Ex H H' → H T = none → H' T = some (.tup [.int (i : Nat), x]) → g (.ref T) σ H' fun σ2 H2 => t1 { D with nx := Pv (i + 1), ct := Pv (i + 1), bk := D.nx } σ2 H2) (hd : ∀ σ H, Pv xs.length σ H → D.nx σ H) : kForE K g t1 D σ [.ref a] H :=
  ⟨a, xs, rfl, h, for_it walk_enumT Pv h0 hl (fun i x σ H H' hi p y => by
    obtain ⟨T, u, v, rfl, hT, rfl, e1, e2⟩ := y
    cases e1
    exact hs i v σ H T _ e2 p (Ex.new hT) hT upd_same) hd⟩
def kForEL (K : PySem.W.Frag) (g : TG) (tb : TS) (D : Ends) (σ : L2.St) (vs : List V) (H1 : Hp) : Prop := tFor (iEnum K (fun _ H Q => Q vs H)) g tb D σ H1
theorem g_forEL (q : tr σ H (kForEL K g t1 D σ)) : tFor (iEnum K tr) g t1 D σ H := q
theorem g_kForEL (h : SqL K H a xs) (Pv : Nat → L2.St → Hp → Prop) (h0 : Pv 0 σ H) (hl : ∀ i σ H, i ≤ xs.length → Pv i σ H → SqL K H a xs)
    (hs : ∀ i x σ H T H', xs[i]? = some x → Pv i σ H → Ex H H' → H T = none → H' T = some (.tup [.int (i : Nat), x]) → g (.ref T) σ H' fun σ2 H2 => t1 { D with nx := Pv (i + 1), ct := Pv (i + 1), bk := D.nx } σ2 H2) (hd : ∀ σ H, Pv xs.length σ H → D.nx σ H) : kForEL K g t1 D σ [.ref a] H :=
  ⟨a, xs, rfl, h, for_it walk_enum Pv h0 hl (fun i x σ H H' hi p y => by
    obtain ⟨T, u, v, rfl, hT, rfl, e1, e2⟩ := y
    cases e1
    exact hs i v σ H T _ e2 p (Ex.new hT) hT upd_same) hd⟩
end
/-! ### max and min of a tuple of ints -/
theorem maxOf_fold : ∀ (ns : List Int) (x : Int), (PySem.W.maxOf x ns = x ∨ PySem.W.maxOf x ns ∈ ns) ∧ x ≤ PySem.W.maxOf x ns ∧ ∀ y ∈ ns, y ≤ PySem.W.maxOf x ns
  | [], x => ⟨.inl rfl, Int.le_refl _, fun y h => by cases h⟩
  | y :: r, x => by
    have e : PySem.W.maxOf x (y :: r) = PySem.W.maxOf (if decide (x < y) = true then y else x) r := rfl
    rw [e]
    by_cases h : x < y
    · rw [if_pos (decide_eq_true h)]
      obtain ⟨h1, h2, h3⟩ := maxOf_fold r y
      refine ⟨?_, by omega, fun z hz => ?_⟩
      · rcases h1 with h1 | h1
        · exact .inr (by rw [h1]; exact List.mem_cons_self)
        · exact .inr (List.mem_cons_of_mem _ h1)
      · rcases List.mem_cons.mp hz with rfl | hz
        · exact h2
        · exact h3 z hz
    · rw [if_neg (by simpa using h)]
      obtain ⟨h1, h2, h3⟩ := maxOf_fold r x
      refine ⟨?_, h2, fun z hz => ?_⟩
      · rcases h1 with h1 | h1
        · exact .inl h1
        · exact .inr (List.mem_cons_of_mem _ h1)
      · rcases List.mem_cons.mp hz with rfl | hz
        · omega
        · exact h3 z hz
/-- the greatest of ints -/
def mx : List Int → Int
  | [] => 0
  | [x] => x
  | x :: y :: r => max x (mx (y :: r))
theorem mx_mem : ∀ {ns : List Int}, ns ≠ [] → mx ns ∈ ns
  | [], h => absurd rfl h
  | [x], _ => List.mem_cons_self
  | x :: y :: r, _ => by
    have ih := mx_mem (ns := y :: r) (List.cons_ne_nil _ _)
    show max x (mx (y :: r)) ∈ x :: y :: r
    by_cases h : mx (y :: r) ≤ x
    · rw [Int.max_eq_left h]
      exact List.mem_cons_self
    · rw [Int.max_eq_right (by omega)]
      exact List.mem_cons_of_mem _ ih
theorem le_mx : ∀ {ns : List Int} {y : Int}, y ∈ ns → y ≤ mx ns
  | [], _, h => by cases h
  | [x], y, h => by
    rcases List.mem_cons.mp h with rfl | h
    · exact Int.le_refl _
    · cases h
  | x :: z :: r, y, h => by
    show y ≤ max x (mx (z :: r))
    rcases List.mem_cons.mp h with rfl | h
    · omega
    · have := le_mx h
      omega
theorem mx_eq {ns : List Int} {m : Int} (h : m ∈ ns) (hl : ∀ y ∈ ns, y ≤ m) : m = mx ns := by
  have h1 := le_mx h
  have h2 := hl _ (mx_mem (List.ne_nil_of_mem h))
  omega
def rMaxT (K : PySem.W.Frag) : List V → Hp → VK → Prop := fun vs H Q => ∃ (a : Addr) (ns : List Int), vs = [V.ref a] ∧ SqT K H a (ns.map V.int) ∧ ns ≠ [] ∧ Q (.int (mx ns)) H
theorem cr_maxT {X : Cx} (hc : X.calm = true) (hu : X.A.units + 64 < cLine) : CallR X (.builtin "max") (rMaxT X.K) := by
  intro pins s σ H vs us Q I r h
  obtain ⟨a, ns, rfl, hs, hne, q⟩ := h
  obtain ⟨its, rv, hl, _⟩ := I.tuple hs
  rw [Vals.ref1 r]
  cases ns with
  | nil => exact absurd rfl hne
  | cons x ns =>
    refine PySem.W.max_tuple_datum (I.ok.hd hc) (show s.heap.IsTuple a its.toArray from hl) (x := x) (xs := ns) (PySem.W.HoldAll.of_ints (by simpa using rv.ints)) (by show X.A.units + 1 + 0 < cLine; omega) fun i v h' tk hi hv hk => ?_
    obtain ⟨as, hr⟩ := hv
    obtain ⟨h1, h2, h3⟩ := maxOf_fold ns x
    have e : PySem.W.maxOf x ns = mx (x :: ns) := by
      refine mx_eq ?_ ?_
      · rcases h1 with h1 | h1
        · rw [h1]; exact List.mem_cons_self
        · exact List.mem_cons_of_mem _ h1
      · intro y hy
        rcases List.mem_cons.mp hy with rfl | hy
        · exact h2
        · exact h3 y hy
    rw [e] at hr
    have hv : ∃ t, v = .int (mx (x :: ns)) t := by
      have hr2 : Reads h' v (.int (mx (x :: ns))) as := hr
      cases hr2
      exact ⟨_, rfl⟩
    obtain ⟨t, rfl⟩ := hv
    exact ⟨.int (mx (x :: ns)), H, I.kept hk, ⟨_, rfl⟩, q⟩
theorem g_maxT {K : PySem.W.Frag} {H : Hp} {a : Addr} {ns : List Int} {Q : VK} (h : SqT K H a (ns.map V.int)) (hn : ns ≠ []) (q : Q (.int (mx ns)) H) : rMaxT K [.ref a] H Q := ⟨a, ns, rfl, h, hn, q⟩
theorem g_maxL {K : PySem.W.Frag} {H : Hp} {a : Addr} {ns : List Int} {Q : VK} (h : SqL K H a (ns.map V.int)) (hn : ns ≠ []) (q : Q (.int (mx ns)) H) : rMax K [.ref a] H Q :=
  ⟨a, ns, rfl, h, List.length_pos_iff.mpr hn, fun m h1 h2 => by rw [mx_eq h1 h2]; exact q⟩
/-! ### tuple(list): the tuple's own object is told (a tuple's methods ask that it has no dict) -/
def TupK (H : Hp) (a : Addr) (xs : List V) : Prop := ∃ o, H a = some (.frz o (.tup xs)) ∧ o.cls = .type "tuple" ∧ o.dict = none
theorem TupK.sq {K : PySem.W.Frag} {H : Hp} {a : Addr} {xs : List V} (h : TupK H a xs) : SqT K H a xs := by
  obtain ⟨o, e, _⟩ := h
  exact .inl (.inr ⟨o, e⟩)
theorem TupK.ex {H H' : Hp} {a : Addr} {xs : List V} (e : Ex H H') (h : TupK H a xs) : TupK H' a xs := by
  obtain ⟨o, h, c⟩ := h
  exact ⟨o, e _ _ h, c⟩
theorem TupK.exb {H H' : Hp} {l a : Addr} {xs ys : List V} (e : Exb l H H') (hl : H l = some (.lst ys)) (h : TupK H a xs) : TupK H' a xs := by
  obtain ⟨o, h, c⟩ := h
  exact ⟨o, e _ _ (ne_of h hl (by intro z; cases z)) h, c⟩
def rTupD (K : PySem.W.Frag) : List V → Hp → VK → Prop := fun xs H Q => ∃ p ys, xs = [.ref p] ∧ ((SqL K H p ys ∧ ∀ l o, H l = none → o.cls = .type "tuple" → o.dict = none → Q (.ref l) (upd H l (.frz o (.tup ys)))) ∨ (SqT K H p ys ∧ Q (.ref p) H))
theorem c_tuple_of {X : Cx} : CallR X (.type "tuple") (rTupD X.K) := by
  intro pins s σ H xs us Q I r h
  obtain ⟨p, ys, rfl, h⟩ := h
  obtain ⟨u, rfl, rx⟩ := vals1 r
  cases rx
  rcases h with ⟨hq, q⟩ | ⟨hq, q⟩
  · obtain ⟨its, r', pl, hz⟩ := I.list hq
    have hlen := r'.length
    refine call_tuple_list pl.isList (fun h' kp => ?_) (by simp only [List.size_toArray] <;> omega)
    have I1 : Inv X pins σ H { s with heap := h' } := I.kept (t' := s.toks) kp
    have I2 : Inv X pins σ (upd H h'.objs.size (.frz { cls := .type "tuple", data := .seq its.toArray } (.tup ys))) { s with heap := h'.push { cls := .type "tuple", data := .seq its.toArray } } :=
      I1.laid (t' := s.toks) (fun b o e => Heap.get?_push_of_some _ e) (Nat.le_refl _) (show ObjOk X.prog X.w _ _ _ (.frz { cls := .type "tuple", data := .seq its.toArray } (.tup ys)) from ⟨Heap.get?_push_size _ rfl, hz, its, r', IsTup.new _ _⟩)
    exact ⟨.ref h'.objs.size, _, I2, rfl, q _ _ (I1.hok.fresh (Nat.le_refl _)) rfl rfl⟩
  · obtain ⟨its, r', pl, hz⟩ := I.tuple hq
    exact call_tuple_same pl ⟨.ref p, H, I, rfl, q⟩
theorem g_tupD {K : PySem.W.Frag} {H : Hp} {a : Addr} {xs : List V} {Q : VK} (h : SqL K H a xs) (q : ∀ p H2, H p = none → Ex H H2 → TupK H2 p xs → Q (.ref p) H2) : rTupD K [.ref a] H Q :=
  ⟨a, xs, rfl, .inl ⟨h, fun p o hp h1 h2 => q p _ hp (Ex.new hp) ⟨o, upd_same, h1, h2⟩⟩⟩
/-- t.index(n) -/
def tBMT (r : V → List V → Hp → VK → Prop) (to : TE) (t : TA) : TE := fun σ H Q => to σ H fun x H1 => (∃ p xs, x = .ref p ∧ TupK H1 p xs) ∧ t σ H1 fun ys H2 => r x ys H2 Q
section
variable {X : Cx} {o e : Expr} {es : List Expr} {to : TE} {t : TA} {name : Str} {apos cpos : Pos} {id : String} {r : V → List V → Hp → VK → Prop}
theorem pe_bmT (slot : Slot "tuple" name id) (hty : typeOf (.builtin id) = pure (.type "method_descriptor")) (hm : MtR X id r) (ho : PE X o to) (ha : PA X (e :: es) t)
    (hbase : attributeBase o name X.env (eval o X.env) = eval o X.env := by rfl)
    (hfew : ((backTo cpos (starEach (e :: es) X.env)).all (fun x => !x.1) && (backToKw cpos (keywordEach [] X.env)).all (fun x => x.1.isSome)
      && decide ((e :: es).length + ([] : List Keyword).length + (if ([] : List Keyword).isEmpty then 0 else 1) < 30)) = true := by rfl)
    (hline : (apos.endLine == cpos.line) = true := by rfl) (hs : starEach (e :: es) X.env = (false, eval e X.env) :: starEach es X.env := by rfl) (hplain : (backTo cpos (starEach es X.env)).any (·.1) = false := by rfl) :
    PE X (.Call (.Attribute o name apos) (e :: es) [] cpos) (tBMT r to t) := by
  refine ⟨fun pins s σ H Q I h => ?_⟩
  refine wpAny_Call_method_late hbase hfew hline rfl (thn (ho.run pins s σ H _ I h) fun v s1 ⟨x, H1, I1, r1, ⟨p, xs, ex, ob, eo, oc, od⟩, q1⟩ => ?_)
  subst ex
  obtain rfl : v = Value.ref p := r1
  obtain ⟨hob, _⟩ := I1.hok p _ eo
  refine ⟨"tuple", id, PySem.F.plainAttrs_tuple, slot, hty, ⟨ob, hob, oc⟩, fun a e => ?_, ?_⟩
  · cases e
    exact ⟨ob, hob, od⟩
  have hA := ha.run cpos pins s1 σ H1 _ I1 q1
  rw [hs] at hA ⊢
  refine Calls.callWith_builtin (by show (false || (backTo cpos (starEach es X.env)).any (·.1)) = false; rw [hplain] <;> rfl) (Calls.evalArgs_plain ?_)
  exact thn hA fun us s2 ⟨vs, H2, I2, r2, q2⟩ => hm pins s2 σ H2 (.ref p) vs (.ref p) us Q I2 rfl r2 q2
def rIndexTI (K : PySem.W.Frag) : V → List V → Hp → VK → Prop := fun x xs H Q => ∃ (p : Addr) (ys : List Int) (z : Int) (j : Nat), x = .ref p ∧ xs = [.int z] ∧ SqT K H p (ys.map V.int) ∧ ys[j]? = some z ∧ (∀ m, m < j → ys[m]? ≠ some z) ∧ Q (.int (j : Nat)) H
theorem flat_ints (ys : List Int) : (ys.map V.int).all flatV = true := by
  rw [List.all_map]
  exact List.all_eq_true.mpr fun _ _ => rfl
theorem mt_indexTI : MtR X "tuple.index" (rIndexTI X.K) := by
  intro pins s σ H x xs v us Q I rx rs h
  obtain ⟨p, ys, z, j, rfl, rfl, hq, hy, hno, q⟩ := h
  cases rx
  obtain ⟨u, rfl, t, rfl⟩ := vals1 rs
  obtain ⟨its, r, pl, hz⟩ := I.tuple hq
  obtain ⟨⟨cls, dd, dt, sl⟩, ho, hc, n, hd⟩ := pl
  simp only at hc hd
  subst hc
  subst hd
  have hl : its.toArray.size = ys.length := by rw [List.size_toArray, ← r.length, List.length_map]
  have hj : j < its.toArray.size := by rw [hl]; exact (List.getElem?_eq_some_iff.mp hy).1
  have at' : ∀ (m : Nat) (hm : m < its.toArray.size), ∃ y t', ys[m]? = some y ∧ its.toArray[m] = Value.int y t' := fun m hm => by
    have hm' : m < ys.length := by rw [← hl]; exact hm
    obtain ⟨w, hw, t', hw'⟩ := r.get (i := m) (x := .int ys[m]) (by simp [hm'])
    refine ⟨ys[m], t', List.getElem?_eq_getElem hm', ?_⟩
    have e := (List.getElem?_eq_some_iff.mp hw).2
    rw [← hw', ← e]
    simp
  refine call_meets PySem.F.slot_tuple_index ⟨_, ho, rfl⟩ PySem.F.entry_tuple_index (PySem.F.args_tuple_index_2 _ _) (TI.tuple_indexAt p its.toArray n dd sl (.int z t) (eqU (.int z)) j hj ?_ ?_)
    ⟨ho, fun w hw => mem_eqAt (x := .int z) ⟨t, rfl⟩ rfl r (flat_ints ys) w (by simpa using hw), ⟨.int (j : Nat), H, I.tok _, ⟨_, rfl⟩, q⟩⟩
  · obtain ⟨y, t', h1, h2⟩ := at' j hj
    rw [hy] at h1
    cases h1
    rw [h2]
    show (z == z) = true
    exact beq_self_eq_true z
  · intro m hm hmj
    obtain ⟨y, t', h1, h2⟩ := at' m hm
    rw [h2]
    show (y == z) = false
    refine beq_eq_false_iff_ne.mpr fun e => ?_
    subst e
    exact hno m hmj h1
theorem g_bmT {σ : L2.St} {H : Hp} {Q : VK} (q : to σ H fun x H1 => (∃ p xs, x = .ref p ∧ TupK H1 p xs) ∧ t σ H1 fun ys H2 => r x ys H2 Q) : tBMT r to t σ H Q := q
end
end G48
namespace G48
open PySem PySem.Spec PyProof.Rows L2 Evl
/-! ### comprehensions -/
def kLcE (D : Addr) (N : Hp → Prop) : VK := fun y H4 => ∃ acc, H4 D = some (.lst acc) ∧ acc.length < sizeLine ∧ N (upd H4 D (.lst (acc ++ [y])))
def kLcT (te : TE) (σ2 : L2.St) (D : Addr) (N : Hp → Prop) (b : Bool) (H3 : Hp) : Prop := if b = true then te σ2 H3 (kLcE D N) else N H3
def kLcG (tt : TT) (te : TE) (vs : List Nat) (σ : L2.St) (D : Addr) (N : Hp → Prop) (σ2 : L2.St) (H2 : Hp) : Prop := wipe σ2 vs = wipe σ vs ∧ tt σ2 H2 (kLcT te σ2 D N)
/-! within a comprehension the part of the heap is named -/
section
variable {X : Cx} {e : Expr} {ta : TE} {f : Str} {pos : Pos} {es : List Expr} {k n : Nat} {t : TGs}
theorem ix_tupK (K : PySem.W.Frag) (h : X.K = K := by rfl) : IxR X (rIxT K) := by subst h; exact ix_tup
theorem ix_listK (K : PySem.W.Frag) (h : X.K = K := by rfl) : IxR X (rIxL K) := by subst h; exact ix_list
theorem c_lenK (K : PySem.W.Frag) (h : X.K = K := by rfl) : CallR X (.builtin "len") (rLen K) := by subst h; exact c_len
theorem pe_fldK (K : PySem.W.Frag) (he : PE X e ta) (hb : attributeBase e f X.env (eval e X.env) = eval e X.env) (h : X.K = K := by rfl) : PE X (.Attribute e f pos) (tFld K ta f) := by subst h; exact pe_fld he hb
theorem pg_tupK (K : PySem.W.Frag) (hc : X.calm = true) (h : PGs X es t)
    (hn : (assignEach es X.env).length = n := by rfl) (hst : (assignEach es X.env).findIdx? (·.1) = none := by rfl) (hK : X.K = K := by rfl) : PG X (.Tuple es k pos) (gTup K n t) := by subst hK; exact pg_tup hc h hn hst
end
section
variable {K : PySem.W.Frag} {σ σ2 : L2.St} {H : Hp} {D : Addr} {N : Hp → Prop} {acc : List V} {y : V} {te : TE} {tt : TT} {vs : List Nat} {b : Bool} {Q : VK} {g : TG} {tr : TA} {tl : TE} {a : Addr} {xs : List V}
theorem g_kLcE (h : H D = some (.lst acc)) (z : acc.length < sizeLine) (q : ∀ H', Exb D H H' → H' D = some (.lst (acc ++ [y])) → N H') : kLcE D N y H := ⟨acc, h, z, q _ Exb.upd upd_same⟩
theorem g_kLcTT (q : te σ2 H (kLcE D N)) : kLcT te σ2 D N true H := q
theorem g_kLcTF (q : N H) : kLcT te σ2 D N false H := q
theorem g_kLcT (h1 : b = true → te σ2 H (kLcE D N)) (h2 : b = false → N H) : kLcT te σ2 D N b H := by
  cases b with
  | true => exact h1 rfl
  | false => exact h2 rfl
theorem y_kLcT (hc : b = true) (q : te σ2 H (kLcE D N)) : kLcT te σ2 D N b H := by rw [hc]; exact q
theorem n_kLcT (hc : b = false) (q : N H) : kLcT te σ2 D N b H := by rw [hc]; exact q
theorem g_kLcG (h : wipe σ2 vs = wipe σ vs) (q : tt σ2 H (kLcT te σ2 D N)) : kLcG tt te vs σ D N σ2 H := ⟨h, q⟩
theorem g_yes {QB : Bool → Hp → Prop} (q : QB true H) : tYes σ H QB := q
/-- over range(n) -/
def kLcR1 (g : TG) (tt : TT) (te : TE) (vs : List Nat) (σ : L2.St) (Q : VK) (ws : List V) (H1 : Hp) : Prop := tLc (iRng1 (fun _ H Q => Q ws H)) g tt te vs σ H1 Q
theorem g_lcR1 (q : tr σ H (kLcR1 g tt te vs σ Q)) : tLc (iRng1 tr) g tt te vs σ H Q := q
theorem g_kLcR1 {n : Int} (hn : 0 ≤ n ∧ n < 2 ^ 62) (Pv : Addr → Nat → Hp → Prop) (h0 : ∀ D H1, H D = none → Ex H H1 → H1 D = some (.lst []) → Pv D 0 H1)
    (hs : ∀ D (i : Nat) H2, H D = none → (i : Int) < n → Pv D i H2 → g (.int (i : Int)) (wipe σ vs) H2 (kLcG tt te vs σ D (Pv D (i + 1))))
    (hd : ∀ D H2, H D = none → Pv D n.toNat H2 → Q (.ref D) H2) : kLcR1 g tt te vs σ Q [.int n] H :=
  ⟨n, rfl, by omega, by omega, fun D hD => lc_range (lo := 0) (n := n.toNat) (Pv D) (h0 D _ hD (Ex.new hD) upd_same) (fun i H2 hi p => by
    have e0 : (0 : Int) + (i : Int) = (i : Int) := Int.zero_add _
    rw [e0]
    exact hs D i H2 hD (by omega) p) (fun H2 p => hd D H2 hD p)⟩
/-- over range(a, b) -/
def kLcR2 (g : TG) (tt : TT) (te : TE) (vs : List Nat) (σ : L2.St) (Q : VK) (ws : List V) (H1 : Hp) : Prop := tLc (iRng2 (fun _ H Q => Q ws H)) g tt te vs σ H1 Q
theorem g_lcR2 (q : tr σ H (kLcR2 g tt te vs σ Q)) : tLc (iRng2 tr) g tt te vs σ H Q := q
theorem g_kLcR2 {lo n : Int} (hn : -(2 ^ 62) ≤ lo ∧ lo < 2 ^ 62 ∧ -(2 ^ 62) ≤ n ∧ n < 2 ^ 62) (Pv : Addr → Nat → Hp → Prop) (h0 : ∀ D H1, H D = none → Ex H H1 → H1 D = some (.lst []) → Pv D 0 H1)
    (hs : ∀ D (i : Nat) H2, H D = none → lo + (i : Int) < n → Pv D i H2 → g (.int (lo + (i : Int))) (wipe σ vs) H2 (kLcG tt te vs σ D (Pv D (i + 1))))
    (hd : ∀ D H2, H D = none → Pv D (n - lo).toNat H2 → Q (.ref D) H2) : kLcR2 g tt te vs σ Q [.int lo, .int n] H :=
  ⟨lo, n, rfl, hn, fun D hD => lc_range (lo := lo) (n := (n - lo).toNat) (Pv D) (h0 D _ hD (Ex.new hD) upd_same) (fun i H2 hi p => hs D i H2 hD (by omega) p) (fun H2 p => hd D H2 hD p)⟩
/-- over a list -/
def kLcL (K : PySem.W.Frag) (g : TG) (tt : TT) (te : TE) (vs : List Nat) (σ : L2.St) (Q : VK) : VK := fun x H1 => tLc (iList K (tC x)) g tt te vs σ H1 Q
theorem g_lcL (q : tl σ H (kLcL K g tt te vs σ Q)) : tLc (iList K tl) g tt te vs σ H Q := q
theorem g_kLcL (h : SqL K H a xs) (Pv : Addr → Nat → Hp → Prop) (h0 : ∀ D H1, H D = none → Ex H H1 → H1 D = some (.lst []) → Pv D 0 H1) (hl : ∀ D i H2, H D = none → i ≤ xs.length → Pv D i H2 → SqL K H2 a xs)
    (hs : ∀ D (i : Nat) x H2, H D = none → xs[i]? = some x → Pv D i H2 → g x (wipe σ vs) H2 (kLcG tt te vs σ D (Pv D (i + 1))))
    (hd : ∀ D H2, H D = none → Pv D xs.length H2 → Q (.ref D) H2) : kLcL K g tt te vs σ Q (.ref a) H :=
  ⟨a, rfl, ⟨xs, h⟩, fun D hD => lc_list (xs := xs) (Pv D) (h0 D _ hD (Ex.new hD) upd_same) (fun i H2 hi p => hl D i H2 hD hi p) (fun i x H2 hi p => hs D i x H2 hD hi p) (fun H2 p => hd D H2 hD p)⟩
/-- over a tuple -/
def kLcU (K : PySem.W.Frag) (g : TG) (tt : TT) (te : TE) (vs : List Nat) (σ : L2.St) (Q : VK) : VK := fun x H1 => tLc (iTup K (tC x)) g tt te vs σ H1 Q
theorem g_lcU (q : tl σ H (kLcU K g tt te vs σ Q)) : tLc (iTup K tl) g tt te vs σ H Q := q
theorem g_kLcU (h : SqT K H a xs) (Pv : Addr → Nat → Hp → Prop) (h0 : ∀ D H1, H D = none → Ex H H1 → H1 D = some (.lst []) → Pv D 0 H1) (hl : ∀ D i H2, H D = none → i ≤ xs.length → Pv D i H2 → SqT K H2 a xs)
    (hs : ∀ D (i : Nat) x H2, H D = none → xs[i]? = some x → Pv D i H2 → g x (wipe σ vs) H2 (kLcG tt te vs σ D (Pv D (i + 1))))
    (hd : ∀ D H2, H D = none → Pv D xs.length H2 → Q (.ref D) H2) : kLcU K g tt te vs σ Q (.ref a) H :=
  ⟨a, rfl, ⟨xs, h⟩, fun D hD => lc_tup (xs := xs) (Pv D) (h0 D _ hD (Ex.new hD) upd_same) (fun i H2 hi p => hl D i H2 hD hi p) (fun i x H2 hi p => hs D i x H2 hD hi p) (fun H2 p => hd D H2 hD p)⟩
/-- over enumerate(tuple) -/
def kLcN (K : PySem.W.Frag) (g : TG) (tt : TT) (te : TE) (vs : List Nat) (σ : L2.St) (Q : VK) (ws : List V) (H1 : Hp) : Prop := tLc (iEnumT K (fun _ H Q => Q ws H)) g tt te vs σ H1 Q
theorem g_lcN (q : tr σ H (kLcN K g tt te vs σ Q)) : tLc (iEnumT K tr) g tt te vs σ H Q := q
theorem g_kLcN (h : SqT K H a xs) (Pv : Addr → Nat → Hp → Prop) (h0 : ∀ D H1, H D = none → Ex H H1 → H1 D = some (.lst []) → Pv D 0 H1) (hl : ∀ D i H2, H D = none → i ≤ xs.length → Pv D i H2 → SqT K H2 a xs)
    (hs : ∀ D (i : Nat) x H2 T H3, H D = none → xs[i]? = some x → Pv D i H2 → Ex H2 H3 → H2 T = none → H3 T = some (.tup [.int (i : Int), x]) → g (.ref T) (wipe σ vs) H3 (kLcG tt te vs σ D (Pv D (i + 1))))
    (hd : ∀ D H2, H D = none → Pv D xs.length H2 → Q (.ref D) H2) : kLcN K g tt te vs σ Q [.ref a] H :=
  ⟨a, xs, rfl, h, fun D hD => lc_it walk_enumT (Pv D) (h0 D _ hD (Ex.new hD) upd_same) (fun i H2 hi p => hl D i H2 hD hi p) (fun i x H2 H3 hi p y => by
    obtain ⟨T, u, v, rfl, hT, rfl, e1, e2⟩ := y
    cases e1
    exact hs D i v H2 T _ hD e2 p (Ex.new hT) hT upd_same) (fun H2 p => hd D H2 hD p)⟩
end
end G48
namespace G48
open PySem PySem.Spec PyProof.Rows L2 Evl
def top (i : Nat) : Stmt := PySem.Challenge.pw_readingring_k56_whole_the_pace_with_evid.main.body.getD i (.Pass ⟨0, 0, 0, 0⟩)

end G48
namespace G48
open PySem PySem.Spec PyProof.Rows L2 Evl
abbrev s_is_integer : Stmt := top 12
abbrev N_is_integer : List Str := ["value", "low", "high"]
theorem sc_is_integer : FnScope N_is_integer ["value", "low", "high"] (defScope s_is_integer) := ⟨rfl, rfl, rfl, by decide +kernel, rfl, by decide +kernel, by decide +kernel⟩
theorem b_is_integer : BindL "is_integer" "is_integer" s_is_integer ["value", "low", "high"] := fun _ _ _ _ _ _ us hl => match us, hl with | [_, _, _], _ => rfl
abbrev s_check_number : Stmt := top 13
abbrev N_check_number : List Str := ["number", "low", "high"]
theorem sc_check_number : FnScope N_check_number ["number", "low", "high"] (defScope s_check_number) := ⟨rfl, rfl, rfl, by decide +kernel, rfl, by decide +kernel, by decide +kernel⟩
theorem b_check_number : BindL "check_number" "check_number" s_check_number ["number", "low", "high"] := fun _ _ _ _ _ _ us hl => match us, hl with | [_, _, _], _ => rfl
abbrev s_check_days : Stmt := top 14
abbrev N_check_days : List Str := ["days", "index", "number"]
theorem sc_check_days : FnScope N_check_days ["days"] (defScope s_check_days) := ⟨rfl, rfl, rfl, by decide +kernel, rfl, by decide +kernel, by decide +kernel⟩
theorem b_check_days : BindL "check_days" "check_days" s_check_days ["days"] := fun _ _ _ _ _ _ us hl => match us, hl with | [_], _ => rfl
abbrev s_check_starts : Stmt := top 15
abbrev N_check_starts : List Str := ["days", "starts", "index", "number"]
theorem sc_check_starts : FnScope N_check_starts ["days", "starts"] (defScope s_check_starts) := ⟨rfl, rfl, rfl, by decide +kernel, rfl, by decide +kernel, by decide +kernel⟩
theorem b_check_starts : BindL "check_starts" "check_starts" s_check_starts ["days", "starts"] := fun _ _ _ _ _ _ us hl => match us, hl with | [_, _], _ => rfl
abbrev s_lowest_terms : Stmt := top 16
abbrev N_lowest_terms : List Str := ["one", "other", "first", "second"]
theorem sc_lowest_terms : FnScope N_lowest_terms ["one", "other"] (defScope s_lowest_terms) := ⟨rfl, rfl, rfl, by decide +kernel, rfl, by decide +kernel, by decide +kernel⟩
theorem b_lowest_terms : BindL "lowest_terms" "lowest_terms" s_lowest_terms ["one", "other"] := fun _ _ _ _ _ _ us hl => match us, hl with | [_, _], _ => rfl
abbrev s_pace_of : Stmt := top 17
abbrev N_pace_of : List Str := ["spans", "total", "slowest", "whole"]
theorem sc_pace_of : FnScope N_pace_of ["spans", "total"] (defScope s_pace_of) := ⟨rfl, rfl, rfl, by decide +kernel, rfl, by decide +kernel, by decide +kernel⟩
theorem b_pace_of : BindL "pace_of" "pace_of" s_pace_of ["spans", "total"] := fun _ _ _ _ _ _ us hl => match us, hl with | [_, _], _ => rfl
abbrev s_Ring___init__ : Stmt := inClass (top 18) 0
abbrev N_Ring___init__ : List Str := ["self", "days", "starts"]
theorem sc_Ring___init__ : FnScope N_Ring___init__ ["self", "days", "starts"] (defScope s_Ring___init__) := ⟨rfl, rfl, rfl, by decide +kernel, rfl, by decide +kernel, by decide +kernel⟩
theorem b_Ring___init__ : BindL "Ring.__init__" "__init__" s_Ring___init__ ["self", "days", "starts"] := fun _ _ _ _ _ _ us hl => match us, hl with | [_, _, _], _ => rfl
abbrev s_Ring_books : Stmt := inClass (top 18) 4
abbrev N_Ring_books : List Str := ["self"]
theorem sc_Ring_books : FnScope N_Ring_books ["self"] (defScope s_Ring_books) := ⟨rfl, rfl, rfl, by decide +kernel, rfl, by decide +kernel, by decide +kernel⟩
theorem b_Ring_books : BindL "Ring.books" "books" s_Ring_books ["self"] := fun _ _ _ _ _ _ us hl => match us, hl with | [_], _ => rfl
abbrev s_Ring_pace : Stmt := inClass (top 18) 5
abbrev N_Ring_pace : List Str := ["self"]
theorem sc_Ring_pace : FnScope N_Ring_pace ["self"] (defScope s_Ring_pace) := ⟨rfl, rfl, rfl, by decide +kernel, rfl, by decide +kernel, by decide +kernel⟩
theorem b_Ring_pace : BindL "Ring.pace" "pace" s_Ring_pace ["self"] := fun _ _ _ _ _ _ us hl => match us, hl with | [_], _ => rfl
abbrev s_Ring___len__ : Stmt := inClass (top 18) 6
abbrev N_Ring___len__ : List Str := ["self"]
theorem sc_Ring___len__ : FnScope N_Ring___len__ ["self"] (defScope s_Ring___len__) := ⟨rfl, rfl, rfl, by decide +kernel, rfl, by decide +kernel, by decide +kernel⟩
theorem b_Ring___len__ : BindL "Ring.__len__" "__len__" s_Ring___len__ ["self"] := fun _ _ _ _ _ _ us hl => match us, hl with | [_], _ => rfl
abbrev s_Ring_need_reader : Stmt := inClass (top 18) 12
abbrev N_Ring_need_reader : List Str := ["self", "reader"]
theorem sc_Ring_need_reader : FnScope N_Ring_need_reader ["self", "reader"] (defScope s_Ring_need_reader) := ⟨rfl, rfl, rfl, by decide +kernel, rfl, by decide +kernel, by decide +kernel⟩
theorem b_Ring_need_reader : BindL "Ring.need_reader" "need_reader" s_Ring_need_reader ["self", "reader"] := fun _ _ _ _ _ _ us hl => match us, hl with | [_, _], _ => rfl
abbrev s_Ring_with_days : Stmt := inClass (top 18) 13
abbrev N_Ring_with_days : List Str := ["self", "reader", "days"]
theorem sc_Ring_with_days : FnScope N_Ring_with_days ["self", "reader", "days"] (defScope s_Ring_with_days) := ⟨rfl, rfl, rfl, by decide +kernel, rfl, by decide +kernel, by decide +kernel⟩
theorem b_Ring_with_days : BindL "Ring.with_days" "with_days" s_Ring_with_days ["self", "reader", "days"] := fun _ _ _ _ _ _ us hl => match us, hl with | [_, _, _], _ => rfl
end G48
/-! the ring's own defs -/
namespace G48
open PySem PySem.Spec PyProof.Rows L2 Evl
/-! the steps -/
local macro_rules | `(tactic| walk_at "as") => `(tactic| with_reducible assumption)
local macro_rules | `(tactic| walk_at "hp") => `(tactic| first
  | with_reducible assumption
  | ((with_reducible apply SqT.of); walk_at "as")
  | ((with_reducible apply SqL.of); walk_at "as")
  | ((with_reducible apply ex_at); (focus walk_at "as"); walk_at "hp")
  | ((with_reducible apply ex_t); (focus walk_at "as"); walk_at "hp")
  | ((with_reducible apply ex_l); (focus walk_at "as"); walk_at "hp")
  | ((with_reducible apply exb_ins); (focus walk_at "as"); (focus walk_at "hp"); walk_at "hp")
  | ((with_reducible apply exb_t); (focus walk_at "as"); (focus walk_at "hp"); walk_at "hp")
  | ((with_reducible apply exb_at); (focus walk_at "as"); (focus walk_at "ne"); walk_at "hp")
  | ((with_reducible apply exb_l); (focus walk_at "as"); (focus walk_at "ne"); walk_at "hp"))
local macro_rules | `(tactic| walk_at "ne") => `(tactic| first
  | with_reducible assumption
  | exact Ne.symm (by with_reducible assumption)
  | exact ne_of_none (by with_reducible assumption) (by with_reducible assumption)
  | exact Ne.symm (ne_of_none (by with_reducible assumption) (by with_reducible assumption)))
local macro_rules | `(tactic| walk_at "tr") => `(tactic| first
  | rfl
  | with_reducible assumption
  | exact decide_eq_true (by first | with_reducible assumption | omega)
  | exact decide_eq_false (by first | with_reducible assumption | omega)
  | (rw [Bool.not_eq_true']; exact decide_eq_false (by first | with_reducible assumption | omega))
  | (rw [Bool.not_eq_false']; exact decide_eq_true (by first | with_reducible assumption | omega)))
local macro_rules | `(tactic| walk_at "nn") => `(tactic| first | with_reducible assumption | (exact List.cons_ne_nil _ _))
local macro_rules | `(tactic| walk_at "sz") => `(tactic| first | (exact sz1000 (Nat.le_of_ble_eq_true rfl)) | (refine sz1000 ?_; simp only [List.length_map, List.length_cons, List.length_nil, List.length_append]; omega) | with_reducible assumption)
local macro_rules | `(tactic| walk_at "sl") => `(tactic| first | with_reducible assumption | (refine lt1000 ?_; simp only [List.length_map, List.length_cons, List.length_nil, List.length_append]; omega) | (refine lt1000 ?_; omega))
local macro_rules | `(tactic| walk_at "ix") => `(tactic| first | rfl | with_reducible assumption)
local macro_rules | `(tactic| walk_at "rg") => `(tactic| exact RgOk.of_le (by omega) (by omega) (by omega) (by omega))
local macro_rules | `(tactic| walk_at "sp") => `(tactic| fail "sp")
local macro_rules | `(tactic| walk_at "cl") => `(tactic| with_reducible assumption)
local macro_rules | `(tactic| walk_at "lk") => `(tactic| with_reducible assumption)
local macro_rules | `(tactic| walk_at "it") => `(tactic| first | rfl | with_reducible assumption | exact atI_nat (by with_reducible assumption))
local macro_rules | `(tactic| walk_at "g1") => `(tactic| first
  | (with_reducible apply g_var); (focus rfl)
  | with_reducible apply g_c
  | with_reducible apply g_seq
  | with_reducible apply g_asg
  | with_reducible apply gg_name
  | with_reducible apply g_op
  | with_reducible apply g_cons
  | with_reducible apply g_nil
  | with_reducible apply g_cb
  | with_reducible apply g_fld
  | ((with_reducible apply g_kFld); (focus walk_at "hp"); (focus walk_at "cl"); (focus walk_at "cl"); (focus walk_at "lk"))
  | with_reducible apply g_call
  | walk_at "sp"
  | with_reducible apply g_ret
  | with_reducible apply g_drop
  | with_reducible apply g_test
  | with_reducible apply g_B
  | with_reducible apply g_kTest
  | with_reducible apply g_ifS
  | with_reducible apply g_kIfST
  | with_reducible apply g_kIfSF
  | with_reducible apply g_add
  | with_reducible apply g_sub
  | with_reducible apply g_lt
  | with_reducible apply g_le
  | with_reducible apply g_gt
  | with_reducible apply g_ge
  | with_reducible apply g_eqI
  | with_reducible apply g_neI
  | ((with_reducible apply g_mod); (focus first | decide | omega))
  | ((with_reducible apply g_mul); (focus first | (left; constructor <;> omega) | (right; constructor <;> omega)))
  | ((with_reducible apply g_fdiv); (focus (constructor <;> omega)))
  | ((with_reducible apply g_ixT); (focus walk_at "hp"); (focus walk_at "it"))
  | ((with_reducible apply g_ixL); (focus walk_at "hp"); (focus walk_at "it"))
  | with_reducible apply g_and
  | with_reducible apply g_or
  | with_reducible apply g_not
  | with_reducible apply g_kNotT
  | with_reducible apply g_kNotF
  | with_reducible apply g_if
  | with_reducible apply g_kAndT
  | with_reducible apply g_kAndF
  | with_reducible apply g_kOrT
  | with_reducible apply g_kOrF
  | with_reducible apply g_kIfT
  | with_reducible apply g_kIfF
  | with_reducible apply g_next
  | with_reducible apply g_andV
  | with_reducible apply g_orV
  | with_reducible apply g_notV
  | with_reducible apply g_kNotV
  | with_reducible apply g_kAndVT
  | with_reducible apply g_kAndVF
  | with_reducible apply g_chain
  | with_reducible apply g_kChainT
  | with_reducible apply g_kChainF
  | with_reducible apply g_tup
  | with_reducible apply g_lst
  | ((with_reducible apply g_kT); (focus walk_at "sz"); intro _ _ _ _ _)
  | ((with_reducible apply g_kL); (focus walk_at "sz"); intro _ _ _ _ _)
  | with_reducible apply g_un
  | with_reducible apply g_neg
  | with_reducible apply g_meth
  | ((with_reducible apply g_kMeth); (focus walk_at "hp"); (focus walk_at "lk"))
  | with_reducible apply g_prop
  | ((with_reducible apply g_kProp); (focus walk_at "hp"))
  | with_reducible apply g_make
  | with_reducible apply g_par
  | with_reducible apply g_kPar
  | ((with_reducible apply g_lenLM); (focus walk_at "hp"))
  | ((with_reducible apply g_lenTM); (focus walk_at "hp"))
  | ((with_reducible apply g_lenL); (focus walk_at "hp"))
  | ((with_reducible apply g_lenT); (focus walk_at "hp"))
  | with_reducible apply g_int1
  | with_reducible apply g_max2
  | with_reducible apply g_min2
  | ((with_reducible apply g_listL); (focus walk_at "hp"); intro _ _ _ _ _)
  | ((with_reducible apply g_listT); (focus walk_at "hp"); intro _ _ _ _ _)
  | ((with_reducible apply g_tupL); (focus walk_at "hp"); intro _ _ _ _ _)
  | ((with_reducible apply g_sum); (focus walk_at "hp"))
  | with_reducible apply g_sfld
  | with_reducible apply g_sl
  | with_reducible apply g_nopart
  | with_reducible apply g_part
  | with_reducible apply g_kPart
  | with_reducible apply g_lstRg
  | with_reducible apply g_rg1
  | with_reducible apply g_kRg1
  | with_reducible apply g_bm
  | with_reducible apply gg_sub
  | ((with_reducible apply gg_tup); (focus walk_at "hp"); (focus rfl))
  | with_reducible apply gg_cons
  | with_reducible apply gg_nil
  | with_reducible apply g_forL
  | with_reducible apply g_forT
  | with_reducible apply g_forR1
  | with_reducible apply g_forR2
  | with_reducible apply g_forE
  | with_reducible apply g_forEL
  | ((with_reducible apply g_maxT); (focus walk_at "hp"); (focus walk_at "nn"))
  | ((with_reducible apply g_maxL); (focus walk_at "hp"); (focus walk_at "nn"))
  | ((with_reducible apply g_catA); (focus walk_at "hp"); (focus walk_at "hp"); (focus walk_at "sz"); intro _ _ _ _)
  | ((with_reducible apply g_slA); (focus walk_at "hp"); intro _ _ _ _)
  | ((with_reducible apply g_tupD); (focus walk_at "hp"); intro _ _ _ _ _)
  | ((with_reducible apply g_setL); (focus walk_at "hp"); (focus walk_at "ix"); intro _ _ _)
  | ((with_reducible apply g_append); (focus walk_at "hp"); (focus walk_at "sl"); intro _ _ _)
  | ((with_reducible apply g_aug); (focus rfl))
  | with_reducible apply g_ipI
  | with_reducible apply g_retN
  | with_reducible apply g_lcR1
  | with_reducible apply g_lcR2
  | with_reducible apply g_lcL
  | with_reducible apply g_lcU
  | with_reducible apply g_lcN
  | ((with_reducible apply g_kLcG); (focus rfl))
  | with_reducible apply g_yes
  | with_reducible apply g_kLcTT
  | with_reducible apply g_kLcTF
  | ((with_reducible apply g_kLcE); (focus walk_at "hp"); (focus walk_at "sl"); intro _ _ _)
  | ((with_reducible apply g_pow); (focus (constructor <;> (try constructor) <;> decide)))
  | ((with_reducible apply g_kLRg); (focus walk_at "rg"); intro _ _ _ _ _)
  | ((with_reducible apply g_cat); (focus walk_at "hp"); (focus walk_at "hp"); (focus walk_at "sz"); intro _ _ _ _ _)
  | ((with_reducible apply g_slL); (focus walk_at "hp"); intro _ _ _ _ _)
  | with_reducible apply g_bmT
  | with_reducible apply g_break
  | with_reducible apply g_cont)
local macro_rules | `(tactic| walk_at "g0") => `(tactic| try dsimp only [L2.cxOf, L2.Cx.nox, L2.Cx.wish])
local macro_rules | `(tactic| walk_at "yn") => `(tactic| first
  | ((with_reducible apply y_kIfS); (focus walk_at "tr"))
  | ((with_reducible apply n_kIfS); (focus walk_at "tr"))
  | ((with_reducible apply y_kOr); (focus walk_at "tr"))
  | ((with_reducible apply n_kOr); (focus walk_at "tr"))
  | ((with_reducible apply y_kAnd); (focus walk_at "tr"))
  | ((with_reducible apply n_kAnd); (focus walk_at "tr"))
  | ((with_reducible apply y_kNot); (focus walk_at "tr"))
  | ((with_reducible apply n_kNot); (focus walk_at "tr"))
  | ((with_reducible apply y_kIf); (focus walk_at "tr"))
  | ((with_reducible apply n_kIf); (focus walk_at "tr"))
  | ((with_reducible apply y_kAndV); (focus walk_at "tr"))
  | ((with_reducible apply n_kAndV); (focus walk_at "tr"))
  | ((with_reducible apply y_kOrV); (focus walk_at "tr"))
  | ((with_reducible apply n_kOrV); (focus walk_at "tr"))
  | ((with_reducible apply y_kChain); (focus walk_at "tr"))
  | ((with_reducible apply n_kChain); (focus walk_at "tr"))
  | ((with_reducible apply y_kLcT); (focus walk_at "tr"))
  | ((with_reducible apply n_kLcT); (focus walk_at "tr"))
  | ((with_reducible apply y_kWh); (focus walk_at "tr"))
  | ((with_reducible apply n_kWh); (focus walk_at "tr")))
local macro_rules | `(tactic| walk_at "go") => `(tactic| repeat (first | walk_at "g1" | walk_at "yn"))

/-! ### rings as data -/
structure RingOk (ds hs : List Int) : Prop where
  two : 2 ≤ ds.length
  eight : ds.length ≤ 8
  len : hs.length = ds.length
  dd : ∀ d ∈ ds, 1 ≤ d ∧ d ≤ 30
  hh : ∀ h ∈ hs, 0 ≤ h ∧ h ≤ 12
  one : 1 ≤ hs.sum
  twelve : hs.sum ≤ 12
def rf (a b : Addr) (B : Int) : List (Str × V) := [("spans", .ref a), ("heaps", .ref b), ("total", .int B)]
theorem s_sh : ¬ ("spans" : Str) = "heaps" := by decide +kernel
theorem s_st : ¬ ("spans" : Str) = "total" := by decide +kernel
theorem s_ht : ¬ ("heaps" : Str) = "total" := by decide +kernel
theorem s_hs : ¬ ("heaps" : Str) = "spans" := by decide +kernel
theorem rf_eq (a b : Addr) (B : Int) : putF "total" (.int B) (putF "heaps" (.ref b) (putF "spans" (.ref a) [])) = rf a b B := by
  show (if ("spans" : Str) = "total" then _ else _) = _
  unfold rf
  have e1 : putF "heaps" (.ref b) [(("spans" : Str), V.ref a)] = [(("spans" : Str), V.ref a), (("heaps" : Str), V.ref b)] := by
    show (if ("spans" : Str) = "heaps" then _ else _) = _
    rw [if_neg s_sh]
    rfl
  show putF "total" (.int B) (putF "heaps" (.ref b) [(("spans" : Str), V.ref a)]) = _
  rw [e1]
  show (if ("spans" : Str) = "total" then _ else (("spans" : Str), V.ref a) :: (if ("heaps" : Str) = "total" then _ else _)) = _
  rw [if_neg s_st, if_neg s_ht]
  rfl
theorem rf_look (a b : Addr) (B : Int) (f : Str) : (rf a b B).lookup f = if f = "total" then some (.int B) else if f = "heaps" then some (.ref b) else if f = "spans" then some (.ref a) else none := by
  rw [← rf_eq, lookup_putF, lookup_putF, lookup_putF]
  rfl
theorem rf_spans {a b : Addr} {B : Int} : (rf a b B).lookup ("spans" : Str) = some (.ref a) := by rw [rf_look, if_neg s_st, if_neg s_sh, if_pos rfl]
theorem rf_heaps {a b : Addr} {B : Int} : (rf a b B).lookup ("heaps" : Str) = some (.ref b) := by rw [rf_look, if_neg s_ht, if_pos rfl]
theorem rf_total {a b : Addr} {B : Int} : (rf a b B).lookup ("total" : Str) = some (.int B) := by rw [rf_look, if_pos rfl]
theorem rf_no {a b : Addr} {B : Int} {f : Str} (h1 : ¬ f = "total") (h2 : ¬ f = "heaps") (h3 : ¬ f = "spans") : (rf a b B).lookup f = none := by rw [rf_look, if_neg h1, if_neg h2, if_neg h3]
theorem rf_nr {a b : Addr} {B : Int} : (rf a b B).lookup ("need_reader" : Str) = none := rf_no (by decide +kernel) (by decide +kernel) (by decide +kernel)
theorem rf_wd {a b : Addr} {B : Int} : (rf a b B).lookup ("with_days" : Str) = none := rf_no (by decide +kernel) (by decide +kernel) (by decide +kernel)
structure RingC (K : PySem.W.Frag) (C : Addr) : Prop where
  cl : Cls K C
  nS : NoAttr K C "spans"
  nH : NoAttr K C "heaps"
  nT : NoAttr K C "total"
/-- the ring at r -/
structure RingIn (K : PySem.W.Frag) (C : Addr) (H : Hp) (r a b : Addr) (ds hs : List Int) : Prop where
  obj : ∃ dx, H r = some (.ins C dx (rf a b hs.sum))
  sp : SqT K H a (ds.map V.int)
  hp : SqT K H b (hs.map V.int)
  ok : RingOk ds hs
def RingAt (K : PySem.W.Frag) (C : Addr) (H : Hp) (r : Addr) (ds hs : List Int) : Prop := ∃ a b, RingIn K C H r a b ds hs
section
variable {K : PySem.W.Frag} {C : Addr} {H H' : Hp} {r a b l : Addr} {ds hs : List Int} {ys : List V}
theorem RingIn.ex (e : Ex H H') (R : RingIn K C H r a b ds hs) : RingIn K C H' r a b ds hs :=
  ⟨let ⟨dx, h⟩ := R.obj; ⟨dx, e _ _ h⟩, ex_t e R.sp, ex_t e R.hp, R.ok⟩
theorem RingIn.exb (e : Exb l H H') (hl : H l = some (.lst ys)) (R : RingIn K C H r a b ds hs) : RingIn K C H' r a b ds hs :=
  ⟨let ⟨dx, h⟩ := R.obj; ⟨dx, exb_ins e hl h⟩, exb_t e hl R.sp, exb_t e hl R.hp, R.ok⟩
theorem RingAt.ex (e : Ex H H') (R : RingAt K C H r ds hs) : RingAt K C H' r ds hs := let ⟨a, b, R⟩ := R; ⟨a, b, R.ex e⟩
theorem RingAt.exb (e : Exb l H H') (hl : H l = some (.lst ys)) (R : RingAt K C H r ds hs) : RingAt K C H' r ds hs := let ⟨a, b, R⟩ := R; ⟨a, b, R.exb e hl⟩
end
local macro_rules | `(tactic| walk_at "hp") => `(tactic| first
  | ((with_reducible apply RingIn.ex); (focus walk_at "as"); walk_at "hp")
  | ((with_reducible apply RingAt.ex); (focus walk_at "as"); walk_at "hp")
  | ((with_reducible apply RingIn.exb); (focus walk_at "as"); (focus walk_at "hp"); walk_at "hp")
  | ((with_reducible apply RingAt.exb); (focus walk_at "as"); (focus walk_at "hp"); walk_at "hp"))
local macro_rules | `(tactic| walk_at "lk") => `(tactic| first | with_reducible exact rf_spans | with_reducible exact rf_heaps | with_reducible exact rf_total | with_reducible exact rf_nr | with_reducible exact rf_wd)
/-! ### what isinstance says of plain values -/
def isI : V → Bool
  | .int _ => true
  | .bl _ => true
  | _ => false
def isB : V → Bool
  | .bl _ => true
  | _ => false
def inB (lo hi : Int) : V → Bool
  | .int i => decide (lo ≤ i) && decide (i ≤ hi)
  | _ => false
inductive Pl (K : PySem.W.Frag) (H : Hp) : V → Prop where
  | non : Pl K H .non
  | bl (b : Bool) : Pl K H (.bl b)
  | int (i : Int) : Pl K H (.int i)
  | str (x : Str) : Pl K H (.str x)
  | lst {a : Addr} {xs : List V} (h : H a = some (.lst xs)) : Pl K H (.ref a)
  | tup {a : Addr} {xs : List V} (h : H a = some (.tup xs)) : Pl K H (.ref a)
theorem kit_ii : kitB "int" "int" = some true := by decide +kernel
theorem kit_ib : kitB "int" "bool" = some false := by decide +kernel
theorem kit_bi : kitB "bool" "int" = some true := by decide +kernel
theorem kit_bb : kitB "bool" "bool" = some true := by decide +kernel
theorem kit_si : kitB "str" "int" = some false := by decide +kernel
theorem kit_sb : kitB "str" "bool" = some false := by decide +kernel
theorem kit_ni : kitB "NoneType" "int" = some false := by decide +kernel
theorem kit_nb : kitB "NoneType" "bool" = some false := by decide +kernel
theorem kit_li : kitB "list" "int" = some false := by decide +kernel
theorem kit_lb : kitB "list" "bool" = some false := by decide +kernel
theorem kit_ti : kitB "tuple" "int" = some false := by decide +kernel
theorem kit_tb : kitB "tuple" "bool" = some false := by decide +kernel
theorem kit_tt : kitB "tuple" "tuple" = some true := by decide +kernel
theorem kit_ll : kitB "list" "list" = some true := by decide +kernel
theorem Pl.ty {K : PySem.W.Frag} {H : Hp} {v : V} (h : Pl K H v) : ∃ u, TyX K H v u ∧ PySem.W.kitOne K u (.type "int") = some (isI v) ∧ PySem.W.kitOne K u (.type "bool") = some (isB v) := by
  cases h with
  | non => exact ⟨_, .base .non, kit_ty kit_ni, kit_ty kit_nb⟩
  | bl b => exact ⟨_, .base (.bl b), kit_ty kit_bi, kit_ty kit_bb⟩
  | int i => exact ⟨_, .base (.int i), kit_ty kit_ii, kit_ty kit_ib⟩
  | str x => exact ⟨_, .base (.str x), kit_ty kit_si, kit_ty kit_sb⟩
  | lst h => exact ⟨_, .base (.lst h), kit_ty kit_li, kit_ty kit_lb⟩
  | tup h => exact ⟨_, .base (.tup h), kit_ty kit_ti, kit_ty kit_tb⟩
theorem sqT_ty {K : PySem.W.Frag} {H : Hp} {a : Addr} {xs : List V} (h : SqT K H a xs) : TyX K H (.ref a) (.type "tuple") := by
  rcases h with (h | ⟨o, h⟩) | ⟨o, its, n, h, hc, _⟩
  · exact .base (.tup h)
  · exact .fTuple h
  · exact .kTuple h hc
theorem sqL_ty {K : PySem.W.Frag} {H : Hp} {a : Addr} {xs : List V} (h : SqL K H a xs) : TyX K H (.ref a) (.type "list") := by
  rcases h with (h | ⟨o, h⟩) | ⟨o, its, n, h, hc, _⟩
  · exact .base (.lst h)
  · exact .base (.frz h)
  · exact .kList h hc
theorem g_isiTup {K : PySem.W.Frag} {H : Hp} {a : Addr} {xs : List V} {Q : VK} (h : SqT K H a xs) (q : Q (.bl true) H) : rIsi K [.ref a, .ty "tuple"] H Q := g_isi (.ty _) (sqT_ty h) (kit_ty kit_tt) q
theorem g_isiLst {K : PySem.W.Frag} {H : Hp} {a : Addr} {xs : List V} {Q : VK} (h : SqL K H a xs) (q : Q (.bl true) H) : rIsi K [.ref a, .ty "list"] H Q := g_isi (.ty _) (sqL_ty h) (kit_ty kit_ll) q
local macro_rules | `(tactic| walk_at "sp") => `(tactic| first
  | ((with_reducible apply g_isiTup); (focus walk_at "hp"))
  | ((with_reducible apply g_isiLst); (focus walk_at "hp")))
section
variable {P : Program} {w : World} {K : PySem.W.Frag} {mg : Str → Option Value} {base : Heap} {C : Addr}
/-! ### is_integer, check_number -/
def sp_is_integer (K : PySem.W.Frag) : Sp := fun vs H Q _ => ∃ v lo hi, vs = [v, .int lo, .int hi] ∧ Pl K H v ∧ Q (.bl (inB lo hi v)) H
theorem ok_is_integer (Z : Blt mg) (G : GFun K mg "is_integer" s_is_integer) : Df P w K mg base 1 "is_integer" ["value", "low", "high"] (sp_is_integer K) := by
  refine Df.of G sc_is_integer b_is_integer (fun vs H Q E h => ?_) (fun f cdv A outer s H vs Q E hr h => ?_)
  · obtain ⟨v, lo, hi, rfl, _⟩ := h
    rfl
  · obtain ⟨v, lo, hi, rfl, hp, q⟩ := h
    obtain ⟨u, ty, k1, k2⟩ := hp.ty
    refine ⟨_, PSs.nox (pss_one (ps_ret (pe_and (pe_callB call_isi (by rfl) Z.zisinstance (by decide +kernel) (pa_cons (pv 0) (pa_cons (pe_bltn rfl Z.zint (v := .ty "int") (by decide +kernel) rfl) pa_nil))) (pe_and (pe_not (pe_callB call_isi (by rfl) Z.zisinstance (by decide +kernel) (pa_cons (pv 0) (pa_cons (pe_bltn rfl Z.zbool (v := .ty "bool") (by decide +kernel) rfl) pa_nil)))) (pe_one (pe_chain op_le op_le (pv 1) (pv 0) (pv 2))))))), ?_⟩
    walk_at "g0"
    walk_at "go"
    refine g_isi (.ty _) ty k1 ?_
    cases v with
    | int i =>
      refine g_kAndVT ?_
      walk_at "go"
      refine g_isi (.ty _) ty k2 ?_
      walk_at "go"
      refine g_kChain (fun h2 => ?_) (fun h2 => ?_)
      · walk_at "go"
        show Q _ _
        have e : inB lo hi (.int i) = decide (i ≤ hi) := by simp [inB, h2]
        rw [e] at q
        exact q
      · have e : inB lo hi (.int i) = false := by simp [inB, h2]
        rw [e] at q
        exact q
    | bl b =>
      refine g_kAndVT ?_
      walk_at "go"
      refine g_isi (.ty _) ty k2 ?_
      walk_at "go"
      exact q
    | _ => exact g_kAndVF q
theorem g_isint {H : Hp} {Q : VK} {E : XK} {i lo hi : Int} (h1 : lo ≤ i) (h2 : i ≤ hi) (q : Q (.bl true) H) : sp_is_integer K [.int i, .int lo, .int hi] H Q E :=
  ⟨_, lo, hi, rfl, .int i, by
    show Q (.bl (decide (lo ≤ i) && decide (i ≤ hi))) H
    rw [decide_eq_true h1, decide_eq_true h2]
    exact q⟩
local macro_rules | `(tactic| walk_at "sp") => `(tactic| ((with_reducible apply g_isint); (focus omega); (focus omega)))
def sp_check_number : Sp := fun vs H Q _ => ∃ i lo hi, vs = [.int i, .int lo, .int hi] ∧ (lo ≤ i ∧ i ≤ hi) ∧ Q .non H
theorem ok_check_number (Z : Blt mg) (D_is_integer : Df P w K mg base 1 "is_integer" ["value", "low", "high"] (sp_is_integer K)) (G : GFun K mg "check_number" s_check_number) : Df P w K mg base 2 "check_number" ["number", "low", "high"] sp_check_number := by
  refine Df.of G sc_check_number b_check_number (fun vs H Q E h => ?_) (fun f cdv A outer s H vs Q E hr h => ?_)
  · obtain ⟨i, lo, hi, rfl, _⟩ := h
    rfl
  · obtain ⟨i, lo, hi, rfl, ⟨h1, h2⟩, q⟩ := h
    refine ⟨_, PSs.nox (pss_one (ps_if (pt_not (pt_val (pg D_is_integer hr (pa_cons (pv 0) (pa_cons (pv 1) (pa_cons (pv 2) pa_nil)))))) (pss_one ps_never) pss_nil)), ?_⟩
    walk_at "g0"
    walk_at "go"
    exact q
theorem g_checkn {H : Hp} {Q : VK} {E : XK} {i lo hi : Int} (h1 : lo ≤ i) (h2 : i ≤ hi) (q : Q .non H) : sp_check_number [.int i, .int lo, .int hi] H Q E := ⟨i, lo, hi, rfl, ⟨h1, h2⟩, q⟩
local macro_rules | `(tactic| walk_at "sp") => `(tactic| ((with_reducible apply g_checkn); (focus omega); (focus omega)))
/-! ### check_days, check_starts -/
def sp_check_days (K : PySem.W.Frag) : Sp := fun vs H Q _ => ∃ (a : Addr) (ds : List Int), vs = [.ref a] ∧ SqT K H a (ds.map V.int) ∧ (2 ≤ ds.length ∧ ds.length ≤ 8) ∧ (∀ d ∈ ds, 1 ≤ d ∧ d ≤ 30) ∧ ∀ H', Ex H H' → Q .non H'
theorem at_int {ns : List Int} {i : Nat} {x : V} (h : (ns.map V.int)[i]? = some x) : ∃ n, x = .int n ∧ ns[i]? = some n ∧ n ∈ ns ∧ i < ns.length := by
  rw [List.getElem?_map] at h
  cases e : ns[i]? with
  | none => rw [e] at h; cases h
  | some n =>
    rw [e] at h
    exact ⟨n, (Option.some.inj h).symm, rfl, List.mem_of_getElem? e, (List.getElem?_eq_some_iff.mp e).1⟩
theorem ok_check_days (Z : Blt mg) (c_MAX_READERS : ∃ t, mg "MAX_READERS" = some (.int 8 t)) (c_MAX_DAYS : ∃ t, mg "MAX_DAYS" = some (.int 30 t))
    (D_is_integer : Df P w K mg base 1 "is_integer" ["value", "low", "high"] (sp_is_integer K)) (G : GFun K mg "check_days" s_check_days) : Df P w K mg base 2 "check_days" ["days"] (sp_check_days K) := by
  refine Df.of G sc_check_days b_check_days (fun vs H Q E h => ?_) (fun f cdv A outer s H vs Q E hr h => ?_)
  · obtain ⟨a, ds, rfl, _⟩ := h
    rfl
  · obtain ⟨a, ds, rfl, hS, ⟨h2, h8⟩, hd, q⟩ := h
    refine ⟨_, PSs.nox (pss_cons (ps_if (pt_not (pt_val (pe_callB call_isi (by rfl) Z.zisinstance (by decide +kernel) (pa_cons (pv 0) (pa_cons (pe_bltn rfl Z.ztuple (v := .ty "tuple") (by decide +kernel) rfl) pa_nil))))) (pss_one ps_never) pss_nil)
      (pss_cons (ps_for PassesOwn.never rfl (pi_enumT (by rfl) Z.zenumerate (pa_cons (pv 0) pa_nil)) (pg_tup (by rfl) (pgs_cons (pg_name (i := 1) sc_check_days.nd rfl (by first | exact Or.inl rfl | exact Or.inr rfl)) (pgs_cons (pg_name (i := 2) sc_check_days.nd rfl (by first | exact Or.inl rfl | exact Or.inr rfl)) pgs_nil))) (pss_one (ps_if (PW.pt (pw_or (pt_cmpR op_eq (pv 1) (pint c_MAX_READERS) (nomark _)) (pw_or1 (pt_not (pt_val (pg D_is_integer hr (pa_cons (pv 2) (pa_cons pe_int (pa_cons (pint c_MAX_DAYS) pa_nil))))))))) (pss_one ps_never) pss_nil)))
      (pss_one (ps_if (pt_cmpR op_lt (pe_callB c_len (by rfl) Z.zlen PySem.boot_len (pa_cons (pv 0) pa_nil)) pe_int (nomark _)) (pss_one ps_never) pss_nil)))), ?_⟩
    walk_at "g0"
    walk_at "go"
    refine g_kForE hS (fun i σ H' => ∃ v1 v2, σ = [some (.ref a), v1, v2] ∧ Ex H H') ⟨none, none, rfl, Ex.refl _⟩ (fun i σ H' _ ⟨_, _, _, e⟩ => ex_t e hS) ?_ ?_
    · rintro i x σ H' T H2 hx ⟨v1, v2, rfl, e1⟩ e2 nT hT
      obtain ⟨n, rfl, hn, hm, hi⟩ := at_int hx
      have := hd n hm
      walk_at "go"
      exact ⟨_, _, rfl, e1.trans e2⟩
    · rintro σ H' ⟨v1, v2, rfl, e1⟩
      walk_at "go"
      exact q _ e1
theorem g_checkd {H : Hp} {Q : VK} {E : XK} {a : Addr} {ds : List Int} (h : SqT K H a (ds.map V.int)) (h2 : 2 ≤ ds.length) (h8 : ds.length ≤ 8) (hd : ∀ d ∈ ds, 1 ≤ d ∧ d ≤ 30) (q : ∀ H', Ex H H' → Q .non H') : sp_check_days K [.ref a] H Q E := ⟨a, ds, rfl, h, ⟨h2, h8⟩, hd, q⟩
def sp_check_starts (K : PySem.W.Frag) : Sp := fun vs H Q _ => ∃ (a b : Addr) (ds hs : List Int), vs = [.ref a, .ref b] ∧ SqT K H a (ds.map V.int) ∧ SqT K H b (hs.map V.int) ∧ RingOk ds hs ∧ ∀ H', Ex H H' → Q .non H'
theorem ok_check_starts (Z : Blt mg) (c_MAX_BOOKS : ∃ t, mg "MAX_BOOKS" = some (.int 12 t))
    (D_is_integer : Df P w K mg base 1 "is_integer" ["value", "low", "high"] (sp_is_integer K)) (G : GFun K mg "check_starts" s_check_starts) : Df P w K mg base 2 "check_starts" ["days", "starts"] (sp_check_starts K) := by
  refine Df.of G sc_check_starts b_check_starts (fun vs H Q E h => ?_) (fun f cdv A outer s H vs Q E hr h => ?_)
  · obtain ⟨a, b, ds, hs, rfl, _⟩ := h
    rfl
  · obtain ⟨a, b, ds, hs, rfl, hS, hT, R, q⟩ := h
    have r1 := R.len
    have r2 := R.one
    have r3 := R.twelve
    refine ⟨_, PSs.nox (pss_cons (ps_if (pt_not (pt_val (pe_callB call_isi (by rfl) Z.zisinstance (by decide +kernel) (pa_cons (pv 1) (pa_cons (pe_bltn rfl Z.ztuple (v := .ty "tuple") (by decide +kernel) rfl) pa_nil))))) (pss_one ps_never) pss_nil)
      (pss_cons (ps_for PassesOwn.never rfl (pi_enumT (by rfl) Z.zenumerate (pa_cons (pv 1) pa_nil)) (pg_tup (by rfl) (pgs_cons (pg_name (i := 2) sc_check_starts.nd rfl (by first | exact Or.inl rfl | exact Or.inr rfl)) (pgs_cons (pg_name (i := 3) sc_check_starts.nd rfl (by first | exact Or.inl rfl | exact Or.inr rfl)) pgs_nil))) (pss_one (ps_if (PW.pt (pw_or (pt_cmpR op_eq (pv 2) (pe_callB c_len (by rfl) Z.zlen PySem.boot_len (pa_cons (pv 0) pa_nil)) (nomark _)) (pw_or1 (pt_not (pt_val (pg D_is_integer hr (pa_cons (pv 3) (pa_cons pe_int (pa_cons (pint c_MAX_BOOKS) pa_nil))))))))) (pss_one ps_never) pss_nil)))
      (pss_cons (ps_if (pt_cmpR op_lt (pe_callB c_len (by rfl) Z.zlen PySem.boot_len (pa_cons (pv 1) pa_nil)) (pe_callB c_len (by rfl) Z.zlen PySem.boot_len (pa_cons (pv 0) pa_nil)) (nomark _)) (pss_one ps_never) pss_nil)
      (pss_one (ps_if (pt_not (pt_chain op_le op_le pe_int (pe_callB (cr_sum rfl) (by rfl) Z.zsum (by decide +kernel) (pa_cons (pe_callTy c_list_of (by rfl) Z.zlist (by decide +kernel) (pa_cons (pv 1) pa_nil)) pa_nil)) (pint c_MAX_BOOKS))) (pss_one ps_never) pss_nil))))), ?_⟩
    walk_at "g0"
    walk_at "go"
    refine g_kForE hT (fun i σ H' => ∃ v1 v2, σ = [some (.ref a), some (.ref b), v1, v2] ∧ Ex H H') ⟨none, none, rfl, Ex.refl _⟩ (fun i σ H' _ ⟨_, _, _, e⟩ => ex_t e hT) ?_ ?_
    · rintro i x σ H' T H2 hx ⟨v1, v2, rfl, e1⟩ e2 nT hT2
      obtain ⟨n, rfl, hn, hm, hi⟩ := at_int hx
      have := R.hh n hm
      walk_at "go"
      exact ⟨_, _, rfl, e1.trans e2⟩
    · rintro σ H' ⟨v1, v2, rfl, e1⟩
      walk_at "go"
      rename_i e3 _
      exact q _ (e1.trans e3)
theorem g_checks {H : Hp} {Q : VK} {E : XK} {a b : Addr} {ds hs : List Int} (h : SqT K H a (ds.map V.int)) (h2 : SqT K H b (hs.map V.int)) (R : RingOk ds hs) (q : ∀ H', Ex H H' → Q .non H') : sp_check_starts K [.ref a, .ref b] H Q E := ⟨a, b, ds, hs, rfl, h, h2, R, q⟩
/-! ### lowest_terms, pace_of -/
/-- a fraction in lowest terms -/
def low (a b : Int) : Int × Int := (a / (Int.gcd a b : Int), b / (Int.gcd a b : Int))
def RTup (K : PySem.W.Frag) (H : Hp) (xs : List V) (Q : VK) : Prop := ∀ p H', Ex H H' → SqT K H' p xs → Q (.ref p) H'
def sp_lowest_terms (K : PySem.W.Frag) : Sp := fun vs H Q _ => ∃ a b : Int, vs = [.int a, .int b] ∧ (0 < a ∧ 0 < b ∧ b < 1073741824) ∧ RTup K H [.int (low a b).1, .int (low a b).2] Q
theorem gcd_step (a b : Int) : Int.gcd b (a % b) = Int.gcd a b := by
  rw [Int.gcd_comm a b, Int.emod_def, Int.gcd_sub_mul_left_right]
theorem ok_lowest_terms (Z : Blt mg) (G : GFun K mg "lowest_terms" s_lowest_terms) : Df P w K mg base 1 "lowest_terms" ["one", "other"] (sp_lowest_terms K) := by
  refine Df.of G sc_lowest_terms b_lowest_terms (fun vs H Q E h => ?_) (fun f cdv A outer s H vs Q E hr h => ?_)
  · obtain ⟨a, b, rfl, _⟩ := h
    rfl
  · obtain ⟨a, b, rfl, ⟨h1, h2, h3⟩, q⟩ := h
    refine ⟨_, PSs.nox (pss_cons (ps_par (i := 2) (j := 3) rfl sc_lowest_terms.nd rfl rfl (by decide) rfl rfl (pa_cons (pv 0) (pa_cons (pv 1) pa_nil)) (by rfl))
      (pss_cons (ps_while PassesOwn.never (pt_cmpR op_gt (pv 3) pe_int (nomark _)) (pss_one (ps_par (i := 2) (j := 3) rfl sc_lowest_terms.nd rfl rfl (by decide) rfl rfl (pa_cons (pv 3) (pa_cons (pe_op op_mod (pe_callTy c_int1 (by rfl) Z.zint (by decide +kernel) (pa_cons (pv 2) pa_nil)) (pe_callTy c_int1 (by rfl) Z.zint (by decide +kernel) (pa_cons (pv 3) pa_nil))) pa_nil)) (by rfl))))
      (pss_one (ps_ret (pe_tup (pa_cons (pe_op op_fdiv (pv 0) (pv 2)) (pa_cons (pe_op op_fdiv (pv 1) (pv 2)) pa_nil))))))), ?_⟩
    walk_at "g0"
    walk_at "go"
    refine g_while (fun m σ H' => ∃ x y : Int, σ = [some (.int a), some (.int b), some (.int x), some (.int y)] ∧ H' = H ∧ 0 < x ∧ 0 ≤ y ∧ Int.gcd x y = Int.gcd a b ∧ m = y.toNat) b.toNat ⟨a, b, rfl, rfl, h1, by omega, rfl, rfl⟩ ?_
    rintro m σ H' ⟨x, y, rfl, rfl, hx, hy, hg, rfl⟩
    walk_at "go"
    refine g_kWh (fun h => ?_) (fun h => ?_)
    · have h := of_decide_eq_true h
      walk_at "go"
      have h4 := Int.emod_lt_of_pos x h
      have h5 := Int.emod_nonneg x (show y ≠ 0 by omega)
      exact ⟨(x % y).toNat, by omega, y, x % y, rfl, rfl, h, h5, by rw [gcd_step x y, hg], rfl⟩
    · have h := of_decide_eq_false h
      have e : y = 0 := by omega
      subst e
      have ex : x = (Int.gcd a b : Int) := by
        rw [← hg, Int.gcd_zero_right]
        omega
      have hle : (Int.gcd a b : Int) ≤ b := Int.le_of_dvd h2 (Int.gcd_dvd_right ..)
      walk_at "go"
      rename_i p H2 _ e2 hp
      refine q p H2 e2 (SqT.of ?_)
      rw [hp, ex]
      rfl
theorem g_lowest {H : Hp} {Q : VK} {E : XK} {a b : Int} (h1 : 0 < a) (h2 : 0 < b) (h3 : b < 1073741824) (q : RTup K H [.int (low a b).1, .int (low a b).2] Q) : sp_lowest_terms K [.int a, .int b] H Q E := ⟨a, b, rfl, ⟨h1, h2, h3⟩, q⟩
/-- the pace -/
def paceN (ds : List Int) (B : Int) : Int × Int := if ds.sum ≤ mx ds * B then (mx ds, 1) else low ds.sum B
def PaceV (ds : List Int) (B : Int) : List V := [.int (paceN ds B).1, .int (paceN ds B).2]
structure DaysOk (ds : List Int) : Prop where
  two : 2 ≤ ds.length
  eight : ds.length ≤ 8
  dd : ∀ d ∈ ds, 1 ≤ d ∧ d ≤ 30
theorem DaysOk.ne {ds : List Int} (h : DaysOk ds) : ds ≠ [] := fun e => by
  have := h.two
  rw [e] at this
  simp at this
theorem DaysOk.mx {ds : List Int} (h : DaysOk ds) : 1 ≤ mx ds ∧ mx ds ≤ 30 := h.dd _ (mx_mem h.ne)
theorem sum_le {ds : List Int} {lo hi : Int} (h : ∀ d ∈ ds, lo ≤ d ∧ d ≤ hi) : lo * ds.length ≤ ds.sum ∧ ds.sum ≤ hi * ds.length := by
  induction ds with
  | nil => simp
  | cons x r ih =>
    have h1 := h x List.mem_cons_self
    have h2 := ih fun d hd => h d (List.mem_cons_of_mem _ hd)
    rw [List.sum_cons, List.length_cons]
    have e1 : lo * ((r.length + 1 : Nat) : Int) = lo * r.length + lo := by
      rw [Int.natCast_add, Int.mul_add]
      simp
    have e2 : hi * ((r.length + 1 : Nat) : Int) = hi * r.length + hi := by
      rw [Int.natCast_add, Int.mul_add]
      simp
    omega
theorem DaysOk.sum {ds : List Int} (h : DaysOk ds) : 2 ≤ ds.sum ∧ ds.sum ≤ 240 := by
  have h1 := sum_le h.dd
  have h2 := h.two
  have h3 := h.eight
  omega
theorem RingOk.days {ds hs : List Int} (h : RingOk ds hs) : DaysOk ds := ⟨h.two, h.eight, h.dd⟩
def sp_pace_of (K : PySem.W.Frag) : Sp := fun vs H Q _ => ∃ (a : Addr) (ds : List Int) (B : Int), vs = [.ref a, .int B] ∧ SqT K H a (ds.map V.int) ∧ DaysOk ds ∧ (1 ≤ B ∧ B ≤ 1000) ∧ RTup K H (PaceV ds B) Q
theorem ok_pace_of (Z : Blt mg) (D_lowest_terms : Df P w K mg base 1 "lowest_terms" ["one", "other"] (sp_lowest_terms K)) (G : GFun K mg "pace_of" s_pace_of) : Df P w K mg base 2 "pace_of" ["spans", "total"] (sp_pace_of K) := by
  refine Df.of G sc_pace_of b_pace_of (fun vs H Q E h => ?_) (fun f cdv A outer s H vs Q E hr h => ?_)
  · obtain ⟨a, ds, B, rfl, _⟩ := h
    rfl
  · obtain ⟨a, ds, B, rfl, hS, hd, ⟨b1, b2⟩, q⟩ := h
    have hne := hd.ne
    have hmx := hd.mx
    have hsm := hd.sum
    refine ⟨_, PSs.nox (pss_cons (ps_par (i := 2) (j := 3) rfl sc_pace_of.nd rfl rfl (by decide) rfl rfl (pa_cons (pe_callB (cr_maxT rfl hr.units) (by rfl) Z.zmax (by decide +kernel) (pa_cons (pv 0) pa_nil)) (pa_cons (pe_callB (cr_sum rfl) (by rfl) Z.zsum (by decide +kernel) (pa_cons (pe_callTy c_list_of (by rfl) Z.zlist (by decide +kernel) (pa_cons (pv 0) pa_nil)) pa_nil)) pa_nil)) (by rfl))
      (pss_one (ps_ret (pe_ifExp (pt_cmpR op_ge (pe_op op_mul (pv 2) (pv 1)) (pv 3) (nomark _)) (pe_tup (pa_cons (pv 2) (pa_cons pe_int pa_nil))) (pg D_lowest_terms hr (pa_cons (pv 3) (pa_cons (pv 1) pa_nil))))))), ?_⟩
    walk_at "g0"
    walk_at "go"
    rename_i l H1 _ e1 hl
    refine g_kIf (fun h => ?_) (fun h => ?_)
    · have h := of_decide_eq_true h
      walk_at "go"
      rename_i p H2 _ e2 hp
      refine q p H2 (e1.trans e2) (SqT.of ?_)
      rw [hp]
      unfold PaceV paceN
      rw [if_pos h]
    · have h := of_decide_eq_false h
      walk_at "go"
      refine ⟨ds.sum, B, rfl, ⟨by omega, by omega, by omega⟩, fun p H2 e2 hp => q p H2 (e1.trans e2) ?_⟩
      unfold PaceV paceN
      rw [if_neg h]
      exact hp
theorem g_paceof {H : Hp} {Q : VK} {E : XK} {a : Addr} {ds : List Int} {B : Int} (h : SqT K H a (ds.map V.int)) (hd : DaysOk ds) (hb : 1 ≤ B ∧ B ≤ 1000) (q : ∀ p H', Ex H H' → SqT K H' p (PaceV ds B) → Q (.ref p) H') : sp_pace_of K [.ref a, .int B] H Q E := ⟨a, ds, B, rfl, h, hd, hb, q⟩
/-! ### Ring -/
def sp_Ring_init (K : PySem.W.Frag) (C : Addr) : Sp := fun vs H Q _ => ∃ (x a b dx : Addr) (ds hs : List Int), vs = [.ref x, .ref a, .ref b] ∧ H x = some (.ins C dx []) ∧ SqT K H a (ds.map V.int) ∧ SqT K H b (hs.map V.int) ∧ RingOk ds hs ∧
  ∀ H', Exb x H H' → RingIn K C H' x a b ds hs → Q .non H'
theorem exb_ti {K : PySem.W.Frag} {H H' : Hp} {l a C dx : Addr} {xs : List V} {fs : List (Str × V)} (e : Exb l H H') (hl : H l = some (.ins C dx fs)) (h : SqT K H a xs) : SqT K H' a xs := by
  rcases h with (h | ⟨o, h⟩) | h
  · exact .inl (.inl (e _ _ (ne_of h hl (by intro z; cases z)) h))
  · exact .inl (.inr ⟨o, e _ _ (ne_of h hl (by intro z; cases z)) h⟩)
  · exact .inr h
theorem ok_Ring_init (Z : Blt mg) (R : RingC K C) (D_check_days : Df P w K mg base 2 "check_days" ["days"] (sp_check_days K)) (D_check_starts : Df P w K mg base 2 "check_starts" ["days", "starts"] (sp_check_starts K))
    (G : IFun K mg "Ring" C "Ring.__init__" s_Ring___init__) : If P w K mg base "Ring" C 3 ["self", "days", "starts"] (sp_Ring_init K C) := by
  refine If.of G sc_Ring___init__ b_Ring___init__ (fun vs H Q E h => ?_) (fun f cdv A outer s H vs Q E hr h => ?_)
  · obtain ⟨x, a, b, dx, ds, hs, rfl, _⟩ := h
    rfl
  · obtain ⟨x, a, b, dx, ds, hs, rfl, hx, hS, hT, O, q⟩ := h
    obtain ⟨cl_Ring, nS, nH, nT⟩ := R
    refine ⟨_, PSs.nox (pss_cons (ps_expr (pg D_check_days hr (pa_cons (pv 1) pa_nil)))
      (pss_cons (ps_expr (pg D_check_starts hr (pa_cons (pv 1) (pa_cons (pv 2) pa_nil))))
      (pss_cons (ps_fld (pv 0) (pv 1) rfl)
      (pss_cons (ps_fld (pv 0) (pv 2) rfl)
      (pss_one (ps_fld (pv 0) (pe_callB (cr_sum rfl) (by rfl) Z.zsum (by decide +kernel) (pa_cons (pe_callTy c_list_of (by rfl) Z.zlist (by decide +kernel) (pa_cons (pv 2) pa_nil)) pa_nil)) rfl)))))), ?_⟩
    walk_at "g0"
    walk_at "go"
    refine g_checkd hS O.two O.eight O.dd fun H1 e1 => ?_
    walk_at "go"
    refine g_checks (ex_t e1 hS) (ex_t e1 hT) O fun H2 e2 => ?_
    have hx2 : H2 x = some (.ins C dx []) := e2 _ _ (e1 _ _ hx)
    have hS2 := ex_t (e1.trans e2) hS
    have hT2 := ex_t (e1.trans e2) hT
    walk_at "go"
    refine g_kSFld hx2 cl_Ring nS (by decide) fun H3 e3 hx3 => ?_
    have hS3 := exb_ti e3 hx2 hS2
    have hT3 := exb_ti e3 hx2 hT2
    walk_at "go"
    refine g_kSFld hx3 cl_Ring nH (Nat.lt_of_le_of_lt (length_putF _ _ _) (by decide)) fun H4 e4 hx4 => ?_
    have hS4 := exb_ti e4 hx3 hS3
    have hT4 := exb_ti e4 hx3 hT3
    walk_at "go"
    rename_i l H5 _ e5 hl
    refine g_kSFld (e5 _ _ hx4) cl_Ring nT (Nat.lt_of_le_of_lt (length_putF _ _ _) (Nat.lt_of_le_of_lt (Nat.succ_le_succ (length_putF _ _ _)) (by decide))) fun H6 e6 hx6 => ?_
    have hS6 := exb_ti e6 (e5 _ _ hx4) (ex_t e5 hS4)
    have hT6 := exb_ti e6 (e5 _ _ hx4) (ex_t e5 hT4)
    refine q H6 ?_ ⟨⟨dx, by rw [hx6, ← rf_eq]⟩, hS6, hT6, O⟩
    exact ((((Exb.of (e1.trans e2)).trans e3).trans e4).trans (Exb.of e5)).trans e6
/-- Ring(a, b) -/
theorem g_mkRing {H : Hp} {Q : VK} {E : XK} {a b : Addr} {ds hs : List Int} (hS : SqT K H a (ds.map V.int)) (hT : SqT K H b (hs.map V.int)) (O : RingOk ds hs) (q : ∀ r H', H r = none → Ex H H' → RingIn K C H' r a b ds hs → Q (.ref r) H') :
    kMake C (sp_Ring_init K C) E Q [.ref a, .ref b] H := by
  intro x dx nx ndx ne
  have e1 : Ex H (upd (upd H dx (.own x)) x (.ins C dx [])) := fun c o h => by
    rw [upd_ne (ne_of_none h nx), upd_ne (ne_of_none h ndx)]
    exact h
  exact ⟨x, a, b, dx, ds, hs, rfl, upd_same, ex_t e1 hS, ex_t e1 hT, O, fun H' e2 R => ⟨rfl, q x H' nx (Exb.ex nx e1 e2) R⟩⟩
/-- properties -/
def sp_Ring_days (K : PySem.W.Frag) (C : Addr) : Sp := fun vs H Q _ => ∃ (r a b : Addr) (ds hs : List Int), vs = [.ref r] ∧ RingIn K C H r a b ds hs ∧ Q (.ref a) H
def sp_Ring_starts (K : PySem.W.Frag) (C : Addr) : Sp := fun vs H Q _ => ∃ (r a b : Addr) (ds hs : List Int), vs = [.ref r] ∧ RingIn K C H r a b ds hs ∧ Q (.ref b) H
def sp_Ring_books (K : PySem.W.Frag) (C : Addr) : Sp := fun vs H Q _ => ∃ (r a b : Addr) (ds hs : List Int), vs = [.ref r] ∧ RingIn K C H r a b ds hs ∧ Q (.int hs.sum) H
def sp_Ring_pace (K : PySem.W.Frag) (C : Addr) : Sp := fun vs H Q _ => ∃ (r a b : Addr) (ds hs : List Int), vs = [.ref r] ∧ RingIn K C H r a b ds hs ∧ RTup K H (PaceV ds hs.sum) Q
def sp_Ring_len (K : PySem.W.Frag) (C : Addr) : Sp := fun vs H Q _ => ∃ (r a b : Addr) (ds hs : List Int), vs = [.ref r] ∧ RingIn K C H r a b ds hs ∧ Q (.int (ds.length : Int)) H
theorem ok_Ring_books (Z : Blt mg) (R : RingC K C) (G : PFun K C "books" "Ring.books" s_Ring_books) : Pf P w K mg base C 1 "books" ["self"] (sp_Ring_books K C) := by
  refine Pf.of G sc_Ring_books b_Ring_books (fun vs H Q E h => ?_) (fun f cdv A outer s H vs Q E hr h => ?_)
  · obtain ⟨r, a, b, ds, hs, rfl, _⟩ := h
    rfl
  · obtain ⟨r, a, b, ds, hs, rfl, ⟨⟨dx, ho⟩, hS, hT, O⟩, q⟩ := h
    obtain ⟨cl_Ring, nS, nH, nT⟩ := R
    refine ⟨_, PSs.nox (pss_one (ps_ret (pe_fld (pv 0) rfl))), ?_⟩
    walk_at "g0"
    walk_at "go"
    exact q
theorem ok_Ring_pace (Z : Blt mg) (R : RingC K C) (D_pace_of : Df P w K mg base 2 "pace_of" ["spans", "total"] (sp_pace_of K)) (G : PFun K C "pace" "Ring.pace" s_Ring_pace) : Pf P w K mg base C 3 "pace" ["self"] (sp_Ring_pace K C) := by
  refine Pf.of G sc_Ring_pace b_Ring_pace (fun vs H Q E h => ?_) (fun f cdv A outer s H vs Q E hr h => ?_)
  · obtain ⟨r, a, b, ds, hs, rfl, _⟩ := h
    rfl
  · obtain ⟨r, a, b, ds, hs, rfl, ⟨⟨dx, ho⟩, hS, hT, O⟩, q⟩ := h
    obtain ⟨cl_Ring, nS, nH, nT⟩ := R
    have r2 := O.one
    have r3 := O.twelve
    refine ⟨_, PSs.nox (pss_one (ps_ret (pg D_pace_of hr (pa_cons (pe_fld (pv 0) rfl) (pa_cons (pe_fld (pv 0) rfl) pa_nil))))), ?_⟩
    walk_at "g0"
    walk_at "go"
    exact g_paceof hS O.days ⟨by omega, by omega⟩ fun p H1 e1 hp => q p H1 e1 hp
theorem ok_Ring_len (Z : Blt mg) (R : RingC K C) (G : CFun K C "__len__" "Ring.__len__" s_Ring___len__) : Mf P w K mg base C 1 "__len__" ["self"] (sp_Ring_len K C) := by
  refine Mf.of G sc_Ring___len__ b_Ring___len__ (fun vs H Q E h => ?_) (fun f cdv A outer s H vs Q E hr h => ?_)
  · obtain ⟨r, a, b, ds, hs, rfl, _⟩ := h
    rfl
  · obtain ⟨r, a, b, ds, hs, rfl, ⟨⟨dx, ho⟩, hS, hT, O⟩, q⟩ := h
    obtain ⟨cl_Ring, nS, nH, nT⟩ := R
    refine ⟨_, PSs.nox (pss_one (ps_ret (pe_callB c_len (by rfl) Z.zlen PySem.boot_len (pa_cons (pe_fld (pv 0) rfl) pa_nil)))), ?_⟩
    walk_at "g0"
    walk_at "go"
    exact q
def sp_Ring_need (K : PySem.W.Frag) (C : Addr) : Sp := fun vs H Q _ => ∃ (r a b : Addr) (ds hs : List Int) (k : Nat), vs = [.ref r, .int (k : Int)] ∧ RingIn K C H r a b ds hs ∧ k < ds.length ∧ Q .non H
theorem ok_Ring_need (Z : Blt mg) (R : RingC K C) (D_is_integer : Df P w K mg base 1 "is_integer" ["value", "low", "high"] (sp_is_integer K)) (G : CFun K C "need_reader" "Ring.need_reader" s_Ring_need_reader) : Mf P w K mg base C 2 "need_reader" ["self", "reader"] (sp_Ring_need K C) := by
  refine Mf.of G sc_Ring_need_reader b_Ring_need_reader (fun vs H Q E h => ?_) (fun f cdv A outer s H vs Q E hr h => ?_)
  · obtain ⟨r, a, b, ds, hs, k, rfl, _⟩ := h
    rfl
  · obtain ⟨r, a, b, ds, hs, k, rfl, ⟨⟨dx, ho⟩, hS, hT, O⟩, hk, q⟩ := h
    obtain ⟨cl_Ring, nS, nH, nT⟩ := R
    refine ⟨_, PSs.nox (pss_one (ps_if (pt_not (pt_val (pg D_is_integer hr (pa_cons (pv 1) (pa_cons pe_int (pa_cons (pe_op op_sub (pe_callB c_len (by rfl) Z.zlen PySem.boot_len (pa_cons (pe_fld (pv 0) rfl) pa_nil)) pe_int) pa_nil)))))) (pss_one ps_never) pss_nil)), ?_⟩
    walk_at "g0"
    walk_at "go"
    exact q
/-! with_days -/
theorem cut_lo (ds : List Int) (k : Nat) (hk : k ≤ ds.length) : cutV (ds.map V.int) none (some (k : Int)) = (ds.take k).map V.int := by
  unfold cutV
  rw [HT.sIx_none, HT.sIx_nat, List.length_map, List.drop_zero, Nat.sub_zero, Nat.min_eq_left hk, List.map_take]
theorem cut_hi (ds : List Int) (k : Nat) (hk : k ≤ ds.length) : cutV (ds.map V.int) (some (k : Int)) none = (ds.drop k).map V.int := by
  unfold cutV
  rw [HT.sIx_none, HT.sIx_nat, List.length_map, Nat.min_eq_left hk, List.map_drop]
  refine List.take_of_length_le ?_
  rw [List.length_drop, List.length_map]
  exact Nat.le_refl _
theorem set_split {α : Type} (ds : List α) (k : Nat) (n : α) (hk : k < ds.length) : ds.take k ++ [n] ++ ds.drop (k + 1) = ds.set k n := by
  rw [List.set_eq_take_append_cons_drop, if_pos hk, List.append_assoc]
  rfl
theorem RingOk.set {ds hs : List Int} (O : RingOk ds hs) (k : Nat) {n : Int} (h : 1 ≤ n ∧ n ≤ 30) : RingOk (ds.set k n) hs :=
  ⟨by rw [List.length_set]; exact O.two, by rw [List.length_set]; exact O.eight, by rw [List.length_set]; exact O.len, fun d hd => by
    rcases List.mem_or_eq_of_mem_set hd with h1 | h1
    · exact O.dd d h1
    · rw [h1]; exact h, O.hh, O.one, O.twelve⟩
def sp_Ring_with (K : PySem.W.Frag) (C : Addr) : Sp := fun vs H Q _ => ∃ (r a b : Addr) (ds hs : List Int) (k : Nat) (n : Int), vs = [.ref r, .int (k : Int), .int n] ∧ RingIn K C H r a b ds hs ∧ k < ds.length ∧ (1 ≤ n ∧ n ≤ 30) ∧
  ∀ r' a' H', H r' = none → Ex H H' → RingIn K C H' r' a' b (ds.set k n) hs → Q (.ref r') H'
theorem ok_Ring_with (Z : Blt mg) (R : RingC K C) (M_Ring_need_reader : Mf P w K mg base C 2 "need_reader" ["self", "reader"] (sp_Ring_need K C)) (I_Ring : If P w K mg base "Ring" C 3 ["self", "days", "starts"] (sp_Ring_init K C))
    (G : CFun K C "with_days" "Ring.with_days" s_Ring_with_days) : Mf P w K mg base C 5 "with_days" ["self", "reader", "days"] (sp_Ring_with K C) := by
  refine Mf.of G sc_Ring_with_days b_Ring_with_days (fun vs H Q E h => ?_) (fun f cdv A outer s H vs Q E hr h => ?_)
  · obtain ⟨r, a, b, ds, hs, k, n, rfl, _⟩ := h
    rfl
  · obtain ⟨r, a, b, ds, hs, k, n, rfl, RI, hk, hn, q⟩ := h
    obtain ⟨⟨dx, ho⟩, hS, hT, O⟩ := id RI
    obtain ⟨cl_Ring, nS, nH, nT⟩ := R
    have h8 := O.eight
    refine ⟨_, PSs.nox (pss_cons (ps_expr (pm (pv 0) cl_Ring M_Ring_need_reader hr (pa_cons (pv 1) pa_nil)))
      (pss_one (ps_ret (pk I_Ring hr (pa_cons (pe_op op_catA (pe_op op_catA (pe_slice sl_tupA (pe_fld (pv 0) rfl) po_none (po_some (pv 1))) (pe_tup (pa_cons (pv 2) pa_nil))) (pe_slice sl_tupA (pe_fld (pv 0) rfl) (po_some (pe_op op_add (pv 1) pe_int)) po_none)) (pa_cons (pe_fld (pv 0) rfl) pa_nil)))))), ?_⟩
    walk_at "g0"
    walk_at "go"
    refine ⟨r, a, b, ds, hs, k, rfl, RI, hk, ?_⟩
    walk_at "go"
    rename_i p1 H1 e1 s1 p2 H2 _ e2 hp2
    refine g_catA (xs := (ds.take k).map V.int) (ys := [V.int n]) (by rw [← cut_lo ds k (by omega)]; exact ex_t e2 s1) (SqT.of hp2) (by rw [List.length_map, List.length_take]; exact sz1000 (by simp; omega)) fun p3 H3 e3 s3 => ?_
    have ho3 := e3 _ _ (e2 _ _ (e1 _ _ ho))
    have hS3 := ex_t e3 (ex_t e2 (ex_t e1 hS))
    walk_at "go"
    rename_i p4 H4 e4 s4
    have s4' : SqT K H4 p4 ((ds.drop (k + 1)).map V.int) := by
      rw [← cut_hi ds (k + 1) (by omega)]
      exact s4
    refine g_catA (ex_t e4 s3) s4' (by simp only [List.length_append, List.length_map, List.length_take, List.length_drop]; exact sz1000 (by simp; omega)) fun p5 H5 e5 s5 => ?_
    have s5' : SqT K H5 p5 ((ds.set k n).map V.int) := by
      rw [← set_split ds k n hk, List.map_append, List.map_append]
      exact s5
    have e05 := (((e1.trans e2).trans e3).trans e4).trans e5
    have ho5 := e05 _ _ ho
    walk_at "go"
    exact g_mkRing s5' (ex_t e05 hT) (O.set k hn) fun r' H6 n6 e6 R6 => q r' p5 H6 (fresh_back e05 n6) (e05.trans e6) R6
/-! ### the promises as steps -/
theorem RingIn.obj1 {H : Hp} {r a b : Addr} {ds hs : List Int} (R : RingIn K C H r a b ds hs) : ∃ dx, H r = some (.ins C dx (rf a b hs.sum)) := R.obj
theorem g_rbooks {H : Hp} {Q : VK} {E : XK} {r a b : Addr} {ds hs : List Int} (R : RingIn K C H r a b ds hs) (q : Q (.int hs.sum) H) : kProp C (sp_Ring_books K C) E Q (.ref r) H :=
  let ⟨dx, ho⟩ := R.obj; ⟨r, dx, _, rfl, ho, r, a, b, ds, hs, rfl, R, q⟩
theorem g_rpace {H : Hp} {Q : VK} {E : XK} {r a b : Addr} {ds hs : List Int} (R : RingIn K C H r a b ds hs) (q : ∀ p H', Ex H H' → SqT K H' p (PaceV ds hs.sum) → Q (.ref p) H') : kProp C (sp_Ring_pace K C) E Q (.ref r) H :=
  let ⟨dx, ho⟩ := R.obj; ⟨r, dx, _, rfl, ho, r, a, b, ds, hs, rfl, R, q⟩
theorem g_rlen {H : Hp} {Q : VK} {E : XK} {r a b : Addr} {ds hs : List Int} (R : RingIn K C H r a b ds hs) (q : Q (.int (ds.length : Int)) H) : rLenO C (sp_Ring_len K C) E [.ref r] H Q :=
  let ⟨dx, ho⟩ := R.obj; ⟨r, dx, _, rfl, ho, r, a, b, ds, hs, rfl, R, ds.length, rfl, ⟨by omega, by have := R.ok.eight; omega⟩, q⟩
theorem g_rneed {H : Hp} {Q : VK} {E : XK} {r a b : Addr} {ds hs : List Int} {k : Nat} (R : RingIn K C H r a b ds hs) (hk : k < ds.length) (q : Q .non H) : sp_Ring_need K C [.ref r, .int (k : Int)] H Q E := ⟨r, a, b, ds, hs, k, rfl, R, hk, q⟩
theorem g_rneedM {H : Hp} {Q : VK} {E : XK} {r a b : Addr} {ds hs : List Int} {tr : TA} {σ : L2.St} (R : RingIn K C H r a b ds hs) (q : tr σ H fun vs H2 => sp_Ring_need K C (.ref r :: vs) H2 Q E) : kMeth C "need_reader" (sp_Ring_need K C) E tr σ Q (.ref r) H :=
  let ⟨dx, ho⟩ := R.obj; g_kMeth ho rf_nr q
theorem g_rwithM {H : Hp} {Q : VK} {E : XK} {r a b : Addr} {ds hs : List Int} {tr : TA} {σ : L2.St} (R : RingIn K C H r a b ds hs) (q : tr σ H fun vs H2 => sp_Ring_with K C (.ref r :: vs) H2 Q E) : kMeth C "with_days" (sp_Ring_with K C) E tr σ Q (.ref r) H :=
  let ⟨dx, ho⟩ := R.obj; g_kMeth ho rf_wd q
theorem g_rspans {H : Hp} {Q : VK} {r a b : Addr} {ds hs : List Int} (R : RingIn K C H r a b ds hs) (c : RingC K C) (q : Q (.ref a) H) : kFld K "spans" Q (.ref r) H := let ⟨dx, ho⟩ := R.obj; g_kFld ho c.cl c.nS rf_spans q
theorem g_rheaps {H : Hp} {Q : VK} {r a b : Addr} {ds hs : List Int} (R : RingIn K C H r a b ds hs) (c : RingC K C) (q : Q (.ref b) H) : kFld K "heaps" Q (.ref r) H := let ⟨dx, ho⟩ := R.obj; g_kFld ho c.cl c.nH rf_heaps q
theorem g_rtotal {H : Hp} {Q : VK} {r a b : Addr} {ds hs : List Int} (R : RingIn K C H r a b ds hs) (c : RingC K C) (q : Q (.int hs.sum) H) : kFld K "total" Q (.ref r) H := let ⟨dx, ho⟩ := R.obj; g_kFld ho c.cl c.nT rf_total q
end
end G48

namespace G48
open PySem PySem.Spec PyProof.Rows L2 Evl
abbrev s_pace_readers : Stmt := top 21
abbrev N_pace_readers : List Str := ["ring", "slowest"]
theorem sc_pace_readers : FnScope N_pace_readers ["ring"] (defScope s_pace_readers) := ⟨rfl, rfl, rfl, by decide +kernel, rfl, by decide +kernel, by decide +kernel⟩
theorem b_pace_readers : BindL "pace_readers" "pace_readers" s_pace_readers ["ring"] := fun _ _ _ _ _ _ us hl => match us, hl with | [_], _ => rfl
abbrev s_judge_pace : Stmt := top 22
abbrev N_judge_pace : List Str := ["ring", "readers", "index", "reader"]
theorem sc_judge_pace : FnScope N_judge_pace ["ring", "readers"] (defScope s_judge_pace) := ⟨rfl, rfl, rfl, by decide +kernel, rfl, by decide +kernel, by decide +kernel⟩
theorem b_judge_pace : BindL "judge_pace" "judge_pace" s_judge_pace ["ring", "readers"] := fun _ _ _ _ _ _ us hl => match us, hl with | [_, _], _ => rfl
abbrev s_is_less : Stmt := top 25
abbrev N_is_less : List Str := ["one", "other"]
theorem sc_is_less : FnScope N_is_less ["one", "other"] (defScope s_is_less) := ⟨rfl, rfl, rfl, by decide +kernel, rfl, by decide +kernel, by decide +kernel⟩
theorem b_is_less : BindL "is_less" "is_less" s_is_less ["one", "other"] := fun _ _ _ _ _ _ us hl => match us, hl with | [_, _], _ => rfl
abbrev s_pace_with : Stmt := top 26
abbrev N_pace_with : List Str := ["ring", "books"]
theorem sc_pace_with : FnScope N_pace_with ["ring", "books"] (defScope s_pace_with) := ⟨rfl, rfl, rfl, by decide +kernel, rfl, by decide +kernel, by decide +kernel⟩
theorem b_pace_with : BindL "pace_with" "pace_with" s_pace_with ["ring", "books"] := fun _ _ _ _ _ _ us hl => match us, hl with | [_, _], _ => rfl
abbrev s_fewest_books : Stmt := top 27
abbrev N_fewest_books : List Str := ["ring", "slowest", "whole"]
theorem sc_fewest_books : FnScope N_fewest_books ["ring"] (defScope s_fewest_books) := ⟨rfl, rfl, rfl, by decide +kernel, rfl, by decide +kernel, by decide +kernel⟩
theorem b_fewest_books : BindL "fewest_books" "fewest_books" s_fewest_books ["ring"] := fun _ _ _ _ _ _ us hl => match us, hl with | [_], _ => rfl
abbrev s_helpful_readers : Stmt := top 28
abbrev N_helpful_readers : List Str := ["ring", "found", "reader", "span", "spans"]
theorem sc_helpful_readers : FnScope N_helpful_readers ["ring"] (defScope s_helpful_readers) := ⟨rfl, rfl, rfl, by decide +kernel, rfl, by decide +kernel, by decide +kernel⟩
theorem b_helpful_readers : BindL "helpful_readers" "helpful_readers" s_helpful_readers ["ring"] := fun _ _ _ _ _ _ us hl => match us, hl with | [_], _ => rfl
abbrev s_slowest_days : Stmt := top 29
abbrev N_slowest_days : List Str := ["ring", "reader", "low", "high", "middle"]
theorem sc_slowest_days : FnScope N_slowest_days ["ring", "reader"] (defScope s_slowest_days) := ⟨rfl, rfl, rfl, by decide +kernel, rfl, by decide +kernel, by decide +kernel⟩
theorem b_slowest_days : BindL "slowest_days" "slowest_days" s_slowest_days ["ring", "reader"] := fun _ _ _ _ _ _ us hl => match us, hl with | [_, _], _ => rfl
abbrev s_fewest_days_less : Stmt := top 30
abbrev N_fewest_days_less : List Str := ["ring", "days", "readings", "most", "single", "span"]
theorem sc_fewest_days_less : FnScope N_fewest_days_less ["ring", "days", "readings"] (defScope s_fewest_days_less) := ⟨rfl, rfl, rfl, by decide +kernel, rfl, by decide +kernel, by decide +kernel⟩
theorem b_fewest_days_less : BindL "fewest_days_less" "fewest_days_less" s_fewest_days_less ["ring", "days", "readings"] := fun _ _ _ _ _ _ us hl => match us, hl with | [_, _, _], _ => rfl
end G48
/-! chains and planning: what asks no course -/
namespace G48
open PySem PySem.Spec PyProof.Rows L2 Evl
/-! the steps -/
local macro_rules | `(tactic| walk_at "as") => `(tactic| with_reducible assumption)
local macro_rules | `(tactic| walk_at "hp") => `(tactic| first
  | with_reducible assumption
  | ((with_reducible apply SqT.of); walk_at "as")
  | ((with_reducible apply SqL.of); walk_at "as")
  | ((with_reducible apply ex_at); (focus walk_at "as"); walk_at "hp")
  | ((with_reducible apply ex_t); (focus walk_at "as"); walk_at "hp")
  | ((with_reducible apply ex_l); (focus walk_at "as"); walk_at "hp")
  | ((with_reducible apply exb_ins); (focus walk_at "as"); (focus walk_at "hp"); walk_at "hp")
  | ((with_reducible apply exb_t); (focus walk_at "as"); (focus walk_at "hp"); walk_at "hp")
  | ((with_reducible apply exb_at); (focus walk_at "as"); (focus walk_at "ne"); walk_at "hp")
  | ((with_reducible apply exb_l); (focus walk_at "as"); (focus walk_at "ne"); walk_at "hp"))
local macro_rules | `(tactic| walk_at "ne") => `(tactic| first
  | with_reducible assumption
  | exact Ne.symm (by with_reducible assumption)
  | exact ne_of_none (by with_reducible assumption) (by with_reducible assumption)
  | exact Ne.symm (ne_of_none (by with_reducible assumption) (by with_reducible assumption)))
local macro_rules | `(tactic| walk_at "tr") => `(tactic| first
  | rfl
  | with_reducible assumption
  | exact decide_eq_true (by first | with_reducible assumption | omega)
  | exact decide_eq_false (by first | with_reducible assumption | omega)
  | (rw [Bool.not_eq_true']; exact decide_eq_false (by first | with_reducible assumption | omega))
  | (rw [Bool.not_eq_false']; exact decide_eq_true (by first | with_reducible assumption | omega)))
local macro_rules | `(tactic| walk_at "nn") => `(tactic| first | with_reducible assumption | (exact List.cons_ne_nil _ _))
local macro_rules | `(tactic| walk_at "sz") => `(tactic| first | (exact sz1000 (Nat.le_of_ble_eq_true rfl)) | (refine sz1000 ?_; simp only [List.length_map, List.length_cons, List.length_nil, List.length_append]; omega) | with_reducible assumption)
local macro_rules | `(tactic| walk_at "sl") => `(tactic| first | with_reducible assumption | (refine lt1000 ?_; simp only [List.length_map, List.length_cons, List.length_nil, List.length_append]; omega) | (refine lt1000 ?_; omega))
local macro_rules | `(tactic| walk_at "ix") => `(tactic| first | rfl | with_reducible assumption)
local macro_rules | `(tactic| walk_at "rg") => `(tactic| exact RgOk.of_le (by omega) (by omega) (by omega) (by omega))
local macro_rules | `(tactic| walk_at "sp") => `(tactic| fail "sp")
local macro_rules | `(tactic| walk_at "cl") => `(tactic| with_reducible assumption)
local macro_rules | `(tactic| walk_at "lk") => `(tactic| with_reducible assumption)
local macro_rules | `(tactic| walk_at "it") => `(tactic| first | rfl | with_reducible assumption | exact atI_nat (by with_reducible assumption))
local macro_rules | `(tactic| walk_at "g1") => `(tactic| first
  | (with_reducible apply g_var); (focus rfl)
  | with_reducible apply g_c
  | with_reducible apply g_seq
  | with_reducible apply g_asg
  | with_reducible apply gg_name
  | with_reducible apply g_op
  | with_reducible apply g_cons
  | with_reducible apply g_nil
  | with_reducible apply g_cb
  | with_reducible apply g_fld
  | ((with_reducible apply g_kFld); (focus walk_at "hp"); (focus walk_at "cl"); (focus walk_at "cl"); (focus walk_at "lk"))
  | with_reducible apply g_call
  | walk_at "sp"
  | with_reducible apply g_ret
  | with_reducible apply g_drop
  | with_reducible apply g_test
  | with_reducible apply g_B
  | with_reducible apply g_kTest
  | with_reducible apply g_ifS
  | with_reducible apply g_kIfST
  | with_reducible apply g_kIfSF
  | with_reducible apply g_add
  | with_reducible apply g_sub
  | with_reducible apply g_lt
  | with_reducible apply g_le
  | with_reducible apply g_gt
  | with_reducible apply g_ge
  | with_reducible apply g_eqI
  | with_reducible apply g_neI
  | ((with_reducible apply g_mod); (focus first | decide | omega))
  | ((with_reducible apply g_mul); (focus first | (left; constructor <;> omega) | (right; constructor <;> omega)))
  | ((with_reducible apply g_fdiv); (focus (constructor <;> omega)))
  | ((with_reducible apply g_ixT); (focus walk_at "hp"); (focus walk_at "it"))
  | ((with_reducible apply g_ixL); (focus walk_at "hp"); (focus walk_at "it"))
  | with_reducible apply g_and
  | with_reducible apply g_or
  | with_reducible apply g_not
  | with_reducible apply g_kNotT
  | with_reducible apply g_kNotF
  | with_reducible apply g_if
  | with_reducible apply g_kAndT
  | with_reducible apply g_kAndF
  | with_reducible apply g_kOrT
  | with_reducible apply g_kOrF
  | with_reducible apply g_kIfT
  | with_reducible apply g_kIfF
  | with_reducible apply g_next
  | with_reducible apply g_andV
  | with_reducible apply g_orV
  | with_reducible apply g_notV
  | with_reducible apply g_kNotV
  | with_reducible apply g_kAndVT
  | with_reducible apply g_kAndVF
  | with_reducible apply g_chain
  | with_reducible apply g_kChainT
  | with_reducible apply g_kChainF
  | with_reducible apply g_tup
  | with_reducible apply g_lst
  | ((with_reducible apply g_kT); (focus walk_at "sz"); intro _ _ _ _ _)
  | ((with_reducible apply g_kL); (focus walk_at "sz"); intro _ _ _ _ _)
  | with_reducible apply g_un
  | with_reducible apply g_neg
  | with_reducible apply g_meth
  | ((with_reducible apply g_kMeth); (focus walk_at "hp"); (focus walk_at "lk"))
  | with_reducible apply g_prop
  | ((with_reducible apply g_kProp); (focus walk_at "hp"))
  | with_reducible apply g_make
  | with_reducible apply g_par
  | with_reducible apply g_kPar
  | ((with_reducible apply g_lenLM); (focus walk_at "hp"))
  | ((with_reducible apply g_lenTM); (focus walk_at "hp"))
  | ((with_reducible apply g_lenL); (focus walk_at "hp"))
  | ((with_reducible apply g_lenT); (focus walk_at "hp"))
  | with_reducible apply g_int1
  | with_reducible apply g_max2
  | with_reducible apply g_min2
  | ((with_reducible apply g_listL); (focus walk_at "hp"); intro _ _ _ _ _)
  | ((with_reducible apply g_listT); (focus walk_at "hp"); intro _ _ _ _ _)
  | ((with_reducible apply g_tupL); (focus walk_at "hp"); intro _ _ _ _ _)
  | ((with_reducible apply g_sum); (focus walk_at "hp"))
  | with_reducible apply g_sfld
  | with_reducible apply g_sl
  | with_reducible apply g_nopart
  | with_reducible apply g_part
  | with_reducible apply g_kPart
  | with_reducible apply g_lstRg
  | with_reducible apply g_rg1
  | with_reducible apply g_kRg1
  | with_reducible apply g_bm
  | with_reducible apply gg_sub
  | ((with_reducible apply gg_tup); (focus walk_at "hp"); (focus rfl))
  | with_reducible apply gg_cons
  | with_reducible apply gg_nil
  | with_reducible apply g_forL
  | with_reducible apply g_forT
  | with_reducible apply g_forR1
  | with_reducible apply g_forR2
  | with_reducible apply g_forE
  | with_reducible apply g_forEL
  | ((with_reducible apply g_maxT); (focus walk_at "hp"); (focus walk_at "nn"))
  | ((with_reducible apply g_maxL); (focus walk_at "hp"); (focus walk_at "nn"))
  | ((with_reducible apply g_catA); (focus walk_at "hp"); (focus walk_at "hp"); (focus walk_at "sz"); intro _ _ _ _)
  | ((with_reducible apply g_slA); (focus walk_at "hp"); intro _ _ _ _)
  | ((with_reducible apply g_tupD); (focus walk_at "hp"); intro _ _ _ _ _)
  | ((with_reducible apply g_setL); (focus walk_at "hp"); (focus walk_at "ix"); intro _ _ _)
  | ((with_reducible apply g_append); (focus walk_at "hp"); (focus walk_at "sl"); intro _ _ _)
  | ((with_reducible apply g_aug); (focus rfl))
  | with_reducible apply g_ipI
  | with_reducible apply g_retN
  | with_reducible apply g_lcR1
  | with_reducible apply g_lcR2
  | with_reducible apply g_lcL
  | with_reducible apply g_lcU
  | with_reducible apply g_lcN
  | ((with_reducible apply g_kLcG); (focus rfl))
  | with_reducible apply g_yes
  | with_reducible apply g_kLcTT
  | with_reducible apply g_kLcTF
  | ((with_reducible apply g_kLcE); (focus walk_at "hp"); (focus walk_at "sl"); intro _ _ _)
  | ((with_reducible apply g_pow); (focus (constructor <;> (try constructor) <;> decide)))
  | ((with_reducible apply g_kLRg); (focus walk_at "rg"); intro _ _ _ _ _)
  | ((with_reducible apply g_cat); (focus walk_at "hp"); (focus walk_at "hp"); (focus walk_at "sz"); intro _ _ _ _ _)
  | ((with_reducible apply g_slL); (focus walk_at "hp"); intro _ _ _ _ _)
  | with_reducible apply g_bmT
  | with_reducible apply g_break
  | with_reducible apply g_cont)
local macro_rules | `(tactic| walk_at "g0") => `(tactic| try dsimp only [L2.cxOf, L2.Cx.nox, L2.Cx.wish])
local macro_rules | `(tactic| walk_at "yn") => `(tactic| first
  | ((with_reducible apply y_kIfS); (focus walk_at "tr"))
  | ((with_reducible apply n_kIfS); (focus walk_at "tr"))
  | ((with_reducible apply y_kOr); (focus walk_at "tr"))
  | ((with_reducible apply n_kOr); (focus walk_at "tr"))
  | ((with_reducible apply y_kAnd); (focus walk_at "tr"))
  | ((with_reducible apply n_kAnd); (focus walk_at "tr"))
  | ((with_reducible apply y_kNot); (focus walk_at "tr"))
  | ((with_reducible apply n_kNot); (focus walk_at "tr"))
  | ((with_reducible apply y_kIf); (focus walk_at "tr"))
  | ((with_reducible apply n_kIf); (focus walk_at "tr"))
  | ((with_reducible apply y_kAndV); (focus walk_at "tr"))
  | ((with_reducible apply n_kAndV); (focus walk_at "tr"))
  | ((with_reducible apply y_kOrV); (focus walk_at "tr"))
  | ((with_reducible apply n_kOrV); (focus walk_at "tr"))
  | ((with_reducible apply y_kChain); (focus walk_at "tr"))
  | ((with_reducible apply n_kChain); (focus walk_at "tr"))
  | ((with_reducible apply y_kLcT); (focus walk_at "tr"))
  | ((with_reducible apply n_kLcT); (focus walk_at "tr"))
  | ((with_reducible apply y_kWh); (focus walk_at "tr"))
  | ((with_reducible apply n_kWh); (focus walk_at "tr")))
local macro_rules | `(tactic| walk_at "go") => `(tactic| repeat (first | walk_at "g1" | walk_at "yn"))
local macro_rules | `(tactic| walk_at "hp") => `(tactic| first
  | ((with_reducible apply RingIn.ex); (focus walk_at "as"); walk_at "hp")
  | ((with_reducible apply RingAt.ex); (focus walk_at "as"); walk_at "hp")
  | ((with_reducible apply RingIn.exb); (focus walk_at "as"); (focus walk_at "hp"); walk_at "hp")
  | ((with_reducible apply RingAt.exb); (focus walk_at "as"); (focus walk_at "hp"); walk_at "hp")
  | ((with_reducible apply TupK.ex); (focus walk_at "as"); walk_at "hp")
  | ((with_reducible apply TupK.exb); (focus walk_at "as"); (focus walk_at "hp"); walk_at "hp"))
local macro_rules | `(tactic| walk_at "lk") => `(tactic| first | with_reducible exact rf_spans | with_reducible exact rf_heaps | with_reducible exact rf_total | with_reducible exact rf_nr | with_reducible exact rf_wd)
local macro_rules | `(tactic| walk_at "sp") => `(tactic| first
  | ((with_reducible apply g_isiTup); (focus walk_at "hp"))
  | ((with_reducible apply g_isiLst); (focus walk_at "hp"))
  | ((with_reducible apply g_isint); (focus omega); (focus omega))
  | ((with_reducible apply g_checkn); (focus omega); (focus omega))
  | ((with_reducible apply g_rbooks); (focus walk_at "hp"))
  | ((with_reducible apply g_rpace); (focus walk_at "hp"); intro _ _ _ _)
  | ((with_reducible apply g_rlen); (focus walk_at "hp"))
  | ((with_reducible apply g_rneed); (focus walk_at "hp"); (focus omega))
  | ((with_reducible apply g_rneedM); (focus walk_at "hp"))
  | ((with_reducible apply g_rwithM); (focus walk_at "hp"))
  | ((with_reducible apply g_rspans); (focus walk_at "hp"); (focus with_reducible assumption))
  | ((with_reducible apply g_rheaps); (focus walk_at "hp"); (focus with_reducible assumption))
  | ((with_reducible apply g_rtotal); (focus walk_at "hp"); (focus with_reducible assumption)))

/-- the first place -/
theorem first_at : ∀ {ys : List Int} {z : Int}, z ∈ ys → ∃ j : Nat, ys[j]? = some z ∧ ∀ m : Nat, m < j → ys[m]? ≠ some z
  | [], _, h => by cases h
  | y :: r, z, h => by
    by_cases e : y = z
    · exact ⟨0, by rw [e]; rfl, fun m hm => absurd hm (Nat.not_lt_zero m)⟩
    · have h1 : z ∈ r := by
        rcases List.mem_cons.mp h with h | h
        · exact absurd h.symm e
        · exact h
      obtain ⟨j, h2, h3⟩ := first_at h1
      refine ⟨j + 1, h2, fun m hm => ?_⟩
      cases m with
      | zero =>
        intro q
        exact e (Option.some.inj q)
      | succ m => exact h3 m (by omega)
def upto (n : Nat) : List Int := (List.range n).map fun (i : Nat) => (i : Int)
theorem upto_map (n : Nat) : rgV 0 (n : Int) = (upto n).map V.int := by
  unfold rgV upto
  rw [List.map_map]
  have e : ((n : Int) - 0).toNat = n := by omega
  rw [e]
  apply List.map_congr_left
  intro i _
  show V.int (0 + (i : Int)) = V.int (i : Int)
  rw [Int.zero_add]
theorem upto_len (n : Nat) : (upto n).length = n := by unfold upto; rw [List.length_map, List.length_range]
theorem upto_at {n i : Nat} (h : i < n) : (upto n)[i]? = some (i : Int) := by
  unfold upto
  rw [List.getElem?_map, List.getElem?_range h]
  rfl
/-- the readers that set the pace -/
def PR (ds : List Int) (B : Int) (rs : List Int) : Prop :=
  if ds.sum ≤ mx ds * B then ∃ j : Nat, rs = [(j : Int)] ∧ ds[j]? = some (mx ds) ∧ ∀ m : Nat, m < j → ds[m]? ≠ some (mx ds) else rs = upto ds.length
section
variable {P : Program} {w : World} {K : PySem.W.Frag} {mg : Str → Option Value} {base : Heap} {C : Addr}
def sp_pace_readers (K : PySem.W.Frag) (C : Addr) : Sp := fun vs H Q _ => ∃ (r a b : Addr) (ds hs : List Int), vs = [.ref r] ∧ RingIn K C H r a b ds hs ∧ TupK H a (ds.map V.int) ∧
  ∀ p H' rs, H p = none → Ex H H' → H' p = some (.lst (rs.map V.int)) → PR ds hs.sum rs → Q (.ref p) H'
theorem ok_pace_readers (Z : Blt mg) (R : RingC K C) (Q_Ring_books : Pf P w K mg base C 1 "books" ["self"] (sp_Ring_books K C)) (M_Ring___len__ : Mf P w K mg base C 1 "__len__" ["self"] (sp_Ring_len K C))
    (G : GFun K mg "pace_readers" s_pace_readers) : Df P w K mg base 3 "pace_readers" ["ring"] (sp_pace_readers K C) := by
  refine Df.of G sc_pace_readers b_pace_readers (fun vs H Q E h => ?_) (fun f cdv A outer s H vs Q E hr h => ?_)
  · obtain ⟨r, a, b, ds, hs, rfl, _⟩ := h
    rfl
  · obtain ⟨r, a, b, ds, hs, rfl, RI, TK, q⟩ := h
    have cl_Ring := R.cl
    have hne := RI.ok.days.ne
    have hmx := RI.ok.days.mx
    have h8 := RI.ok.eight
    have hS := RI.sp
    refine ⟨_, PSs.nox (pss_cons (ps_set (i := 1) sc_pace_readers.nd rfl (by first | exact Or.inl rfl | exact Or.inr rfl) (pe_callB (cr_maxT rfl hr.units) (by rfl) Z.zmax (by decide +kernel) (pa_cons (pe_fld (pv 0) rfl) pa_nil)))
      (pss_cons (ps_if (pt_cmpR op_ge (pe_op op_mul (pv 1) (pp (pv 0) cl_Ring Q_Ring_books hr)) (pe_callB (cr_sum rfl) (by rfl) Z.zsum (by decide +kernel) (pa_cons (pe_callTy c_list_of (by rfl) Z.zlist (by decide +kernel) (pa_cons (pe_fld (pv 0) rfl) pa_nil)) pa_nil)) (nomark _)) (pss_one (ps_ret (pe_lst (pa_cons (pe_bmT PySem.F.slot_tuple_index PySem.F.type_tuple_index mt_indexTI (pe_fld (pv 0) rfl) (pa_cons (pv 1) pa_nil)) pa_nil)))) pss_nil)
      (pss_one (ps_ret (pe_listRg rfl (by rfl) Z.zlist (prg_1 (by rfl) Z.zrange (pe_callB (call_lenO M_Ring___len__ hr) (by rfl) Z.zlen PySem.boot_len (pa_cons (pv 0) pa_nil)))))))), ?_⟩
    walk_at "g0"
    walk_at "go"
    rename_i l H1 _ e1 hl
    refine g_kIfS (fun h => ?_) (fun h => ?_)
    · have h := of_decide_eq_true h
      walk_at "go"
      obtain ⟨j, hj, hf⟩ := first_at (mx_mem hne)
      refine ⟨⟨a, _, rfl, TK.ex e1⟩, ?_⟩
      walk_at "go"
      refine ⟨a, ds, mx ds, j, rfl, rfl, ex_t e1 hS, hj, hf, ?_⟩
      walk_at "go"
      rename_i p H2 n2 e2 hp
      refine q p H2 [(j : Int)] (fresh_back e1 n2) (e1.trans e2) hp ?_
      unfold PR
      rw [if_pos h]
      exact ⟨j, rfl, hj, hf⟩
    · have h := of_decide_eq_false h
      walk_at "go"
      rename_i p H2 n2 e2 hp
      refine q p H2 (upto ds.length) (fresh_back e1 n2) (e1.trans e2) (by rw [hp, upto_map]) ?_
      unfold PR
      rw [if_neg h]
/-- a list of readers that shows a pace -/
structure Shows (rs : List Int) (n : Nat) : Prop where
  at_ : ∀ (i : Nat) (x : Int), rs[i]? = some x → 0 ≤ x ∧ x < n
  next : ∀ (i : Nat) (x y : Int), rs[i]? = some x → rs[i + 1]? = some y → y = (x + 1) % n
  len : rs.length = 1 ∨ rs.length = n
def shown (ds : List Int) (B : Int) (rs : List Int) : Int × Int := if rs.length = 1 then (ds.getD (rs.getD 0 0).toNat 0, 1) else low ds.sum B
def sp_judge_pace (K : PySem.W.Frag) (C : Addr) : Sp := fun vs H Q _ => ∃ (r a b l : Addr) (ds hs rs : List Int), vs = [.ref r, .ref l] ∧ RingIn K C H r a b ds hs ∧ SqL K H l (rs.map V.int) ∧ Shows rs ds.length ∧
  RTup K H [.int (shown ds hs.sum rs).1, .int (shown ds hs.sum rs).2] Q
theorem ok_judge_pace (Z : Blt mg) (R : RingC K C) (D_is_integer : Df P w K mg base 1 "is_integer" ["value", "low", "high"] (sp_is_integer K)) (D_lowest_terms : Df P w K mg base 1 "lowest_terms" ["one", "other"] (sp_lowest_terms K))
    (Q_Ring_books : Pf P w K mg base C 1 "books" ["self"] (sp_Ring_books K C)) (M_Ring___len__ : Mf P w K mg base C 1 "__len__" ["self"] (sp_Ring_len K C))
    (G : GFun K mg "judge_pace" s_judge_pace) : Df P w K mg base 3 "judge_pace" ["ring", "readers"] (sp_judge_pace K C) := by
  refine Df.of G sc_judge_pace b_judge_pace (fun vs H Q E h => ?_) (fun f cdv A outer s H vs Q E hr h => ?_)
  · obtain ⟨r, a, b, l, ds, hs, rs, rfl, _⟩ := h
    rfl
  · obtain ⟨r, a, b, l, ds, hs, rs, rfl, RI, hL, S, q⟩ := h
    have cl_Ring := R.cl
    have hsm := RI.ok.days.sum
    have h8 := RI.ok.eight
    have h2 := RI.ok.two
    have r2 := RI.ok.one
    have r3 := RI.ok.twelve
    have hS := RI.sp
    have hlen : rs.length ≤ ds.length := by rcases S.len with h | h <;> omega
    refine ⟨_, PSs.nox (pss_cons (ps_if (pt_not (pt_val (pe_callB call_isi (by rfl) Z.zisinstance (by decide +kernel) (pa_cons (pv 1) (pa_cons (pe_bltn rfl Z.zlist (v := .ty "list") (by decide +kernel) rfl) pa_nil))))) (pss_one ps_never) pss_nil)
      (pss_cons (ps_for PassesOwn.never rfl (pi_enum (by rfl) Z.zenumerate (pa_cons (pv 1) pa_nil)) (pg_tup (by rfl) (pgs_cons (pg_name (i := 2) sc_judge_pace.nd rfl (by first | exact Or.inl rfl | exact Or.inr rfl)) (pgs_cons (pg_name (i := 3) sc_judge_pace.nd rfl (by first | exact Or.inl rfl | exact Or.inr rfl)) pgs_nil))) (pss_cons (ps_if (pt_not (pt_val (pg D_is_integer hr (pa_cons (pv 3) (pa_cons pe_int (pa_cons (pe_op op_sub (pe_callB (call_lenO M_Ring___len__ hr) (by rfl) Z.zlen PySem.boot_len (pa_cons (pv 0) pa_nil)) pe_int) pa_nil)))))) (pss_one ps_never) pss_nil)
          (pss_cons (ps_if (PW.pt (pw_and (pt_cmpR op_gt (pv 2) pe_int (nomark _)) (pw_and1 (pt_cmpR op_ne (pv 3) (pe_op op_mod (pe_callTy c_int1 (by rfl) Z.zint (by decide +kernel) (pa_cons (pe_op op_add (pe_ix ix_list (pv 1) (pe_op op_sub (pv 2) pe_int) (fun _ _ => rfl)) pe_int) pa_nil)) (pe_callB (call_lenO M_Ring___len__ hr) (by rfl) Z.zlen PySem.boot_len (pa_cons (pv 0) pa_nil))) (nomark _))))) (pss_one ps_never) pss_nil)
          (pss_one (ps_if (pt_cmpR op_eq (pv 2) (pe_callB (call_lenO M_Ring___len__ hr) (by rfl) Z.zlen PySem.boot_len (pa_cons (pv 0) pa_nil)) (nomark _)) (pss_one ps_never) pss_nil)))))
      (pss_cons (ps_if (pt_cmpR op_eq (pe_callB c_len (by rfl) Z.zlen PySem.boot_len (pa_cons (pv 1) pa_nil)) pe_int (nomark _)) (pss_one (ps_ret (pe_tup (pa_cons (pe_ix ix_tup (pe_fld (pv 0) rfl) (pe_ix ix_list (pv 1) pe_int (fun _ _ => rfl)) (fun _ _ => rfl)) (pa_cons pe_int pa_nil))))) pss_nil)
      (pss_cons (ps_if (pt_cmpR op_lt (pe_callB c_len (by rfl) Z.zlen PySem.boot_len (pa_cons (pv 1) pa_nil)) (pe_callB (call_lenO M_Ring___len__ hr) (by rfl) Z.zlen PySem.boot_len (pa_cons (pv 0) pa_nil)) (nomark _)) (pss_one ps_never) pss_nil)
      (pss_one (ps_ret (pg D_lowest_terms hr (pa_cons (pe_callB (cr_sum rfl) (by rfl) Z.zsum (by decide +kernel) (pa_cons (pe_callTy c_list_of (by rfl) Z.zlist (by decide +kernel) (pa_cons (pe_fld (pv 0) rfl) pa_nil)) pa_nil)) (pa_cons (pp (pv 0) cl_Ring Q_Ring_books hr) pa_nil))))))))), ?_⟩
    walk_at "g0"
    walk_at "go"
    refine g_kForEL hL (fun i σ H' => ∃ v1 v2, σ = [some (.ref r), some (.ref l), v1, v2] ∧ Ex H H') ⟨none, none, rfl, Ex.refl _⟩ (fun i σ H' _ ⟨_, _, _, e⟩ => ex_l e hL) ?_ ?_
    · rintro i x σ H' T H2 hx ⟨v1, v2, rfl, e1⟩ e2 nT hT
      obtain ⟨n, rfl, hn, hm, hi⟩ := at_int hx
      have hb := S.at_ i n hn
      have RI2 := RI.ex (e1.trans e2)
      walk_at "go"
      refine g_kAnd (fun h => ?_) (fun h => ?_)
      · have h := of_decide_eq_true h
        have hp : rs[i - 1]? = some rs[i - 1] := List.getElem?_eq_getElem (by omega)
        have hnx := S.next (i - 1) _ n hp (by rw [show i - 1 + 1 = i by omega]; exact hn)
        walk_at "go"
        refine g_ixL (v := .int rs[i - 1]) (ex_l (e1.trans e2) hL) ?_ ?_
        · rw [show ((i : Int) - 1) = ((i - 1 : Nat) : Int) by omega]
          refine atI_nat ?_
          rw [List.getElem?_map, hp]
          rfl
        walk_at "go"
        exact ⟨_, _, rfl, e1.trans e2⟩
      · walk_at "go"
        exact ⟨_, _, rfl, e1.trans e2⟩
    · rintro σ H' ⟨v1, v2, rfl, e1⟩
      have RI2 := RI.ex e1
      have hS2 := RI2.sp
      walk_at "go"
      refine g_kIfS (fun h => ?_) (fun h => ?_)
      · have h := of_decide_eq_true h
        have hl1 : rs.length = 1 := by omega
        have h0 : rs[0]? = some rs[0] := List.getElem?_eq_getElem (by omega)
        have hb := S.at_ 0 _ h0
        have hr0 : (rs.map V.int)[0]? = some (.int rs[0]) := by rw [List.getElem?_map, h0]; rfl
        walk_at "go"
        have hk : rs[0].toNat < ds.length := by omega
        refine g_ixT (v := .int ds[rs[0].toNat]) hS2 ?_ ?_
        · have e0 : atI (ds.map V.int) (rs[0].toNat : Int) = some (.int ds[rs[0].toNat]) := atI_nat (by rw [List.getElem?_map, List.getElem?_eq_getElem hk]; rfl)
          rw [← e0]
          congr 1
          omega
        walk_at "go"
        rename_i p H2 n2 e2 hp
        refine q p H2 (e1.trans e2) (SqT.of ?_)
        rw [hp]
        unfold shown
        rw [if_pos hl1]
        have e3 : rs.getD 0 0 = rs[0] := by simp [List.getD, h0]
        rw [e3]
        have e4 : ds.getD rs[0].toNat 0 = ds[rs[0].toNat] := by simp [List.getD, List.getElem?_eq_getElem hk]
        rw [e4]
      · have h := of_decide_eq_false h
        have hl1 : ¬ rs.length = 1 := by omega
        have hln : rs.length = ds.length := by rcases S.len with h | h <;> omega
        walk_at "go"
        rename_i l2 H2 n2 e2 hl2
        refine g_lowest (by omega) (by omega) (by omega) fun p H3 e3 hp => q p H3 ((e1.trans e2).trans e3) ?_
        unfold shown
        rw [if_neg hl1]
        exact hp
/-! ### planning -/
def sp_is_less (K : PySem.W.Frag) : Sp := fun vs H Q _ => ∃ (p q : Addr) (x y u v : Int), vs = [.ref p, .ref q] ∧ SqT K H p [.int x, .int y] ∧ SqT K H q [.int u, .int v] ∧ ((0 ≤ x ∧ x ≤ 1000000) ∧ (0 ≤ y ∧ y ≤ 1000000) ∧ (0 ≤ u ∧ u ≤ 1000000) ∧ (0 ≤ v ∧ v ≤ 1000000)) ∧ Q (.bl (decide (x * v < u * y))) H
theorem ok_is_less (Z : Blt mg) (G : GFun K mg "is_less" s_is_less) : Df P w K mg base 1 "is_less" ["one", "other"] (sp_is_less K) := by
  refine Df.of G sc_is_less b_is_less (fun vs H Q E h => ?_) (fun f cdv A outer s H vs Q E hr h => ?_)
  · obtain ⟨p, q, x, y, u, v, rfl, _⟩ := h
    rfl
  · obtain ⟨p, q, x, y, u, v, rfl, hp, hq, ⟨hx, hy, hu, hv⟩, k⟩ := h
    refine ⟨_, PSs.nox (pss_one (ps_ret (pe_cmpR op_lt (pe_op op_mul (pe_ix ix_tup (pv 0) pe_int (fun _ _ => rfl)) (pe_ix ix_tup (pv 1) pe_int (fun _ _ => rfl))) (pe_op op_mul (pe_ix ix_tup (pv 1) pe_int (fun _ _ => rfl)) (pe_ix ix_tup (pv 0) pe_int (fun _ _ => rfl))) (nomark _)))), ?_⟩
    walk_at "g0"
    walk_at "go"
    exact k
theorem low_bd {a b : Int} (ha : 0 < a) (hb : 0 < b) : 0 < (low a b).1 ∧ (low a b).1 ≤ a ∧ 0 < (low a b).2 ∧ (low a b).2 ≤ b := by
  have hg : 0 < (Int.gcd a b : Int) := by
    have := (Int.gcd_pos_iff (a := a) (b := b)).mpr (Or.inl (by omega))
    omega
  have d1 : (Int.gcd a b : Int) ∣ a := Int.gcd_dvd_left ..
  have d2 : (Int.gcd a b : Int) ∣ b := Int.gcd_dvd_right ..
  refine ⟨Int.ediv_pos_of_pos_of_dvd ha (by omega) d1, Int.ediv_le_self _ (by omega), Int.ediv_pos_of_pos_of_dvd hb (by omega) d2, Int.ediv_le_self _ (by omega)⟩
theorem pace_bd {ds : List Int} {B : Int} (h : DaysOk ds) (hb : 1 ≤ B) : 0 < (paceN ds B).1 ∧ (paceN ds B).1 ≤ 240 ∧ 0 < (paceN ds B).2 ∧ (paceN ds B).2 ≤ B := by
  have h1 := h.mx
  have h2 := h.sum
  unfold paceN
  by_cases hc : ds.sum ≤ mx ds * B
  · rw [if_pos hc]
    exact ⟨by omega, by omega, by omega, by omega⟩
  · rw [if_neg hc]
    have := low_bd (a := ds.sum) (b := B) (by omega) (by omega)
    exact ⟨by omega, by omega, by omega, by omega⟩
def sp_pace_with (K : PySem.W.Frag) (C : Addr) : Sp := fun vs H Q _ => ∃ (r a b : Addr) (ds hs : List Int) (B : Int), vs = [.ref r, .int B] ∧ RingIn K C H r a b ds hs ∧ (1 ≤ B ∧ B ≤ 1000) ∧ RTup K H (PaceV ds B) Q
theorem ok_pace_with (Z : Blt mg) (R : RingC K C) (c_MAX_TRIED : ∃ t, mg "MAX_TRIED" = some (.int 1000 t)) (D_check_number : Df P w K mg base 2 "check_number" ["number", "low", "high"] sp_check_number)
    (D_pace_of : Df P w K mg base 2 "pace_of" ["spans", "total"] (sp_pace_of K)) (G : GFun K mg "pace_with" s_pace_with) : Df P w K mg base 3 "pace_with" ["ring", "books"] (sp_pace_with K C) := by
  refine Df.of G sc_pace_with b_pace_with (fun vs H Q E h => ?_) (fun f cdv A outer s H vs Q E hr h => ?_)
  · obtain ⟨r, a, b, ds, hs, B, rfl, _⟩ := h
    rfl
  · obtain ⟨r, a, b, ds, hs, B, rfl, RI, hB, q⟩ := h
    refine ⟨_, PSs.nox (pss_cons (ps_expr (pg D_check_number hr (pa_cons (pv 1) (pa_cons pe_int (pa_cons (pint c_MAX_TRIED) pa_nil)))))
      (pss_one (ps_ret (pg D_pace_of hr (pa_cons (pe_fld (pv 0) rfl) (pa_cons (pv 1) pa_nil)))))), ?_⟩
    walk_at "g0"
    walk_at "go"
    exact g_paceof RI.sp RI.ok.days hB q
def fewN (ds : List Int) : Int := (ds.sum + mx ds - 1) / mx ds
def sp_fewest_books (K : PySem.W.Frag) (C : Addr) : Sp := fun vs H Q _ => ∃ (r a b : Addr) (ds hs : List Int), vs = [.ref r] ∧ RingIn K C H r a b ds hs ∧ ∀ H', Ex H H' → Q (.int (fewN ds)) H'
theorem ok_fewest_books (Z : Blt mg) (R : RingC K C) (G : GFun K mg "fewest_books" s_fewest_books) : Df P w K mg base 1 "fewest_books" ["ring"] (sp_fewest_books K C) := by
  refine Df.of G sc_fewest_books b_fewest_books (fun vs H Q E h => ?_) (fun f cdv A outer s H vs Q E hr h => ?_)
  · obtain ⟨r, a, b, ds, hs, rfl, _⟩ := h
    rfl
  · obtain ⟨r, a, b, ds, hs, rfl, RI, q⟩ := h
    have hne := RI.ok.days.ne
    have hmx := RI.ok.days.mx
    have hS := RI.sp
    refine ⟨_, PSs.nox (pss_cons (ps_par (i := 1) (j := 2) rfl sc_fewest_books.nd rfl rfl (by decide) rfl rfl (pa_cons (pe_callB (cr_maxT rfl hr.units) (by rfl) Z.zmax (by decide +kernel) (pa_cons (pe_fld (pv 0) rfl) pa_nil)) (pa_cons (pe_callB (cr_sum rfl) (by rfl) Z.zsum (by decide +kernel) (pa_cons (pe_callTy c_list_of (by rfl) Z.zlist (by decide +kernel) (pa_cons (pe_fld (pv 0) rfl) pa_nil)) pa_nil)) pa_nil)) (by rfl))
      (pss_one (ps_ret (pe_op op_fdiv (pe_op op_sub (pe_op op_add (pv 2) (pv 1)) pe_int) (pv 1))))), ?_⟩
    walk_at "g0"
    walk_at "go"
    rename_i l H1 _ e1 hl
    exact q H1 e1
/-- a reader who helps by being a day quicker -/
def helps (ds : List Int) (B : Int) (i : Nat) : Bool :=
  decide (1 < ds.getD i 0) && decide ((paceN (ds.set i (ds.getD i 0 - 1)) B).1 * (paceN ds B).2 < (paceN ds B).1 * (paceN (ds.set i (ds.getD i 0 - 1)) B).2)
def helpN (ds : List Int) (B : Int) (k : Nat) : List Int := ((List.range k).filter (helps ds B)).map fun (i : Nat) => (i : Int)
theorem helpN_yes {ds : List Int} {B : Int} {k : Nat} (h : helps ds B k = true) : helpN ds B (k + 1) = helpN ds B k ++ [(k : Int)] := by
  unfold helpN
  rw [List.range_succ, List.filter_append, List.map_append, List.filter_cons, if_pos h]
  rfl
theorem helpN_no {ds : List Int} {B : Int} {k : Nat} (h : helps ds B k = false) : helpN ds B (k + 1) = helpN ds B k := by
  unfold helpN
  rw [List.range_succ, List.filter_append, List.map_append, List.filter_cons, if_neg (by rw [h]; decide)]
  exact List.append_nil _
theorem helpN_len (ds : List Int) (B : Int) (k : Nat) : (helpN ds B k).length ≤ k := by
  unfold helpN
  rw [List.length_map]
  have h := List.length_filter_le (helps ds B) (List.range k)
  rw [List.length_range] at h
  exact h
theorem DaysOk.set {ds : List Int} (O : DaysOk ds) (k : Nat) {n : Int} (h : 1 ≤ n ∧ n ≤ 30) : DaysOk (ds.set k n) :=
  ⟨by rw [List.length_set]; exact O.two, by rw [List.length_set]; exact O.eight, fun d hd => by
    rcases List.mem_or_eq_of_mem_set hd with h1 | h1
    · exact O.dd d h1
    · rw [h1]; exact h⟩
def sp_helpful (K : PySem.W.Frag) (C : Addr) : Sp := fun vs H Q _ => ∃ (r a b : Addr) (ds hs : List Int), vs = [.ref r] ∧ RingIn K C H r a b ds hs ∧ ∀ p H', H p = none → Ex H H' → H' p = some (.lst ((helpN ds hs.sum ds.length).map V.int)) → Q (.ref p) H'
theorem ok_helpful (Z : Blt mg) (R : RingC K C) (D_is_less : Df P w K mg base 1 "is_less" ["one", "other"] (sp_is_less K)) (D_pace_of : Df P w K mg base 2 "pace_of" ["spans", "total"] (sp_pace_of K))
    (Q_Ring_books : Pf P w K mg base C 1 "books" ["self"] (sp_Ring_books K C)) (Q_Ring_pace : Pf P w K mg base C 3 "pace" ["self"] (sp_Ring_pace K C)) (G : GFun K mg "helpful_readers" s_helpful_readers) :
    Df P w K mg base 5 "helpful_readers" ["ring"] (sp_helpful K C) := by
  refine Df.of G sc_helpful_readers b_helpful_readers (fun vs H Q E h => ?_) (fun f cdv A outer s H vs Q E hr h => ?_)
  · obtain ⟨r, a, b, ds, hs, rfl, _⟩ := h
    rfl
  · obtain ⟨r, a, b, ds, hs, rfl, RI, q⟩ := h
    have cl_Ring := R.cl
    have h8 := RI.ok.eight
    have o1 := RI.ok.one
    have o2 := RI.ok.twelve
    refine ⟨_, PSs.nox (pss_cons (ps_set (i := 1) sc_helpful_readers.nd rfl (by first | exact Or.inl rfl | exact Or.inr rfl) (pe_lst pa_nil))
      (pss_cons (ps_for PassesOwn.never rfl (pi_enumT (by rfl) Z.zenumerate (pa_cons (pe_fld (pv 0) rfl) pa_nil)) (pg_tup (by rfl) (pgs_cons (pg_name (i := 2) sc_helpful_readers.nd rfl (by first | exact Or.inl rfl | exact Or.inr rfl)) (pgs_cons (pg_name (i := 3) sc_helpful_readers.nd rfl (by first | exact Or.inl rfl | exact Or.inr rfl)) pgs_nil))) (pss_cons (ps_set (i := 4) sc_helpful_readers.nd rfl (by first | exact Or.inl rfl | exact Or.inr rfl) (pe_op op_catA (pe_op op_catA (pe_slice sl_tupA (pe_fld (pv 0) rfl) po_none (po_some (pv 2))) (pe_tup (pa_cons (pe_op op_sub (pv 3) pe_int) pa_nil))) (pe_slice sl_tupA (pe_fld (pv 0) rfl) (po_some (pe_op op_add (pv 2) pe_int)) po_none)))
          (pss_one (ps_if (PW.pt (pw_and (pt_cmpR op_gt (pv 3) pe_int (nomark _)) (pw_and1 (pt_val (pg D_is_less hr (pa_cons (pg D_pace_of hr (pa_cons (pv 4) (pa_cons (pp (pv 0) cl_Ring Q_Ring_books hr) pa_nil))) (pa_cons (pp (pv 0) cl_Ring Q_Ring_pace hr) pa_nil))))))) (pss_one (ps_expr (pe_bm PySem.F.plainAttrs_list PySem.F.slot_list_append PySem.F.type_list_append mt_append (pv 1) (pa_cons (pv 2) pa_nil)))) pss_nil))))
      (pss_one (ps_ret (pv 1))))), ?_⟩
    walk_at "g0"
    walk_at "go"
    rename_i l H1 nl e1 hl
    walk_at "go"
    refine g_kForE (ex_t e1 RI.sp) (fun i σ H' => ∃ v1 v2 v3, σ = [some (.ref r), some (.ref l), v1, v2, v3] ∧ Ex H H' ∧ H' l = some (.lst ((helpN ds hs.sum i).map V.int))) ⟨none, none, none, rfl, e1, hl⟩ (fun i σ H' _ ⟨_, _, _, _, e, _⟩ => ex_t e RI.sp) ?_ ?_
    · rintro i x σ H' T H2 hx ⟨v1, v2, v3, rfl, e2, hl2⟩ e3 nT hT
      obtain ⟨n, rfl, hn, hm, hi⟩ := at_int hx
      have hb := RI.ok.dd n hm
      have RI2 := RI.ex (e2.trans e3)
      have hl3 := e3 _ _ hl2
      have hS2 := RI2.sp
      have hgd : ds.getD i 0 = n := by simp [List.getD, hn]
      walk_at "go"
      rename_i p1 H3 e4 s1 p2 H4 _ e5 hp2
      have hS4 := ex_t (e4.trans e5) RI2.sp
      refine g_catA (xs := (ds.take i).map V.int) (ys := [V.int (n - 1)]) (by rw [← cut_lo ds i (by omega)]; exact ex_t e5 s1) (SqT.of hp2) (by rw [List.length_map, List.length_take]; exact sz1000 (by simp; omega)) fun p3 H5 e6 s3 => ?_
      have RI5 := RI2.ex ((e4.trans e5).trans e6)
      walk_at "go"
      rename_i p4 H6 e7 s4
      have s4' : SqT K H6 p4 ((ds.drop (i + 1)).map V.int) := by
        rw [← cut_hi ds (i + 1) (by omega)]
        exact s4
      refine g_catA (ex_t e7 s3) s4' (by simp only [List.length_append, List.length_map, List.length_take, List.length_drop]; exact sz1000 (by simp; omega)) fun p5 H7 e8 s5 => ?_
      have s5' : SqT K H7 p5 ((ds.set i (n - 1)).map V.int) := by
        rw [← set_split ds i (n - 1) hi, List.map_append, List.map_append]
        exact s5
      have e27 := (((e4.trans e5).trans e6).trans e7).trans e8
      have RI7 := RI2.ex e27
      have hl7 := e27 _ _ hl3
      walk_at "go"
      refine g_kAnd (fun h => ?_) (fun h => ?_)
      · have h := of_decide_eq_true h
        have hd' : DaysOk (ds.set i (n - 1)) := RI.ok.days.set i ⟨by omega, by omega⟩
        walk_at "go"
        refine g_paceof s5' hd' ⟨by omega, by omega⟩ fun p6 H8 e9 s6 => ?_
        have RI8 := RI7.ex e9
        walk_at "go"
        rename_i p7 H9 e10 s7
        have b1 := pace_bd hd' (B := hs.sum) (by omega)
        have b2 := pace_bd RI.ok.days (B := hs.sum) (by omega)
        refine ⟨_, _, _, _, _, _, rfl, ex_t e10 s6, s7, ⟨⟨by omega, by omega⟩, ⟨by omega, by omega⟩, ⟨by omega, by omega⟩, ⟨by omega, by omega⟩⟩, ?_⟩
        have hl9 := e10 _ _ (e9 _ _ hl7)
        have hex : Ex H H9 := (((e2.trans e3).trans e27).trans e9).trans e10
        refine g_kTest ?_
        refine g_kIfS (fun hc => ?_) (fun hc => ?_)
        · have hh : helps ds hs.sum i = true := by
            unfold helps
            rw [hgd, decide_eq_true h, Bool.true_and]
            exact hc
          walk_at "go"
          refine g_kBM_list (SqL.of hl9) ?_
          walk_at "go"
          refine g_append hl9 (by rw [List.length_map]; exact lt1000 (by have := helpN_len ds hs.sum i; omega)) fun H10 e11 hl10 => ?_
          refine ⟨_, _, _, rfl, Exb.ex nl hex e11, ?_⟩
          rw [hl10, helpN_yes hh, List.map_append]
          rfl
        · have hh : helps ds hs.sum i = false := by
            unfold helps
            rw [hgd, decide_eq_true h, Bool.true_and]
            exact hc
          walk_at "go"
          refine ⟨_, _, _, rfl, hex, ?_⟩
          rw [hl9, helpN_no hh]
      · have h := of_decide_eq_false h
        have hh : helps ds hs.sum i = false := by
          unfold helps
          rw [hgd, decide_eq_false h, Bool.false_and]
        walk_at "go"
        refine ⟨_, _, _, rfl, (e2.trans e3).trans e27, ?_⟩
        rw [hl7, helpN_no hh]
    · rintro σ H' ⟨v1, v2, v3, rfl, e2, hl2⟩
      walk_at "go"
      rw [List.length_map] at hl2
      exact q l H' nl e2 hl2
/-- slowest_days: a number of days with the same pace, and with a day more another -/
def SameP (ds : List Int) (B : Int) (k : Nat) (n : Int) : Prop := paceN (ds.set k n) B = paceN ds B
theorem paceV_eqv {ds es : List Int} {B B2 : Int} : PyData.eqv (.tuple [.int (paceN ds B).1, .int (paceN ds B).2]) (.tuple [.int (paceN es B2).1, .int (paceN es B2).2]) = decide (paceN ds B = paceN es B2) := by
  have e : PyData.eqv (.tuple [.int (paceN ds B).1, .int (paceN ds B).2]) (.tuple [.int (paceN es B2).1, .int (paceN es B2).2]) = ((paceN ds B).1 == (paceN es B2).1 && ((paceN ds B).2 == (paceN es B2).2 && true)) := by
    simp only [PyData.eqv, PyData.eqvAll]
  rw [e, Bool.eq_iff_iff]
  simp [Prod.ext_iff]
theorem dp_two {H : Hp} {p : Addr} {x y : Int} (h : SqT K H p [.int x, .int y]) : Dp K H (.ref p) (.tuple [.int x, .int y]) := .tup h (.cons (.int _) (.cons (.int _) .nil))
theorem sh_two {x y : Int} : SeqAt.shaped (.tuple [.int x, .int y]) = true := rfl
/-- two paces compared -/
theorem g_eqP {H : Hp} {Q : VK} {p q : Addr} {ds es : List Int} {B B2 : Int} (h1 : SqT K H p (PaceV ds B)) (h2 : SqT K H q (PaceV es B2)) (k : Q (.bl (decide (paceN ds B = paceN es B2))) H) : rEqD K (.ref p) (.ref q) H Q :=
  g_eqD (dp_two h1) (dp_two h2) sh_two sh_two (by rw [paceV_eqv]; exact k)
theorem g_neP {H : Hp} {Q : VK} {p q : Addr} {ds es : List Int} {B B2 : Int} (h1 : SqT K H p (PaceV ds B)) (h2 : SqT K H q (PaceV es B2)) (k : Q (.bl (!decide (paceN ds B = paceN es B2))) H) : rNeD K (.ref p) (.ref q) H Q :=
  g_neD (dp_two h1) (dp_two h2) sh_two sh_two (by rw [paceV_eqv]; exact k)
def sp_slowest (K : PySem.W.Frag) (C : Addr) : Sp := fun vs H Q _ => ∃ (r a b : Addr) (ds hs : List Int) (k : Nat), vs = [.ref r, .int (k : Int)] ∧ RingIn K C H r a b ds hs ∧ k < ds.length ∧
  ∀ n H', Ex H H' → ds.getD k 0 ≤ n → n ≤ 30 → SameP ds hs.sum k n → (n < 30 → ¬ SameP ds hs.sum k (n + 1)) → Q (.int n) H'
theorem ok_slowest (Z : Blt mg) (R : RingC K C) (c_MAX_DAYS : ∃ t, mg "MAX_DAYS" = some (.int 30 t)) (M_Ring_need_reader : Mf P w K mg base C 2 "need_reader" ["self", "reader"] (sp_Ring_need K C))
    (M_Ring_with_days : Mf P w K mg base C 5 "with_days" ["self", "reader", "days"] (sp_Ring_with K C)) (Q_Ring_pace : Pf P w K mg base C 3 "pace" ["self"] (sp_Ring_pace K C)) (G : GFun K mg "slowest_days" s_slowest_days) :
    Df P w K mg base 6 "slowest_days" ["ring", "reader"] (sp_slowest K C) := by
  refine Df.of G sc_slowest_days b_slowest_days (fun vs H Q E h => ?_) (fun f cdv A outer s H vs Q E hr h => ?_)
  · obtain ⟨r, a, b, ds, hs, k, rfl, _⟩ := h
    rfl
  · obtain ⟨r, a, b, ds, hs, k, rfl, RI, hk, q⟩ := h
    have cl_Ring := R.cl
    have hS := RI.sp
    have hx : (ds.map V.int)[k]? = some (.int ds[k]) := by rw [List.getElem?_map, List.getElem?_eq_getElem hk]; rfl
    have hb := RI.ok.dd ds[k] (List.getElem_mem hk)
    have hgd : ds.getD k 0 = ds[k] := by simp [List.getD, List.getElem?_eq_getElem hk]
    refine ⟨_, PSs.nox (pss_cons (ps_expr (pm (pv 0) cl_Ring M_Ring_need_reader hr (pa_cons (pv 1) pa_nil)))
      (pss_cons (ps_par (i := 2) (j := 3) rfl sc_slowest_days.nd rfl rfl (by decide) rfl rfl (pa_cons (pe_ix ix_tup (pe_fld (pv 0) rfl) (pv 1) (fun _ _ => rfl)) (pa_cons (pint c_MAX_DAYS) pa_nil)) (by rfl))
      (pss_cons (ps_while PassesOwn.never (pt_cmpR op_lt (pv 2) (pv 3) (nomark _)) (pss_cons (ps_set (i := 4) sc_slowest_days.nd rfl (by first | exact Or.inl rfl | exact Or.inr rfl) (pe_op op_fdiv (pe_op op_add (pe_op op_add (pv 2) (pv 3)) pe_int) pe_int))
          (pss_one (ps_if (pt_cmpR (op_eqD hr.units) (pp (pm (pv 0) cl_Ring M_Ring_with_days hr (pa_cons (pv 1) (pa_cons (pv 4) pa_nil))) cl_Ring Q_Ring_pace hr) (pp (pv 0) cl_Ring Q_Ring_pace hr) (nomark _)) (pss_one (ps_set (i := 2) sc_slowest_days.nd rfl (by first | exact Or.inl rfl | exact Or.inr rfl) (pv 4))) (pss_one (ps_set (i := 3) sc_slowest_days.nd rfl (by first | exact Or.inl rfl | exact Or.inr rfl) (pe_op op_sub (pv 4) pe_int)))))))
      (pss_one (ps_ret (pv 2)))))), ?_⟩
    walk_at "g0"
    walk_at "go"
    refine g_while (fun m σ H' => ∃ (lo hi : Int) (v : Option V), σ = [some (.ref r), some (.int (k : Int)), some (.int lo), some (.int hi), v] ∧ Ex H H' ∧ (ds[k] ≤ lo ∧ lo ≤ hi ∧ hi ≤ 30) ∧ SameP ds hs.sum k lo ∧ (hi < 30 → ¬ SameP ds hs.sum k (hi + 1)) ∧ m = (hi - lo).toNat) (30 - ds[k]).toNat
      ⟨ds[k], 30, none, rfl, Ex.refl _, ⟨by omega, by omega, by omega⟩, by unfold SameP; rw [List.set_getElem_self], fun h => absurd h (by omega), rfl⟩ ?_
    rintro m σ H' ⟨lo, hi, v, rfl, e1, ⟨l1, l2, l3⟩, hsm, hns, rfl⟩
    have RI2 := RI.ex e1
    walk_at "go"
    refine g_kWh (fun h => ?_) (fun h => ?_)
    · have h := of_decide_eq_true h
      walk_at "go"
      refine ⟨r, a, b, ds, hs, k, _, rfl, RI2, hk, ⟨by omega, by omega⟩, fun r' a' H2 _ e2 R2 => ?_⟩
      have RI3 := RI2.ex e2
      walk_at "go"
      rename_i p1 H3 e3 s1 p2 H4 e4 s2
      have e5 := ((e1.trans e2).trans e3).trans e4
      refine g_eqP (ex_t e4 s1) s2 ?_
      refine g_kTest ?_
      refine g_kIfS (fun hc => ?_) (fun hc => ?_)
      · have hc := of_decide_eq_true hc
        walk_at "go"
        exact ⟨_, (by show (hi - (lo + hi + 1) / 2).toNat < _; omega), (lo + hi + 1) / 2, hi, _, rfl, e5, ⟨by omega, by omega, l3⟩, hc, hns, rfl⟩
      · have hc := of_decide_eq_false hc
        walk_at "go"
        exact ⟨_, (by show ((lo + hi + 1) / 2 - 1 - lo).toNat < _; omega), lo, (lo + hi + 1) / 2 - 1, _, rfl, e5, ⟨l1, by omega, by omega⟩, hsm, fun _ => by rw [show (lo + hi + 1) / 2 - 1 + 1 = (lo + hi + 1) / 2 by omega]; exact hc, rfl⟩
    · have h := of_decide_eq_false h
      have e : hi = lo := by omega
      subst e
      walk_at "go"
      exact q _ H' e1 (by omega) (by omega) hsm hns
/-- fewest_days_less -/
def lessN (ds : List Int) (B x y : Int) : Option Int := if x / y = 0 ∨ x * B < (ds.length : Int) * y then none else some (max (ds.map fun d => max 0 (d - x / y)).sum (ds.sum - x * B / y))
def optV : Option Int → V
  | none => .non
  | some n => .int n
def sp_fewest_less (K : PySem.W.Frag) (C : Addr) : Sp := fun vs H Q _ => ∃ (r a b : Addr) (ds hs : List Int) (x y : Int), vs = [.ref r, .int x, .int y] ∧ RingIn K C H r a b ds hs ∧ ((1 ≤ x ∧ x ≤ 1000) ∧ (1 ≤ y ∧ y ≤ 1000)) ∧ ∀ H', Ex H H' → Q (optV (lessN ds hs.sum x y)) H'
theorem ok_fewest_less (Z : Blt mg) (R : RingC K C) (c_MAX_TRIED : ∃ t, mg "MAX_TRIED" = some (.int 1000 t)) (D_check_number : Df P w K mg base 2 "check_number" ["number", "low", "high"] sp_check_number)
    (Q_Ring_books : Pf P w K mg base C 1 "books" ["self"] (sp_Ring_books K C)) (M_Ring___len__ : Mf P w K mg base C 1 "__len__" ["self"] (sp_Ring_len K C)) (G : GFun K mg "fewest_days_less" s_fewest_days_less) :
    Df P w K mg base 3 "fewest_days_less" ["ring", "days", "readings"] (sp_fewest_less K C) := by
  refine Df.of G sc_fewest_days_less b_fewest_days_less (fun vs H Q E h => ?_) (fun f cdv A outer s H vs Q E hr h => ?_)
  · obtain ⟨r, a, b, ds, hs, x, y, rfl, _⟩ := h
    rfl
  · obtain ⟨r, a, b, ds, hs, x, y, rfl, RI, ⟨⟨x1, x2⟩, ⟨y1, y2⟩⟩, q⟩ := h
    have cl_Ring := R.cl
    have h8 := RI.ok.eight
    have o1 := RI.ok.one
    have o2 := RI.ok.twelve
    have hS := RI.sp
    refine ⟨_, PSs.nox (pss_cons (ps_expr (pg D_check_number hr (pa_cons (pv 1) (pa_cons pe_int (pa_cons (pint c_MAX_TRIED) pa_nil)))))
      (pss_cons (ps_expr (pg D_check_number hr (pa_cons (pv 2) (pa_cons pe_int (pa_cons (pint c_MAX_TRIED) pa_nil)))))
      (pss_cons (ps_set (i := 3) sc_fewest_days_less.nd rfl (by first | exact Or.inl rfl | exact Or.inr rfl) (pe_op op_fdiv (pv 1) (pv 2)))
      (pss_cons (ps_if (PW.pt (pw_or (pt_cmpR op_eq (pv 3) pe_int (nomark _)) (pw_or1 (pt_cmpR op_gt (pe_op op_mul (pe_callB (call_lenO M_Ring___len__ hr) (by rfl) Z.zlen PySem.boot_len (pa_cons (pv 0) pa_nil)) (pv 2)) (pe_op op_mul (pv 1) (pp (pv 0) cl_Ring Q_Ring_books hr)) (nomark _))))) (pss_one (ps_ret pe_non)) pss_nil)
      (pss_cons (ps_set (i := 4) sc_fewest_days_less.nd rfl (by first | exact Or.inl rfl | exact Or.inr rfl) (pe_callB (cr_sum rfl) (by rfl) Z.zsum (by decide +kernel) (pa_cons (pe_lc (own := [("span", 5)]) rfl sc_fewest_days_less.nd (pi_tup (pe_fld (pv 0) rfl)) (blkOk_by (N := N_fewest_days_less) (sc := defScope s_fewest_days_less) (by decide +kernel)) (fun _ _ _ _ _ => (pg_name (i := 5) sc_fewest_days_less.nd rfl (by first | exact Or.inl rfl | exact Or.inr rfl))) (fun _ _ _ _ _ => pts_nil) (fun _ _ _ _ _ => (pe_callB (c_max2 rfl) (by rfl) Z.zmax (by decide +kernel) (pa_cons pe_int (pa_cons (pe_op op_sub (pv 5) (pv 3)) pa_nil))))) pa_nil)))
      (pss_one (ps_ret (pe_callB (c_max2 rfl) (by rfl) Z.zmax (by decide +kernel) (pa_cons (pv 4) (pa_cons (pe_op op_sub (pe_callB (cr_sum rfl) (by rfl) Z.zsum (by decide +kernel) (pa_cons (pe_callTy c_list_of (by rfl) Z.zlist (by decide +kernel) (pa_cons (pe_fld (pv 0) rfl) pa_nil)) pa_nil)) (pe_op op_fdiv (pe_op op_mul (pv 1) (pp (pv 0) cl_Ring Q_Ring_books hr)) (pv 2))) pa_nil)))))))))), ?_⟩
    walk_at "g0"
    walk_at "go"
    have fin : ∀ {H'}, Ex H H' → (x / y = 0 ∨ x * hs.sum < (ds.length : Int) * y) → Q .non H' := fun {H'} e hc => by
      have := q H' e
      unfold lessN at this
      rw [if_pos hc] at this
      exact this
    refine g_kOr (fun h => ?_) (fun h => ?_)
    · have h := of_decide_eq_true h
      walk_at "go"
      exact fin (Ex.refl _) (.inl h)
    · have h := of_decide_eq_false h
      walk_at "go"
      refine g_kIfS (fun h2 => ?_) (fun h2 => ?_)
      · have h2 := of_decide_eq_true h2
        walk_at "go"
        exact fin (Ex.refl _) (.inr h2)
      · have h2 := of_decide_eq_false h2
        walk_at "go"
        refine g_kLcU hS (fun D i H' => Ex H H' ∧ H' D = some (.lst (((ds.take i).map fun d => max 0 (d - x / y)).map V.int))) (fun D H1 _ e1 hD => ⟨e1, hD⟩) (fun D i H2 _ _ p => ex_t p.1 hS) ?_ ?_
        · rintro D i v H2 nD hv ⟨e2, hD⟩
          obtain ⟨n, rfl, hn, hm, hi⟩ := at_int hv
          walk_at "go"
          refine g_kLcE hD (by rw [List.length_map, List.length_map, List.length_take]; exact lt1000 (by omega)) fun H3 e3 hD3 => ⟨Exb.ex nD e2 e3, ?_⟩
          rw [hD3, List.take_add_one, hn]
          simp
        · rintro D H2 nD ⟨e2, hD⟩
          rw [List.length_map, List.take_length] at hD
          have hS2 := ex_t e2 hS
          have RI2 := RI.ex e2
          walk_at "go"
          rename_i l H3 _ e3 hl
          have := q H3 (e2.trans e3)
          unfold lessN at this
          rw [if_neg (by intro hc; rcases hc with hc | hc <;> omega)] at this
          exact this
end
end G48

namespace G48
open PySem PySem.Spec PyProof.Rows L2 Evl
abbrev s__law_taken : Stmt := top 32
abbrev N__law_taken : List Str := ["_law_row", "_law_many", "_law_found", "_law_cell"]
theorem sc__law_taken : FnScope N__law_taken ["_law_row", "_law_many"] (defScope s__law_taken) := ⟨rfl, rfl, rfl, by decide +kernel, rfl, by decide +kernel, by decide +kernel⟩
theorem b__law_taken : BindL "_law_taken" "_law_taken" s__law_taken ["_law_row", "_law_many"] := fun _ _ _ _ _ _ us hl => match us, hl with | [_, _], _ => rfl
end G48
/-! the draws of the laws k50 and on: _law_taken, _law_parts -/
namespace G48
open PySem PySem.Spec PyProof.Rows L2 Evl
/-! the steps -/
local macro_rules | `(tactic| walk_at "as") => `(tactic| with_reducible assumption)
local macro_rules | `(tactic| walk_at "hp") => `(tactic| first
  | with_reducible assumption
  | ((with_reducible apply SqT.of); walk_at "as")
  | ((with_reducible apply SqL.of); walk_at "as")
  | ((with_reducible apply ex_at); (focus walk_at "as"); walk_at "hp")
  | ((with_reducible apply ex_t); (focus walk_at "as"); walk_at "hp")
  | ((with_reducible apply ex_l); (focus walk_at "as"); walk_at "hp")
  | ((with_reducible apply exb_ins); (focus walk_at "as"); (focus walk_at "hp"); walk_at "hp")
  | ((with_reducible apply exb_t); (focus walk_at "as"); (focus walk_at "hp"); walk_at "hp")
  | ((with_reducible apply exb_at); (focus walk_at "as"); (focus walk_at "ne"); walk_at "hp")
  | ((with_reducible apply exb_l); (focus walk_at "as"); (focus walk_at "ne"); walk_at "hp"))
local macro_rules | `(tactic| walk_at "ne") => `(tactic| first
  | with_reducible assumption
  | exact Ne.symm (by with_reducible assumption)
  | exact ne_of_none (by with_reducible assumption) (by with_reducible assumption)
  | exact Ne.symm (ne_of_none (by with_reducible assumption) (by with_reducible assumption)))
local macro_rules | `(tactic| walk_at "tr") => `(tactic| first
  | rfl
  | with_reducible assumption
  | exact decide_eq_true (by first | with_reducible assumption | omega)
  | exact decide_eq_false (by first | with_reducible assumption | omega)
  | (rw [Bool.not_eq_true']; exact decide_eq_false (by first | with_reducible assumption | omega))
  | (rw [Bool.not_eq_false']; exact decide_eq_true (by first | with_reducible assumption | omega)))
local macro_rules | `(tactic| walk_at "nn") => `(tactic| first | with_reducible assumption | (exact List.cons_ne_nil _ _))
local macro_rules | `(tactic| walk_at "sz") => `(tactic| first | (exact sz1000 (Nat.le_of_ble_eq_true rfl)) | (refine sz1000 ?_; simp only [List.length_map, List.length_cons, List.length_nil, List.length_append]; omega) | with_reducible assumption)
local macro_rules | `(tactic| walk_at "sl") => `(tactic| first | with_reducible assumption | (refine lt1000 ?_; simp only [List.length_map, List.length_cons, List.length_nil, List.length_append]; omega) | (refine lt1000 ?_; omega))
local macro_rules | `(tactic| walk_at "ix") => `(tactic| first | rfl | with_reducible assumption)
local macro_rules | `(tactic| walk_at "rg") => `(tactic| exact RgOk.of_le (by omega) (by omega) (by omega) (by omega))
local macro_rules | `(tactic| walk_at "sp") => `(tactic| fail "sp")
local macro_rules | `(tactic| walk_at "cl") => `(tactic| with_reducible assumption)
local macro_rules | `(tactic| walk_at "lk") => `(tactic| with_reducible assumption)
local macro_rules | `(tactic| walk_at "it") => `(tactic| first | rfl | with_reducible assumption | exact atI_nat (by with_reducible assumption))
local macro_rules | `(tactic| walk_at "g1") => `(tactic| first
  | (with_reducible apply g_var); (focus rfl)
  | with_reducible apply g_c
  | with_reducible apply g_seq
  | with_reducible apply g_asg
  | with_reducible apply gg_name
  | with_reducible apply g_op
  | with_reducible apply g_cons
  | with_reducible apply g_nil
  | with_reducible apply g_cb
  | with_reducible apply g_fld
  | ((with_reducible apply g_kFld); (focus walk_at "hp"); (focus walk_at "cl"); (focus walk_at "cl"); (focus walk_at "lk"))
  | with_reducible apply g_call
  | walk_at "sp"
  | with_reducible apply g_ret
  | with_reducible apply g_drop
  | with_reducible apply g_test
  | with_reducible apply g_B
  | with_reducible apply g_kTest
  | with_reducible apply g_ifS
  | with_reducible apply g_kIfST
  | with_reducible apply g_kIfSF
  | with_reducible apply g_add
  | with_reducible apply g_sub
  | with_reducible apply g_lt
  | with_reducible apply g_le
  | with_reducible apply g_gt
  | with_reducible apply g_ge
  | with_reducible apply g_eqI
  | with_reducible apply g_neI
  | ((with_reducible apply g_mod); (focus first | decide | omega))
  | ((with_reducible apply g_mul); (focus first | (left; constructor <;> omega) | (right; constructor <;> omega)))
  | ((with_reducible apply g_fdiv); (focus (constructor <;> omega)))
  | ((with_reducible apply g_ixT); (focus walk_at "hp"); (focus walk_at "it"))
  | ((with_reducible apply g_ixL); (focus walk_at "hp"); (focus walk_at "it"))
  | with_reducible apply g_and
  | with_reducible apply g_or
  | with_reducible apply g_not
  | with_reducible apply g_kNotT
  | with_reducible apply g_kNotF
  | with_reducible apply g_if
  | with_reducible apply g_kAndT
  | with_reducible apply g_kAndF
  | with_reducible apply g_kOrT
  | with_reducible apply g_kOrF
  | with_reducible apply g_kIfT
  | with_reducible apply g_kIfF
  | with_reducible apply g_next
  | with_reducible apply g_andV
  | with_reducible apply g_orV
  | with_reducible apply g_notV
  | with_reducible apply g_kNotV
  | with_reducible apply g_kAndVT
  | with_reducible apply g_kAndVF
  | with_reducible apply g_chain
  | with_reducible apply g_kChainT
  | with_reducible apply g_kChainF
  | with_reducible apply g_tup
  | with_reducible apply g_lst
  | ((with_reducible apply g_kT); (focus walk_at "sz"); intro _ _ _ _ _)
  | ((with_reducible apply g_kL); (focus walk_at "sz"); intro _ _ _ _ _)
  | with_reducible apply g_un
  | with_reducible apply g_neg
  | with_reducible apply g_meth
  | ((with_reducible apply g_kMeth); (focus walk_at "hp"); (focus walk_at "lk"))
  | with_reducible apply g_prop
  | ((with_reducible apply g_kProp); (focus walk_at "hp"))
  | with_reducible apply g_make
  | with_reducible apply g_par
  | with_reducible apply g_kPar
  | ((with_reducible apply g_lenLM); (focus walk_at "hp"))
  | ((with_reducible apply g_lenTM); (focus walk_at "hp"))
  | ((with_reducible apply g_lenL); (focus walk_at "hp"))
  | ((with_reducible apply g_lenT); (focus walk_at "hp"))
  | with_reducible apply g_int1
  | with_reducible apply g_max2
  | with_reducible apply g_min2
  | ((with_reducible apply g_listL); (focus walk_at "hp"); intro _ _ _ _ _)
  | ((with_reducible apply g_listT); (focus walk_at "hp"); intro _ _ _ _ _)
  | ((with_reducible apply g_tupL); (focus walk_at "hp"); intro _ _ _ _ _)
  | ((with_reducible apply g_sum); (focus walk_at "hp"))
  | with_reducible apply g_sfld
  | with_reducible apply g_sl
  | with_reducible apply g_nopart
  | with_reducible apply g_part
  | with_reducible apply g_kPart
  | with_reducible apply g_lstRg
  | with_reducible apply g_rg1
  | with_reducible apply g_kRg1
  | with_reducible apply g_bm
  | with_reducible apply gg_sub
  | ((with_reducible apply gg_tup); (focus walk_at "hp"); (focus rfl))
  | with_reducible apply gg_cons
  | with_reducible apply gg_nil
  | with_reducible apply g_forL
  | with_reducible apply g_forT
  | with_reducible apply g_forR1
  | with_reducible apply g_forR2
  | with_reducible apply g_forE
  | with_reducible apply g_forEL
  | ((with_reducible apply g_maxT); (focus walk_at "hp"); (focus walk_at "nn"))
  | ((with_reducible apply g_maxL); (focus walk_at "hp"); (focus walk_at "nn"))
  | ((with_reducible apply g_catA); (focus walk_at "hp"); (focus walk_at "hp"); (focus walk_at "sz"); intro _ _ _ _)
  | ((with_reducible apply g_slA); (focus walk_at "hp"); intro _ _ _ _)
  | ((with_reducible apply g_tupD); (focus walk_at "hp"); intro _ _ _ _ _)
  | ((with_reducible apply g_setL); (focus walk_at "hp"); (focus walk_at "ix"); intro _ _ _)
  | ((with_reducible apply g_append); (focus walk_at "hp"); (focus walk_at "sl"); intro _ _ _)
  | ((with_reducible apply g_aug); (focus rfl))
  | with_reducible apply g_ipI
  | with_reducible apply g_retN
  | with_reducible apply g_lcR1
  | with_reducible apply g_lcR2
  | with_reducible apply g_lcL
  | with_reducible apply g_lcU
  | with_reducible apply g_lcN
  | ((with_reducible apply g_kLcG); (focus rfl))
  | with_reducible apply g_yes
  | with_reducible apply g_kLcTT
  | with_reducible apply g_kLcTF
  | ((with_reducible apply g_kLcE); (focus walk_at "hp"); (focus walk_at "sl"); intro _ _ _)
  | ((with_reducible apply g_pow); (focus (constructor <;> (try constructor) <;> decide)))
  | ((with_reducible apply g_kLRg); (focus walk_at "rg"); intro _ _ _ _ _)
  | ((with_reducible apply g_cat); (focus walk_at "hp"); (focus walk_at "hp"); (focus walk_at "sz"); intro _ _ _ _ _)
  | ((with_reducible apply g_slL); (focus walk_at "hp"); intro _ _ _ _ _)
  | with_reducible apply g_bmT
  | with_reducible apply g_break
  | with_reducible apply g_cont)
local macro_rules | `(tactic| walk_at "g0") => `(tactic| try dsimp only [L2.cxOf, L2.Cx.nox, L2.Cx.wish])
local macro_rules | `(tactic| walk_at "yn") => `(tactic| first
  | ((with_reducible apply y_kIfS); (focus walk_at "tr"))
  | ((with_reducible apply n_kIfS); (focus walk_at "tr"))
  | ((with_reducible apply y_kOr); (focus walk_at "tr"))
  | ((with_reducible apply n_kOr); (focus walk_at "tr"))
  | ((with_reducible apply y_kAnd); (focus walk_at "tr"))
  | ((with_reducible apply n_kAnd); (focus walk_at "tr"))
  | ((with_reducible apply y_kNot); (focus walk_at "tr"))
  | ((with_reducible apply n_kNot); (focus walk_at "tr"))
  | ((with_reducible apply y_kIf); (focus walk_at "tr"))
  | ((with_reducible apply n_kIf); (focus walk_at "tr"))
  | ((with_reducible apply y_kAndV); (focus walk_at "tr"))
  | ((with_reducible apply n_kAndV); (focus walk_at "tr"))
  | ((with_reducible apply y_kOrV); (focus walk_at "tr"))
  | ((with_reducible apply n_kOrV); (focus walk_at "tr"))
  | ((with_reducible apply y_kChain); (focus walk_at "tr"))
  | ((with_reducible apply n_kChain); (focus walk_at "tr"))
  | ((with_reducible apply y_kLcT); (focus walk_at "tr"))
  | ((with_reducible apply n_kLcT); (focus walk_at "tr"))
  | ((with_reducible apply y_kWh); (focus walk_at "tr"))
  | ((with_reducible apply n_kWh); (focus walk_at "tr")))
local macro_rules | `(tactic| walk_at "go") => `(tactic| repeat (first | walk_at "g1" | walk_at "yn"))
local macro_rules | `(tactic| walk_at "hp") => `(tactic| first
  | ((with_reducible apply RingIn.ex); (focus walk_at "as"); walk_at "hp")
  | ((with_reducible apply RingAt.ex); (focus walk_at "as"); walk_at "hp")
  | ((with_reducible apply RingIn.exb); (focus walk_at "as"); (focus walk_at "hp"); walk_at "hp")
  | ((with_reducible apply RingAt.exb); (focus walk_at "as"); (focus walk_at "hp"); walk_at "hp")
  | ((with_reducible apply TupK.ex); (focus walk_at "as"); walk_at "hp")
  | ((with_reducible apply TupK.exb); (focus walk_at "as"); (focus walk_at "hp"); walk_at "hp"))
local macro_rules | `(tactic| walk_at "lk") => `(tactic| first | with_reducible exact rf_spans | with_reducible exact rf_heaps | with_reducible exact rf_total | with_reducible exact rf_nr | with_reducible exact rf_wd)
local macro_rules | `(tactic| walk_at "sp") => `(tactic| first
  | ((with_reducible apply g_isiTup); (focus walk_at "hp"))
  | ((with_reducible apply g_isiLst); (focus walk_at "hp"))
  | ((with_reducible apply g_isint); (focus omega); (focus omega))
  | ((with_reducible apply g_checkn); (focus omega); (focus omega))
  | ((with_reducible apply g_rbooks); (focus walk_at "hp"))
  | ((with_reducible apply g_rpace); (focus walk_at "hp"); intro _ _ _ _)
  | ((with_reducible apply g_rlen); (focus walk_at "hp"))
  | ((with_reducible apply g_rneed); (focus walk_at "hp"); (focus omega))
  | ((with_reducible apply g_rneedM); (focus walk_at "hp"))
  | ((with_reducible apply g_rwithM); (focus walk_at "hp"))
  | ((with_reducible apply g_rspans); (focus walk_at "hp"); (focus with_reducible assumption))
  | ((with_reducible apply g_rheaps); (focus walk_at "hp"); (focus with_reducible assumption))
  | ((with_reducible apply g_rtotal); (focus walk_at "hp"); (focus with_reducible assumption)))

/-- the script: frozen, or the module's own -/
def Scr (K : PySem.W.Frag) (H : Hp) (a : Addr) (xs : List V) : Prop := (∃ o, H a = some (.frz o (.lst xs))) ∨ ∃ (o : Obj) (its : Array Value) (n : Nat), K.lookup a = some o ∧ o.cls = .type "list" ∧ o.dict = none ∧ o.data = .seq its n ∧ its.size ≤ sizeLine ∧ Vals xs its.toList
theorem Scr.sq {K : PySem.W.Frag} {H : Hp} {a : Addr} {xs : List V} : Scr K H a xs → SqL K H a xs
  | .inl h => .inl (.inr h)
  | .inr h => .inr h
theorem Scr.only {K : PySem.W.Frag} {H : Hp} {a : Addr} {xs : List V} (O : L2.Only H) : SqL K H a xs → Scr K H a xs
  | .inl (.inr h) => .inl h
  | .inr h => .inr h
  | .inl (.inl h) => by
    rcases O a with z | ⟨o, ys, z⟩
    · rw [z] at h; cases h
    · rw [z] at h; cases h
theorem Scr.ex {K : PySem.W.Frag} {H H' : Hp} {a : Addr} {xs : List V} (e : Ex H H') : Scr K H a xs → Scr K H' a xs
  | .inl ⟨o, h⟩ => .inl ⟨o, e _ _ h⟩
  | .inr h => .inr h
theorem Scr.exb {K : PySem.W.Frag} {H H' : Hp} {l a : Addr} {xs ys : List V} (e : Exb l H H') (hl : H l = some (.lst ys)) : Scr K H a xs → Scr K H' a xs
  | .inl ⟨o, h⟩ => .inl ⟨o, e _ _ (ne_of h hl (by intro z; cases z)) h⟩
  | .inr h => .inr h
/-- the state of a draw: the script, a place, a number, a rest -/
def DiceAt (K : PySem.W.Frag) (H : Hp) (d : Addr) : Prop := ∃ (sc : Addr) (ns : List Int) (pos mixed rest : Int), H d = some (.lst [.ref sc, .int pos, .int mixed, .int rest]) ∧ Scr K H sc (ns.map V.int) ∧ ns.length ≤ 63 ∧ 0 ≤ pos ∧ 0 ≤ mixed ∧ mixed < 2147483647
section
variable {K : PySem.W.Frag} {H H' : Hp} {d a C dx r b : Addr} {xs : List V} {fs : List (Str × V)} {ds hs : List Int}
theorem DiceAt.lst (D : DiceAt K H d) : ∃ ys, H d = some (.lst ys) := let ⟨_, _, _, _, _, h, _⟩ := D; ⟨_, h⟩
theorem DiceAt.ex (e : Ex H H') (D : DiceAt K H d) : DiceAt K H' d := by
  obtain ⟨sc, ns, p, m, r, h, hs, z, q⟩ := D
  exact ⟨sc, ns, p, m, r, e _ _ h, hs.ex e, z, q⟩
theorem DiceAt.exb {l : Addr} {ys : List V} (e : Exb l H H') (ne : d ≠ l) (hl : H l = some (.lst ys)) (D : DiceAt K H d) : DiceAt K H' d := by
  obtain ⟨sc, ns, p, m, r, h, hs, z, q⟩ := D
  exact ⟨sc, ns, p, m, r, e _ _ ne h, hs.exb e hl, z, q⟩
theorem exb_tD (e : Exb d H H') (D : DiceAt K H d) (h : SqT K H a xs) : SqT K H' a xs := let ⟨_, hl⟩ := D.lst; exb_t e hl h
theorem exb_insD (e : Exb d H H') (D : DiceAt K H d) (h : H a = some (.ins C dx fs)) : H' a = some (.ins C dx fs) := let ⟨_, hl⟩ := D.lst; exb_ins e hl h
theorem RingIn.exD (e : Exb d H H') (D : DiceAt K H d) (R : RingIn K C H r a b ds hs) : RingIn K C H' r a b ds hs := let ⟨_, hl⟩ := D.lst; R.exb e hl
theorem TupK.exD (e : Exb d H H') (D : DiceAt K H d) (R : TupK H a xs) : TupK H' a xs := let ⟨_, hl⟩ := D.lst; R.exb e hl
end
/-- a draw changes the draw's own list alone -/
def Dx (K : PySem.W.Frag) (d : Addr) (H H' : Hp) : Prop := Exb d H H' ∧ DiceAt K H' d
section
variable {P : Program} {w : World} {K : PySem.W.Frag} {mg : Str → Option Value} {base : Heap} {C : Addr}
def sp_taken (K : PySem.W.Frag) : Sp := fun vs H Q _ => ∃ (d : Addr) (many : Int), vs = [.ref d, .int many] ∧ DiceAt K H d ∧ (0 < many ∧ many < 1073741824) ∧ ∀ k H', 0 ≤ k → k < many → Dx K d H H' → Q (.int k) H'
theorem dice_set {K : PySem.W.Frag} {H H' : Hp} {d sc : Addr} {ns : List Int} {p m r : Int} {ys : List V} (hd : H d = some (.lst ys)) (e : Exb d H H') (h : H' d = some (.lst [.ref sc, .int p, .int m, .int r])) (hs : Scr K H sc (ns.map V.int)) (z : ns.length ≤ 63) (h1 : 0 ≤ p) (h2 : 0 ≤ m) (h3 : m < 2147483647) : DiceAt K H' d :=
  ⟨sc, ns, p, m, r, h, hs.exb e hd, z, h1, h2, h3⟩
theorem ok_taken (Z : Blt mg) (G : GFun K mg "_law_taken" s__law_taken) : Df P w K mg base 1 "_law_taken" ["_law_row", "_law_many"] (sp_taken K) := by
  refine Df.of G sc__law_taken b__law_taken (fun vs H Q E h => ?_) (fun f cdv A outer s H vs Q E hr h => ?_)
  · obtain ⟨d, many, rfl, _⟩ := h
    rfl
  · obtain ⟨d, many, rfl, ⟨sc, ns, p, m, r, hd, hsc, z, h1, h2, h3⟩, ⟨m1, m2⟩, q⟩ := h
    have hs := hsc.sq
    refine ⟨_, PSs.nox (pss_cons (ps_if (pt_cmpR op_gt (pe_ix ix_list (pv 0) pe_int (fun _ _ => rfl)) pe_int (nomark _)) (pss_cons (ps_set (i := 2) sc__law_taken.nd rfl (by first | exact Or.inl rfl | exact Or.inr rfl) (pe_op op_mod (pe_callTy c_int1 (by rfl) Z.zint (by decide +kernel) (pa_cons (pe_ix ix_list (pv 0) pe_int (fun _ _ => rfl)) pa_nil)) (pv 1)))
          (pss_cons (ps_asg (pe_op op_fdiv (pe_ix ix_list (pv 0) pe_int (fun _ _ => rfl)) (pv 1)) (pg_sub (pv 0) pe_int set_list))
          (pss_one (ps_ret (pv 2))))) pss_nil)
      (pss_cons (ps_asg (pe_op op_add (pe_ix ix_list (pv 0) pe_int (fun _ _ => rfl)) pe_int) (pg_sub (pv 0) pe_int set_list))
      (pss_cons (ps_if (pt_cmpR op_gt (pe_ix ix_list (pv 0) pe_int (fun _ _ => rfl)) (pe_callB c_len (by rfl) Z.zlen PySem.boot_len (pa_cons (pe_ix ix_list (pv 0) pe_int (fun _ _ => rfl)) pa_nil)) (nomark _)) (pss_cons (ps_asg (pe_op op_mod (pe_callTy c_int1 (by rfl) Z.zint (by decide +kernel) (pa_cons (pe_op op_add (pe_op op_mul (pe_ix ix_list (pv 0) pe_int (fun _ _ => rfl)) pe_int) pe_int) pa_nil)) pe_int) (pg_sub (pv 0) pe_int set_list))
          (pss_one (ps_ret (pe_op op_mod (pe_callTy c_int1 (by rfl) Z.zint (by decide +kernel) (pa_cons (pe_op op_fdiv (pe_ix ix_list (pv 0) pe_int (fun _ _ => rfl)) pe_int) pa_nil)) (pv 1))))) pss_nil)
      (pss_cons (ps_set (i := 3) sc__law_taken.nd rfl (by first | exact Or.inl rfl | exact Or.inr rfl) (pe_ix ix_list (pe_ix ix_list (pv 0) pe_int (fun _ _ => rfl)) (pe_op op_sub (pe_ix ix_list (pv 0) pe_int (fun _ _ => rfl)) pe_int) (fun _ _ => rfl)))
      (pss_cons (ps_asg (pe_op op_mod (pe_callTy c_int1 (by rfl) Z.zint (by decide +kernel) (pa_cons (pe_op op_add (pe_op op_add (pe_op op_mul (pe_ix ix_list (pv 0) pe_int (fun _ _ => rfl)) pe_int) (pv 3)) pe_int) pa_nil)) pe_int) (pg_sub (pv 0) pe_int set_list))
      (pss_cons (ps_asg (pe_ifExp (pt_cmpR op_ge (pv 3) (pe_op op_pow pe_int pe_int) (nomark _)) (pe_op op_fdiv (pv 3) (pv 1)) pe_int) (pg_sub (pv 0) pe_int set_list))
      (pss_one (ps_ret (pe_op op_mod (pe_callTy c_int1 (by rfl) Z.zint (by decide +kernel) (pa_cons (pv 3) pa_nil)) (pv 1)))))))))), ?_⟩
    walk_at "g0"
    walk_at "go"
    refine g_kIfS (fun h => ?_) (fun h => ?_)
    · have h := of_decide_eq_true h
      walk_at "go"
      rename_i H2 e2 hd2
      exact q _ H2 (Int.emod_nonneg _ (by omega)) (Int.emod_lt_of_pos _ m1) ⟨e2, dice_set hd e2 hd2 hsc z h1 h2 h3⟩
    · walk_at "go"
      rename_i H2 e2 hd2
      have hs2 := (hsc.exb e2 hd).sq
      walk_at "go"
      refine g_kIfS (fun h => ?_) (fun h => ?_)
      · walk_at "go"
        rename_i H3 e3 hd3
        refine q _ H3 (Int.emod_nonneg _ (by omega)) (Int.emod_lt_of_pos _ m1) ⟨e2.trans e3, dice_set hd (e2.trans e3) hd3 hsc z (by omega) (Int.emod_nonneg _ (by decide)) (Int.emod_lt_of_pos _ (by decide))⟩
      · have h := of_decide_eq_false h
        have hpl : p.toNat < ns.length := by omega
        walk_at "go"
        refine g_ixL (v := .int ns[p.toNat]) hs2 ?_ ?_
        · have e0 : atI (ns.map V.int) (p.toNat : Int) = some (.int ns[p.toNat]) := atI_nat (by rw [List.getElem?_map, List.getElem?_eq_getElem hpl]; rfl)
          rw [← e0]
          congr 1
          omega
        walk_at "go"
        rename_i H3 e3 hd3
        refine g_kIf (fun h4 => ?_) (fun h4 => ?_)
        · walk_at "go"
          rename_i H4 e4 hd4
          refine q _ H4 (Int.emod_nonneg _ (by omega)) (Int.emod_lt_of_pos _ m1) ⟨(e2.trans e3).trans e4, dice_set hd ((e2.trans e3).trans e4) hd4 hsc z (by omega) (Int.emod_nonneg _ (by decide)) (Int.emod_lt_of_pos _ (by decide))⟩
        · walk_at "go"
          rename_i H4 e4 hd4
          refine q _ H4 (Int.emod_nonneg _ (by omega)) (Int.emod_lt_of_pos _ m1) ⟨(e2.trans e3).trans e4, dice_set hd ((e2.trans e3).trans e4) hd4 hsc z (by omega) (Int.emod_nonneg _ (by decide)) (Int.emod_lt_of_pos _ (by decide))⟩
theorem g_taken {H : Hp} {Q : VK} {E : XK} {d : Addr} {many : Int} (D : DiceAt K H d) (h1 : 0 < many) (h2 : many < 1073741824) (q : ∀ k H', 0 ≤ k → k < many → Exb d H H' → DiceAt K H' d → Q (.int k) H') : sp_taken K [.ref d, .int many] H Q E :=
  ⟨d, many, rfl, D, ⟨h1, h2⟩, fun k H' a b c => q k H' a b c.1 c.2⟩
end
end G48

namespace G48
open PySem PySem.Spec PyProof.Rows L2 Evl
abbrev s__law_parts : Stmt := top 33
abbrev N__law_parts : List Str := ["_law_row", "_law_most", "_law_size", "_law_far", "_law_days", "_law_starts", "_law_k"]
theorem sc__law_parts : FnScope N__law_parts ["_law_row", "_law_most"] (defScope s__law_parts) := ⟨rfl, rfl, rfl, by decide +kernel, rfl, by decide +kernel, by decide +kernel⟩
theorem b__law_parts : BindL "_law_parts" "_law_parts" s__law_parts ["_law_row", "_law_most"] := fun _ _ _ _ _ _ us hl => match us, hl with | [_, _], _ => rfl
end G48
/-! _law_parts -/
namespace G48
open PySem PySem.Spec PyProof.Rows L2 Evl
/-! the steps -/
local macro_rules | `(tactic| walk_at "as") => `(tactic| with_reducible assumption)
local macro_rules | `(tactic| walk_at "hp") => `(tactic| first
  | with_reducible assumption
  | ((with_reducible apply SqT.of); walk_at "as")
  | ((with_reducible apply SqL.of); walk_at "as")
  | ((with_reducible apply ex_at); (focus walk_at "as"); walk_at "hp")
  | ((with_reducible apply ex_t); (focus walk_at "as"); walk_at "hp")
  | ((with_reducible apply ex_l); (focus walk_at "as"); walk_at "hp")
  | ((with_reducible apply exb_ins); (focus walk_at "as"); (focus walk_at "hp"); walk_at "hp")
  | ((with_reducible apply exb_t); (focus walk_at "as"); (focus walk_at "hp"); walk_at "hp")
  | ((with_reducible apply exb_at); (focus walk_at "as"); (focus walk_at "ne"); walk_at "hp")
  | ((with_reducible apply exb_l); (focus walk_at "as"); (focus walk_at "ne"); walk_at "hp"))
local macro_rules | `(tactic| walk_at "ne") => `(tactic| first
  | with_reducible assumption
  | exact Ne.symm (by with_reducible assumption)
  | exact ne_of_none (by with_reducible assumption) (by with_reducible assumption)
  | exact Ne.symm (ne_of_none (by with_reducible assumption) (by with_reducible assumption)))
local macro_rules | `(tactic| walk_at "tr") => `(tactic| first
  | rfl
  | with_reducible assumption
  | exact decide_eq_true (by first | with_reducible assumption | omega)
  | exact decide_eq_false (by first | with_reducible assumption | omega)
  | (rw [Bool.not_eq_true']; exact decide_eq_false (by first | with_reducible assumption | omega))
  | (rw [Bool.not_eq_false']; exact decide_eq_true (by first | with_reducible assumption | omega)))
local macro_rules | `(tactic| walk_at "nn") => `(tactic| first | with_reducible assumption | (exact List.cons_ne_nil _ _))
local macro_rules | `(tactic| walk_at "sz") => `(tactic| first | (exact sz1000 (Nat.le_of_ble_eq_true rfl)) | (refine sz1000 ?_; simp only [List.length_map, List.length_cons, List.length_nil, List.length_append]; omega) | with_reducible assumption)
local macro_rules | `(tactic| walk_at "sl") => `(tactic| first | with_reducible assumption | (refine lt1000 ?_; simp only [List.length_map, List.length_cons, List.length_nil, List.length_append]; omega) | (refine lt1000 ?_; omega))
local macro_rules | `(tactic| walk_at "ix") => `(tactic| first | rfl | with_reducible assumption)
local macro_rules | `(tactic| walk_at "rg") => `(tactic| exact RgOk.of_le (by omega) (by omega) (by omega) (by omega))
local macro_rules | `(tactic| walk_at "sp") => `(tactic| fail "sp")
local macro_rules | `(tactic| walk_at "cl") => `(tactic| with_reducible assumption)
local macro_rules | `(tactic| walk_at "lk") => `(tactic| with_reducible assumption)
local macro_rules | `(tactic| walk_at "it") => `(tactic| first | rfl | with_reducible assumption | exact atI_nat (by with_reducible assumption))
local macro_rules | `(tactic| walk_at "g1") => `(tactic| first
  | (with_reducible apply g_var); (focus rfl)
  | with_reducible apply g_c
  | with_reducible apply g_seq
  | with_reducible apply g_asg
  | with_reducible apply gg_name
  | with_reducible apply g_op
  | with_reducible apply g_cons
  | with_reducible apply g_nil
  | with_reducible apply g_cb
  | with_reducible apply g_fld
  | ((with_reducible apply g_kFld); (focus walk_at "hp"); (focus walk_at "cl"); (focus walk_at "cl"); (focus walk_at "lk"))
  | with_reducible apply g_call
  | walk_at "sp"
  | with_reducible apply g_ret
  | with_reducible apply g_drop
  | with_reducible apply g_test
  | with_reducible apply g_B
  | with_reducible apply g_kTest
  | with_reducible apply g_ifS
  | with_reducible apply g_kIfST
  | with_reducible apply g_kIfSF
  | with_reducible apply g_add
  | with_reducible apply g_sub
  | with_reducible apply g_lt
  | with_reducible apply g_le
  | with_reducible apply g_gt
  | with_reducible apply g_ge
  | with_reducible apply g_eqI
  | with_reducible apply g_neI
  | ((with_reducible apply g_mod); (focus first | decide | omega))
  | ((with_reducible apply g_mul); (focus first | (left; constructor <;> omega) | (right; constructor <;> omega)))
  | ((with_reducible apply g_fdiv); (focus (constructor <;> omega)))
  | ((with_reducible apply g_ixT); (focus walk_at "hp"); (focus walk_at "it"))
  | ((with_reducible apply g_ixL); (focus walk_at "hp"); (focus walk_at "it"))
  | with_reducible apply g_and
  | with_reducible apply g_or
  | with_reducible apply g_not
  | with_reducible apply g_kNotT
  | with_reducible apply g_kNotF
  | with_reducible apply g_if
  | with_reducible apply g_kAndT
  | with_reducible apply g_kAndF
  | with_reducible apply g_kOrT
  | with_reducible apply g_kOrF
  | with_reducible apply g_kIfT
  | with_reducible apply g_kIfF
  | with_reducible apply g_next
  | with_reducible apply g_andV
  | with_reducible apply g_orV
  | with_reducible apply g_notV
  | with_reducible apply g_kNotV
  | with_reducible apply g_kAndVT
  | with_reducible apply g_kAndVF
  | with_reducible apply g_chain
  | with_reducible apply g_kChainT
  | with_reducible apply g_kChainF
  | with_reducible apply g_tup
  | with_reducible apply g_lst
  | ((with_reducible apply g_kT); (focus walk_at "sz"); intro _ _ _ _ _)
  | ((with_reducible apply g_kL); (focus walk_at "sz"); intro _ _ _ _ _)
  | with_reducible apply g_un
  | with_reducible apply g_neg
  | with_reducible apply g_meth
  | ((with_reducible apply g_kMeth); (focus walk_at "hp"); (focus walk_at "lk"))
  | with_reducible apply g_prop
  | ((with_reducible apply g_kProp); (focus walk_at "hp"))
  | with_reducible apply g_make
  | with_reducible apply g_par
  | with_reducible apply g_kPar
  | ((with_reducible apply g_lenLM); (focus walk_at "hp"))
  | ((with_reducible apply g_lenTM); (focus walk_at "hp"))
  | ((with_reducible apply g_lenL); (focus walk_at "hp"))
  | ((with_reducible apply g_lenT); (focus walk_at "hp"))
  | with_reducible apply g_int1
  | with_reducible apply g_max2
  | with_reducible apply g_min2
  | ((with_reducible apply g_listL); (focus walk_at "hp"); intro _ _ _ _ _)
  | ((with_reducible apply g_listT); (focus walk_at "hp"); intro _ _ _ _ _)
  | ((with_reducible apply g_tupL); (focus walk_at "hp"); intro _ _ _ _ _)
  | ((with_reducible apply g_sum); (focus walk_at "hp"))
  | with_reducible apply g_sfld
  | with_reducible apply g_sl
  | with_reducible apply g_nopart
  | with_reducible apply g_part
  | with_reducible apply g_kPart
  | with_reducible apply g_lstRg
  | with_reducible apply g_rg1
  | with_reducible apply g_kRg1
  | with_reducible apply g_bm
  | with_reducible apply gg_sub
  | ((with_reducible apply gg_tup); (focus walk_at "hp"); (focus rfl))
  | with_reducible apply gg_cons
  | with_reducible apply gg_nil
  | with_reducible apply g_forL
  | with_reducible apply g_forT
  | with_reducible apply g_forR1
  | with_reducible apply g_forR2
  | with_reducible apply g_forE
  | with_reducible apply g_forEL
  | ((with_reducible apply g_maxT); (focus walk_at "hp"); (focus walk_at "nn"))
  | ((with_reducible apply g_maxL); (focus walk_at "hp"); (focus walk_at "nn"))
  | ((with_reducible apply g_catA); (focus walk_at "hp"); (focus walk_at "hp"); (focus walk_at "sz"); intro _ _ _ _)
  | ((with_reducible apply g_slA); (focus walk_at "hp"); intro _ _ _ _)
  | ((with_reducible apply g_tupD); (focus walk_at "hp"); intro _ _ _ _ _)
  | ((with_reducible apply g_setL); (focus walk_at "hp"); (focus walk_at "ix"); intro _ _ _)
  | ((with_reducible apply g_append); (focus walk_at "hp"); (focus walk_at "sl"); intro _ _ _)
  | ((with_reducible apply g_aug); (focus rfl))
  | with_reducible apply g_ipI
  | with_reducible apply g_retN
  | with_reducible apply g_lcR1
  | with_reducible apply g_lcR2
  | with_reducible apply g_lcL
  | with_reducible apply g_lcU
  | with_reducible apply g_lcN
  | ((with_reducible apply g_kLcG); (focus rfl))
  | with_reducible apply g_yes
  | with_reducible apply g_kLcTT
  | with_reducible apply g_kLcTF
  | ((with_reducible apply g_kLcE); (focus walk_at "hp"); (focus walk_at "sl"); intro _ _ _)
  | ((with_reducible apply g_pow); (focus (constructor <;> (try constructor) <;> decide)))
  | ((with_reducible apply g_kLRg); (focus walk_at "rg"); intro _ _ _ _ _)
  | ((with_reducible apply g_cat); (focus walk_at "hp"); (focus walk_at "hp"); (focus walk_at "sz"); intro _ _ _ _ _)
  | ((with_reducible apply g_slL); (focus walk_at "hp"); intro _ _ _ _ _)
  | with_reducible apply g_bmT
  | with_reducible apply g_break
  | with_reducible apply g_cont)
local macro_rules | `(tactic| walk_at "g0") => `(tactic| try dsimp only [L2.cxOf, L2.Cx.nox, L2.Cx.wish])
local macro_rules | `(tactic| walk_at "yn") => `(tactic| first
  | ((with_reducible apply y_kIfS); (focus walk_at "tr"))
  | ((with_reducible apply n_kIfS); (focus walk_at "tr"))
  | ((with_reducible apply y_kOr); (focus walk_at "tr"))
  | ((with_reducible apply n_kOr); (focus walk_at "tr"))
  | ((with_reducible apply y_kAnd); (focus walk_at "tr"))
  | ((with_reducible apply n_kAnd); (focus walk_at "tr"))
  | ((with_reducible apply y_kNot); (focus walk_at "tr"))
  | ((with_reducible apply n_kNot); (focus walk_at "tr"))
  | ((with_reducible apply y_kIf); (focus walk_at "tr"))
  | ((with_reducible apply n_kIf); (focus walk_at "tr"))
  | ((with_reducible apply y_kAndV); (focus walk_at "tr"))
  | ((with_reducible apply n_kAndV); (focus walk_at "tr"))
  | ((with_reducible apply y_kOrV); (focus walk_at "tr"))
  | ((with_reducible apply n_kOrV); (focus walk_at "tr"))
  | ((with_reducible apply y_kChain); (focus walk_at "tr"))
  | ((with_reducible apply n_kChain); (focus walk_at "tr"))
  | ((with_reducible apply y_kLcT); (focus walk_at "tr"))
  | ((with_reducible apply n_kLcT); (focus walk_at "tr"))
  | ((with_reducible apply y_kWh); (focus walk_at "tr"))
  | ((with_reducible apply n_kWh); (focus walk_at "tr")))
local macro_rules | `(tactic| walk_at "go") => `(tactic| repeat (first | walk_at "g1" | walk_at "yn"))
local macro_rules | `(tactic| walk_at "hp") => `(tactic| first
  | ((with_reducible apply RingIn.ex); (focus walk_at "as"); walk_at "hp")
  | ((with_reducible apply RingAt.ex); (focus walk_at "as"); walk_at "hp")
  | ((with_reducible apply RingIn.exb); (focus walk_at "as"); (focus walk_at "hp"); walk_at "hp")
  | ((with_reducible apply RingAt.exb); (focus walk_at "as"); (focus walk_at "hp"); walk_at "hp")
  | ((with_reducible apply TupK.ex); (focus walk_at "as"); walk_at "hp")
  | ((with_reducible apply TupK.exb); (focus walk_at "as"); (focus walk_at "hp"); walk_at "hp"))
local macro_rules | `(tactic| walk_at "lk") => `(tactic| first | with_reducible exact rf_spans | with_reducible exact rf_heaps | with_reducible exact rf_total | with_reducible exact rf_nr | with_reducible exact rf_wd)
local macro_rules | `(tactic| walk_at "sp") => `(tactic| first
  | ((with_reducible apply g_isiTup); (focus walk_at "hp"))
  | ((with_reducible apply g_isiLst); (focus walk_at "hp"))
  | ((with_reducible apply g_isint); (focus omega); (focus omega))
  | ((with_reducible apply g_checkn); (focus omega); (focus omega))
  | ((with_reducible apply g_rbooks); (focus walk_at "hp"))
  | ((with_reducible apply g_rpace); (focus walk_at "hp"); intro _ _ _ _)
  | ((with_reducible apply g_rlen); (focus walk_at "hp"))
  | ((with_reducible apply g_rneed); (focus walk_at "hp"); (focus omega))
  | ((with_reducible apply g_rneedM); (focus walk_at "hp"))
  | ((with_reducible apply g_rwithM); (focus walk_at "hp"))
  | ((with_reducible apply g_rspans); (focus walk_at "hp"); (focus with_reducible assumption))
  | ((with_reducible apply g_rheaps); (focus walk_at "hp"); (focus with_reducible assumption))
  | ((with_reducible apply g_rtotal); (focus walk_at "hp"); (focus with_reducible assumption)))

local macro_rules | `(tactic| walk_at "sp") => `(tactic| first
  | ((with_reducible apply g_taken); (focus walk_at "hp"); (focus first | decide | omega); (focus first | decide | omega); intro _ _ _ _ _ _))
local macro_rules | `(tactic| walk_at "hp") => `(tactic| first
  | ((with_reducible apply DiceAt.ex); (focus walk_at "as"); walk_at "hp")
  | ((with_reducible apply exb_tD); (focus walk_at "as"); (focus walk_at "hp"); walk_at "hp")
  | ((with_reducible apply exb_insD); (focus walk_at "as"); (focus walk_at "hp"); walk_at "hp")
  | ((with_reducible apply RingIn.exD); (focus walk_at "as"); (focus walk_at "hp"); walk_at "hp")
  | ((with_reducible apply TupK.exD); (focus walk_at "as"); (focus walk_at "hp"); walk_at "hp"))

theorem Exb.ex2 {l d : Addr} {H0 H H' : Hp} (h : H0 l = none) (a : Exb d H0 H) (b : Exb l H H') : Exb d H0 H' := fun c o n e => b c o (ne_of_none e h) (a c o n e)
theorem sum_set : ∀ (hs : List Int) (j : Nat) (v x : Int), hs[j]? = some x → (hs.set j v).sum = hs.sum - x + v
  | [], _, _, _, h => by cases h
  | y :: r, 0, v, x, h => by
    cases h
    rw [List.set_cons_zero, List.sum_cons, List.sum_cons]
    omega
  | y :: r, j + 1, v, x, h => by
    rw [List.set_cons_succ, List.sum_cons, List.sum_cons, sum_set r j v x (by simpa using h)]
    omega
theorem all_set {P : Int → Prop} {hs : List Int} (h : ∀ x ∈ hs, P x) (j : Nat) {v : Int} (hv : P v) : ∀ x ∈ hs.set j v, P x := fun x hx => by
  rcases List.mem_or_eq_of_mem_set hx with h1 | h1
  · exact h x h1
  · rw [h1]; exact hv
theorem all_app {P : Int → Prop} {hs : List Int} (h : ∀ x ∈ hs, P x) {v : Int} (hv : P v) : ∀ x ∈ hs ++ [v], P x := fun x hx => by
  rcases List.mem_append.mp hx with h1 | h1
  · exact h x h1
  · rw [List.mem_singleton.mp h1]; exact hv
theorem map_app (ds : List Int) (v : Int) : ds.map V.int ++ [V.int v] = (ds ++ [v]).map V.int := by rw [List.map_append]; rfl
theorem map_set' (ds : List Int) (j : Nat) (v : Int) : (ds.map V.int).set j (.int v) = (ds.set j v).map V.int := by rw [List.map_set]
/-- the greatest's first place -/
theorem g_indexMx {K : PySem.W.Frag} {H : Hp} {Q : VK} {a : Addr} {hs : List Int} (h : H a = some (.lst (hs.map V.int))) (hn : hs ≠ []) (q : ∀ j : Nat, hs[j]? = some (mx hs) → Q (.int (j : Nat)) H) : rIndex K (.ref a) [.int (mx hs)] H Q := by
  obtain ⟨j, hj, hf⟩ := first_at (mx_mem hn)
  refine ⟨a, hs.map V.int, .int (mx hs), j, .int (mx hs), rfl, rfl, SqL.of h, rfl, flat_ints hs, by rw [List.getElem?_map, hj]; rfl, beq_self_eq_true _, fun m z hm hz => ?_, q j hj⟩
  rw [List.getElem?_map] at hz
  cases e : hs[m]? with
  | none => rw [e] at hz; cases hz
  | some y =>
    rw [e] at hz
    cases hz
    have h2 := hf m hm
    rw [e] at h2
    exact beq_eq_false_iff_ne.mpr fun z => h2 (by rw [z])
theorem ixN_nat' {n j : Nat} (h : j < n) : ixN n (j : Int) = some j := by
  unfold ixN
  rw [if_pos (by omega), if_pos (by omega), Int.toNat_natCast]
theorem ixN_int {n : Nat} {k : Int} (h : 0 ≤ k ∧ k < n) : ixN n k = some k.toNat := by
  unfold ixN
  rw [if_pos h.1, if_pos h.2]
section
variable {P : Program} {w : World} {K : PySem.W.Frag} {mg : Str → Option Value} {base : Heap} {C : Addr}
def sp_parts (K : PySem.W.Frag) : Sp := fun vs H Q _ => ∃ (d : Addr) (most : Int), vs = [.ref d, .int most] ∧ DiceAt K H d ∧ (2 ≤ most ∧ most ≤ 8) ∧
  ∀ p a b ds hs H', H p = none → Exb d H H' → DiceAt K H' d → H' p = some (.tup [.ref a, .ref b]) → TupK H' a (ds.map V.int) → TupK H' b (hs.map V.int) → RingOk ds hs → (ds.length : Int) ≤ most → Q (.ref p) H'
theorem ok_parts (Z : Blt mg) (D__law_taken : Df P w K mg base 1 "_law_taken" ["_law_row", "_law_many"] (sp_taken K)) (G : GFun K mg "_law_parts" s__law_parts) : Df P w K mg base 3 "_law_parts" ["_law_row", "_law_most"] (sp_parts K) := by
  refine Df.of G sc__law_parts b__law_parts (fun vs H Q E h => ?_) (fun f cdv A outer s H vs Q E hr h => ?_)
  · obtain ⟨d, most, rfl, _⟩ := h
    rfl
  · obtain ⟨d, most, rfl, D, ⟨m1, m2⟩, q⟩ := h
    refine ⟨_, PSs.nox (pss_cons (ps_asg (pe_tup (pa_cons (pe_op op_add pe_int (pg D__law_taken hr (pa_cons (pv 0) (pa_cons (pe_op op_sub (pv 1) pe_int) pa_nil)))) (pa_cons (pe_ix ix_list (pe_lst (pa_cons pe_int (pa_cons pe_int (pa_cons pe_int pa_nil)))) (pg D__law_taken hr (pa_cons (pv 0) (pa_cons pe_int pa_nil))) (fun _ _ => rfl)) pa_nil))) (pg_tup (by rfl) (pgs_cons (pg_name (i := 2) sc__law_parts.nd rfl (by first | exact Or.inl rfl | exact Or.inr rfl)) (pgs_cons (pg_name (i := 3) sc__law_parts.nd rfl (by first | exact Or.inl rfl | exact Or.inr rfl)) pgs_nil))))
      (pss_cons (ps_setLc (i := 4) (own := [("_law_k", 6)]) rfl sc__law_parts.nd rfl rfl (sw_true rfl rfl rfl (by decide +kernel)) (pi_range1 (by rfl) Z.zrange (pa_cons (pv 2) pa_nil)) (blkOk_by (N := N__law_parts) (sc := defScope s__law_parts) (by decide +kernel)) (fun _ _ _ _ _ => (pg_name (i := 6) sc__law_parts.nd rfl (by first | exact Or.inl rfl | exact Or.inr rfl))) (fun _ _ _ _ _ => pts_nil) (fun _ _ _ _ _ => (pe_op op_add pe_int (pg D__law_taken hr (pa_cons (pv 0) (pa_cons (pv 3) pa_nil))))))
      (pss_cons (ps_setLc (i := 5) (own := [("_law_k", 6)]) rfl sc__law_parts.nd rfl rfl (sw_true rfl rfl rfl (by decide +kernel)) (pi_range1 (by rfl) Z.zrange (pa_cons (pv 2) pa_nil)) (blkOk_by (N := N__law_parts) (sc := defScope s__law_parts) (by decide +kernel)) (fun _ _ _ _ _ => (pg_name (i := 6) sc__law_parts.nd rfl (by first | exact Or.inl rfl | exact Or.inr rfl))) (fun _ _ _ _ _ => pts_nil) (fun _ _ _ _ _ => (pg D__law_taken hr (pa_cons (pv 0) (pa_cons pe_int pa_nil)))))
      (pss_cons (ps_if (pt_cmpR op_eq (pe_callB (cr_sum rfl) (by rfl) Z.zsum (by decide +kernel) (pa_cons (pv 5) pa_nil)) pe_int (nomark _)) (pss_one (ps_asg (pe_op op_add pe_int (pg D__law_taken hr (pa_cons (pv 0) (pa_cons pe_int pa_nil)))) (pg_sub (pv 5) (pg D__law_taken hr (pa_cons (pv 0) (pa_cons (pv 2) pa_nil))) set_list))) pss_nil)
      (pss_cons (ps_while PassesOwn.never (pt_cmpR op_gt (pe_callB (cr_sum rfl) (by rfl) Z.zsum (by decide +kernel) (pa_cons (pv 5) pa_nil)) pe_int (nomark _)) (pss_one (ps_asg (pe_op op_sub (pe_callB (cr_max rfl) (by rfl) Z.zmax (by decide +kernel) (pa_cons (pv 5) pa_nil)) pe_int) (pg_sub (pv 5) (pe_bm PySem.F.plainAttrs_list PySem.F.slot_list_index PySem.F.type_list_index mt_index (pv 5) (pa_cons (pe_callB (cr_max rfl) (by rfl) Z.zmax (by decide +kernel) (pa_cons (pv 5) pa_nil)) pa_nil)) set_list))))
      (pss_one (ps_ret (pe_tup (pa_cons (pe_callTy c_tuple_of (by rfl) Z.ztuple (by decide +kernel) (pa_cons (pv 4) pa_nil)) (pa_cons (pe_callTy c_tuple_of (by rfl) Z.ztuple (by decide +kernel) (pa_cons (pv 5) pa_nil)) pa_nil)))))))))), ?_⟩
    walk_at "g0"
    walk_at "go"
    rename_i n H1 n0 n1 e1 D1 l H2 nl e2 hl k H3 k0 k1 e3 D3
    have hld : l ≠ d := by
      obtain ⟨_, hd⟩ := D1.lst
      exact Ne.symm (ne_of_none hd nl)
    have hl3 := e3 _ _ hld hl
    have hfar : ∃ far, atI [V.int 3, .int 9, .int 30] k = some (.int far) ∧ 3 ≤ far ∧ far ≤ 30 := by
      have : k = 0 ∨ k = 1 ∨ k = 2 := by omega
      rcases this with rfl | rfl | rfl
      · exact ⟨3, rfl, by decide, by decide⟩
      · exact ⟨9, rfl, by decide, by decide⟩
      · exact ⟨30, rfl, by decide, by decide⟩
    obtain ⟨far, hfar, f1, f2⟩ := hfar
    refine g_ixL (SqL.of hl3) hfar ?_
    have e13 : Exb d H H3 := (e1.trans (Exb.of e2)).trans e3
    walk_at "go"
    rename_i p1 H4 np1 e4 hp1
    have D4 := D3.ex e4
    have e14 : Exb d H H4 := e13.trans (Exb.of e4)
    refine g_kLcR1 ⟨by omega, by omega⟩ (fun A i H' => ∃ ds : List Int, Exb d H H' ∧ DiceAt K H' d ∧ H' A = some (.lst (ds.map V.int)) ∧ ds.length = i ∧ ∀ x ∈ ds, 1 ≤ x ∧ x ≤ 30) (fun A H5 nA e5 hA => ⟨[], e14.trans (Exb.of e5), D4.ex e5, hA, rfl, fun x hx => by cases hx⟩) ?_ ?_
    · rintro A i H5 nA hi ⟨ds, e5, D5, hA, rfl, hds⟩
      walk_at "go"
      rename_i k2 H6 k20 k21 e6 D6
      have hAd : A ≠ d := by
        obtain ⟨_, hd⟩ := D4.lst
        exact Ne.symm (ne_of_none hd nA)
      have hA6 := e6 _ _ hAd hA
      refine g_kLcE hA6 (by rw [List.length_map]; exact lt1000 (by omega)) fun H7 e7 hA7 => ⟨ds ++ [1 + k2], ?_, D6.exb e7 (Ne.symm hAd) hA6, by rw [hA7, map_app], by rw [List.length_append]; rfl, all_app hds ⟨by omega, by omega⟩⟩
      have nA0 : A ≠ d → H A = none := fun _ => by
        cases hz : H A with
        | none => rfl
        | some o => rw [e14 _ _ hAd hz] at nA; cases nA
      exact Exb.ex2 (nA0 hAd) (e5.trans e6) e7
    · rintro A H5 nA ⟨ds, e5, D5, hA, hlen, hds⟩
      have hAd : A ≠ d := by
        obtain ⟨_, hd⟩ := D4.lst
        exact Ne.symm (ne_of_none hd nA)
      have nA0 : H A = none := by
        cases hz : H A with
        | none => rfl
        | some o => rw [e14 _ _ hAd hz] at nA; cases nA
      walk_at "go"
      refine g_kLcR1 ⟨by omega, by omega⟩ (fun B i H' => ∃ hs : List Int, Exb d H5 H' ∧ DiceAt K H' d ∧ H' B = some (.lst (hs.map V.int)) ∧ hs.length = i ∧ ∀ x ∈ hs, 0 ≤ x ∧ x ≤ 12) (fun B H6 nB e6 hB => ⟨[], Exb.of e6, D5.ex e6, hB, rfl, fun x hx => by cases hx⟩) ?_ ?_
      · rintro B i H6 nB hi ⟨hs, e6, D6, hB, rfl, hhs⟩
        walk_at "go"
        rename_i k2 H7 k20 k21 e7 D7
        have hBd : B ≠ d := by
          obtain ⟨_, hd⟩ := D5.lst
          exact Ne.symm (ne_of_none hd nB)
        have hB7 := e7 _ _ hBd hB
        refine g_kLcE hB7 (by rw [List.length_map]; exact lt1000 (by omega)) fun H8 e8 hB8 => ⟨hs ++ [k2], Exb.ex2 nB (e6.trans e7) e8, D7.exb e8 (Ne.symm hBd) hB7, by rw [hB8, map_app], by rw [List.length_append]; rfl, all_app hhs ⟨by omega, by omega⟩⟩
      · rintro B H6 nB ⟨hs, e6, D6, hB, hlenh, hhs⟩
        have hBd : B ≠ d := by
          obtain ⟨_, hd⟩ := D5.lst
          exact Ne.symm (ne_of_none hd nB)
        have hAB : A ≠ B := ne_of_none hA nB
        have nB0 : H B = none := by
          cases hz : H B with
          | none => rfl
          | some o => rw [e5 _ _ hBd hz] at nB; cases nB
        have hA6 := e6 _ _ hAd hA
        have e06 := e5.trans e6
        -- the end, from any starts with sum in 1 to 12
        walk_at "go"
        generalize hR : (tSeq (tWhile _ _) (tRet _) : TS) = R
        have wh : ∀ (H7 : Hp) (hs : List Int) (v : Option V), Exb d H H7 → DiceAt K H7 d → H7 A = some (.lst (ds.map V.int)) → H7 B = some (.lst (hs.map V.int)) → hs.length = ds.length → (∀ x ∈ hs, 0 ≤ x ∧ x ≤ 12) → 1 ≤ hs.sum →
            R { nx := fun x H' => Q V.non H', rt := Q } [some (.ref d), some (.int most), some (.int (2 + n)), some (.int far), some (.ref A), some (.ref B), v] H7 := by
          subst hR
          intro H7 hs v e7 D7 hA7 hB7 hl7 hhs7 hs7
          walk_at "go"
          refine g_while (fun m σ H' => ∃ (hs : List Int), σ = [some (.ref d), some (.int most), some (.int (2 + n)), some (.int far), some (.ref A), some (.ref B), v] ∧ Exb d H H' ∧ DiceAt K H' d ∧ H' A = some (.lst (ds.map V.int)) ∧ H' B = some (.lst (hs.map V.int)) ∧ hs.length = ds.length ∧ (∀ x ∈ hs, 0 ≤ x ∧ x ≤ 12) ∧ 1 ≤ hs.sum ∧ m = hs.sum.toNat) hs.sum.toNat
            ⟨hs, rfl, e7, D7, hA7, hB7, hl7, hhs7, hs7, rfl⟩ ?_
          rintro m σ H8 ⟨hs, rfl, e8, D8, hA8, hB8, hl8, hhs8, hs8, rfl⟩
          walk_at "go"
          refine g_kWh (fun h => ?_) (fun h => ?_)
          · have h := of_decide_eq_true h
            have hne : hs ≠ [] := by
              intro z
              rw [z] at h
              exact absurd h (by decide)
            walk_at "go"
            refine g_kBM_list (SqL.of hB8) ?_
            walk_at "go"
            refine g_indexMx hB8 hne fun j hj => ?_
            have hjl : j < hs.length := (List.getElem?_eq_some_iff.mp hj).1
            have hm := mx_mem hne
            have hmb := hhs8 _ hm
            have hm1 : 1 ≤ mx hs := by
              have := sum_le (lo := 0) (hi := mx hs) (ds := hs) fun x hx => ⟨(hhs8 x hx).1, le_mx hx⟩
              have h2 := this.2
              by_cases hz : mx hs ≤ 0
              · have : mx hs = 0 := by omega
                rw [this] at h2
                omega
              · omega
            refine g_setL hB8 (by rw [List.length_map]; exact ixN_nat' hjl) fun H9 e9 hB9 => ?_
            rw [map_set'] at hB9
            have hsum := sum_set hs j (mx hs - 1) _ hj
            exact ⟨_, by show (hs.set j (mx hs - 1)).sum.toNat < _; omega, hs.set j (mx hs - 1), rfl, Exb.ex2 nB0 e8 e9, D8.exb e9 (Ne.symm hBd) hB8, e9 _ _ hAB hA8, hB9, by rw [List.length_set]; exact hl8, all_set hhs8 j ⟨by omega, by omega⟩, by omega, rfl⟩
          · have h := of_decide_eq_false h
            walk_at "go"
            rename_i a Ha na ea ta b Hb nb eb tb p Hp np ep hp
            have e9 := (ea.trans eb).trans ep
            refine q p a b ds hs Hp ?_ (e8.trans (Exb.of e9)) (D8.ex e9) hp (ta.ex (eb.trans ep)) (tb.ex ep) ⟨by omega, by omega, hl8, hds, hhs8, by omega, by omega⟩ (by omega)
            have hpd : p ≠ d := by
              obtain ⟨_, hd⟩ := D8.lst
              exact Ne.symm (ne_of_none (eb _ _ (ea _ _ hd)) np)
            cases hz : H p with
            | none => rfl
            | some o => rw [eb _ _ (ea _ _ (e8 _ _ hpd hz))] at np; cases np
        refine g_kIfS (fun h => ?_) (fun h => ?_)
        · have h := of_decide_eq_true h
          walk_at "go"
          rename_i k2 H7 k20 k21 e7 D7 k3 H8 k30 k31 e8 D8
          have hA8 := e8 _ _ hAd (e7 _ _ hAd hA6)
          have hB8 := e8 _ _ hBd (e7 _ _ hBd hB)
          refine g_setL hB8 (by rw [List.length_map]; exact ixN_int ⟨by omega, by omega⟩) fun H9 e9 hB9 => ?_
          rw [map_set'] at hB9
          have hjl : k3.toNat < hs.length := by omega
          have hsum := sum_set hs k3.toNat (1 + k2) _ (List.getElem?_eq_getElem hjl)
          have hbj := hhs _ (List.getElem_mem hjl)
          have hle : hs[k3.toNat] ≤ hs.sum := by
            have := sum_set hs k3.toNat 0 _ (List.getElem?_eq_getElem hjl)
            have h2 := (sum_le (lo := 0) (hi := 12) (ds := hs.set k3.toNat 0) (all_set hhs _ (by decide))).1
            rw [Int.zero_mul] at h2
            omega
          exact wh H9 (hs.set k3.toNat (1 + k2)) _ (Exb.ex2 nB0 ((e06.trans e7).trans e8) e9) (D8.exb e9 (Ne.symm hBd) hB8) (e9 _ _ hAB hA8) hB9 (by rw [List.length_set]; omega) (all_set hhs _ ⟨by omega, by omega⟩) (by omega)
        · have h := of_decide_eq_false h
          walk_at "go"
          have h2 := (sum_le (lo := 0) (hi := 12) (ds := hs) hhs).1
          rw [Int.zero_mul] at h2
          exact wh H6 hs _ e06 D6 hA6 hB (by omega) hhs (by omega)
end
end G48

/-! data of ints compared; tests whose rest is one -/
namespace G48
open PySem PySem.Spec PyProof.Rows L2 Evl
/-- the law's own body: nothing leaves it -/
abbrev Body0 (P : Program) (w : World) (K : PySem.W.Frag) (mg : Str → Option Value) (base : Heap) (qual : Str) (N : List Str) (st : Stmt) (k : Nat) (sp : Sp) : Prop :=
  ∀ (f : Addr) (cdv : Value) (A : Around) (outer : List Env) (s : Shared) (H : Hp) (vs : List V) (Q : VK) (E : XK), Room k (A.deeper (envOfC qual (defScope st) s.heap.objs.size f cdv)) → sp vs H Q E →
      ∃ t, PSs (cxOf L2.CX0 P w K mg base N qual (defScope st) f cdv A outer s H E).nox (defBody st) t ∧ t { nx := fun _ H' => Q .non H', rt := Q } (start N vs) H
theorem g_kAndN {u : TT} {σ : L2.St} {QB : Bool → Hp → Prop} {c : Bool} {H : Hp} (rest : ∀ H', Ex H H' → QB false H') (h1 : c = true → (∀ H', Ex H H' → QB false H') → u σ H QB) : kAnd u σ QB c H := g_kAnd (fun h => h1 h rest) fun _ => rest H (Ex.refl _)
theorem eqvAll_ints : ∀ xs ys : List Int, PyData.eqvAll (xs.map PyData.int) (ys.map PyData.int) = decide (xs = ys)
  | [], [] => by simp [PyData.eqvAll]
  | [], _ :: _ => by simp [PyData.eqvAll]
  | _ :: _, [] => by simp [PyData.eqvAll]
  | x :: xs, y :: ys => by
    rw [Bool.eq_iff_iff]
    simp [PyData.eqvAll, PyData.eqv, eqvAll_ints xs ys]
theorem sh_lst (ns : List Int) : SeqAt.shaped (.list (ns.map PyData.int)) = true := PySem.W.shaped_ints ns
theorem sh_tup (ns : List Int) : SeqAt.shaped (.tuple (ns.map PyData.int)) = true := by
  have h1 := PySem.W.depthAll_ints ns
  have h2 : PyData.depth (.tuple (ns.map PyData.int)) ≤ 64 := by simp only [PyData.depth]; omega
  show (PyData.canLay0 (.tuple (ns.map PyData.int)) && decide (PyData.depth (.tuple (ns.map PyData.int)) ≤ 64)) = true
  rw [Bool.and_eq_true]
  exact ⟨by simp only [PyData.canLay0]; exact PySem.W.canLayAll0_ints ns, decide_eq_true h2⟩
section
variable {K : PySem.W.Frag} {H : Hp} {Q : VK} {a b : Addr} {xs ys : List Int}
theorem dpAll_ints : ∀ xs : List Int, DpAll K H (xs.map V.int) (xs.map PyData.int)
  | [] => .nil
  | x :: xs => .cons (.int x) (dpAll_ints xs)
theorem dp_lst (h : SqL K H a (xs.map V.int)) : Dp K H (.ref a) (.list (xs.map PyData.int)) := .lst h (dpAll_ints xs)
theorem dp_tup (h : SqT K H a (xs.map V.int)) : Dp K H (.ref a) (.tuple (xs.map PyData.int)) := .tup h (dpAll_ints xs)
theorem eqv_lst : PyData.eqv (.list (xs.map PyData.int)) (.list (ys.map PyData.int)) = decide (xs = ys) := by simp only [PyData.eqv]; exact eqvAll_ints xs ys
theorem eqv_tup : PyData.eqv (.tuple (xs.map PyData.int)) (.tuple (ys.map PyData.int)) = decide (xs = ys) := by simp only [PyData.eqv]; exact eqvAll_ints xs ys
theorem g_eqLI (h1 : SqL K H a (xs.map V.int)) (h2 : SqL K H b (ys.map V.int)) (q : Q (.bl (decide (xs = ys))) H) : rEqD K (.ref a) (.ref b) H Q := g_eqD (dp_lst h1) (dp_lst h2) (sh_lst _) (sh_lst _) (by rw [eqv_lst]; exact q)
theorem g_neLI (h1 : SqL K H a (xs.map V.int)) (h2 : SqL K H b (ys.map V.int)) (q : Q (.bl (!decide (xs = ys))) H) : rNeD K (.ref a) (.ref b) H Q := g_neD (dp_lst h1) (dp_lst h2) (sh_lst _) (sh_lst _) (by rw [eqv_lst]; exact q)
theorem g_eqTI (h1 : SqT K H a (xs.map V.int)) (h2 : SqT K H b (ys.map V.int)) (q : Q (.bl (decide (xs = ys))) H) : rEqD K (.ref a) (.ref b) H Q := g_eqD (dp_tup h1) (dp_tup h2) (sh_tup _) (sh_tup _) (by rw [eqv_tup]; exact q)
theorem g_neTI (h1 : SqT K H a (xs.map V.int)) (h2 : SqT K H b (ys.map V.int)) (q : Q (.bl (!decide (xs = ys))) H) : rNeD K (.ref a) (.ref b) H Q := g_neD (dp_tup h1) (dp_tup h2) (sh_tup _) (sh_tup _) (by rw [eqv_tup]; exact q)
end
end G48

/-! the plain law of k56 -/
namespace G48
open PySem PySem.Spec PyProof.Rows L2 Evl
theorem low_mul {a b : Int} (ha : 0 < a) : ∃ g : Int, 0 < g ∧ (low a b).1 * g = a ∧ (low a b).2 * g = b := by
  have hg : 0 < (Int.gcd a b : Int) := by
    have := (Int.gcd_pos_iff (a := a) (b := b)).mpr (Or.inl (by omega))
    omega
  exact ⟨Int.gcd a b, hg, Int.ediv_mul_cancel (Int.gcd_dvd_left ..), Int.ediv_mul_cancel (Int.gcd_dvd_right ..)⟩
theorem paceN_slow {ds : List Int} {B : Int} (h : ds.sum ≤ mx ds * B) : paceN ds B = (mx ds, 1) := by unfold paceN; rw [if_pos h]
theorem paceN_quick {ds : List Int} {B : Int} (h : ¬ ds.sum ≤ mx ds * B) : paceN ds B = low ds.sum B := by unfold paceN; rw [if_neg h]
theorem PR.shows {ds rs : List Int} {B : Int} (h2 : 2 ≤ ds.length) (h : PR ds B rs) : Shows rs ds.length := by
  unfold PR at h
  by_cases hc : ds.sum ≤ mx ds * B
  · rw [if_pos hc] at h
    obtain ⟨j, rfl, hj, _⟩ := h
    have hjl := (List.getElem?_eq_some_iff.mp hj).1
    refine ⟨fun i x hx => ?_, fun i x y hx hy => ?_, .inl rfl⟩
    · cases i with
      | zero => cases hx; omega
      | succ i => cases hx
    · cases hy
  · rw [if_neg hc] at h
    subst h
    exact ⟨fun i x hx => by
      have hl := (List.getElem?_eq_some_iff.mp hx).1
      rw [upto_len] at hl
      rw [upto_at hl] at hx
      cases hx
      omega, fun i x y hx hy => by
      have hl := (List.getElem?_eq_some_iff.mp hy).1
      rw [upto_len] at hl
      rw [upto_at hl] at hy
      rw [upto_at (by omega)] at hx
      cases hx
      cases hy
      rw [Int.emod_eq_of_lt (by omega) (by omega)]
      omega, .inr (upto_len _)⟩
theorem shows_one {n k : Nat} (h : k < n) : Shows [(k : Int)] n := by
  refine ⟨fun i x hx => ?_, fun i x y hx hy => ?_, Or.inl rfl⟩
  · cases i with
    | zero => cases hx; omega
    | succ i => cases hx
  · cases hy
theorem shows_all {n : Nat} : Shows (upto n) n :=
  ⟨fun i x hx => by
    have hl := (List.getElem?_eq_some_iff.mp hx).1
    rw [upto_len] at hl
    rw [upto_at hl] at hx
    cases hx
    omega, fun i x y hx hy => by
    have hl := (List.getElem?_eq_some_iff.mp hy).1
    rw [upto_len] at hl
    rw [upto_at hl] at hy
    rw [upto_at (by omega)] at hx
    cases hx
    cases hy
    rw [Int.emod_eq_of_lt (by omega) (by omega)]
    omega, .inr (upto_len _)⟩
theorem shown_one {ds : List Int} {B : Int} {k : Nat} : shown ds B [(k : Int)] = (ds.getD k 0, 1) := by
  unfold shown
  rw [if_pos (show ([(k : Int)] : List Int).length = 1 from rfl)]
  rfl
theorem shown_all {ds : List Int} {B : Int} (h : 2 ≤ ds.length) : shown ds B (upto ds.length) = low ds.sum B := by
  unfold shown
  rw [if_neg (by rw [upto_len]; omega)]
theorem PR.shown {ds rs : List Int} {B : Int} (h2 : 2 ≤ ds.length) (h : PR ds B rs) : shown ds B rs = paceN ds B := by
  unfold PR at h
  by_cases hc : ds.sum ≤ mx ds * B
  · rw [if_pos hc] at h
    obtain ⟨j, rfl, hj, _⟩ := h
    rw [shown_one, paceN_slow hc]
    simp [List.getD, hj]
  · rw [if_neg hc] at h
    subst h
    rw [shown_all h2, paceN_quick hc]
/-- the cross differences: none above 0, one is 0 -/
def crossN (ds : List Int) (B : Int) : List Int := ((List.range ds.length).map fun k => ds.getD k 0 * (paceN ds B).2 - (paceN ds B).1 * 1) ++ [(low ds.sum B).1 * (paceN ds B).2 - (paceN ds B).1 * (low ds.sum B).2]
theorem mx_zero {ns : List Int} (h0 : (0 : Int) ∈ ns) (h : ∀ x ∈ ns, x ≤ 0) : mx ns = 0 := (mx_eq h0 h).symm
theorem crossN_mx {ds : List Int} {B : Int} (O : DaysOk ds) (hb : 1 ≤ B) : mx (crossN ds B) = 0 := by
  have hs := O.sum
  have hm := O.mx
  obtain ⟨g, g0, g1, g2⟩ := low_mul (a := ds.sum) (b := B) (by omega)
  by_cases hc : ds.sum ≤ mx ds * B
  · refine mx_zero ?_ ?_
    · refine List.mem_append_left _ ?_
      obtain ⟨j, hj, _⟩ := first_at (mx_mem O.ne)
      have hjl := (List.getElem?_eq_some_iff.mp hj).1
      refine List.mem_map.mpr ⟨j, List.mem_range.mpr hjl, ?_⟩
      rw [paceN_slow hc]
      simp [List.getD, hj]
    · intro x hx
      rcases List.mem_append.mp hx with hx | hx
      · obtain ⟨k, hk, rfl⟩ := List.mem_map.mp hx
        have hk := List.mem_range.mp hk
        rw [paceN_slow hc]
        have : ds.getD k 0 ≤ mx ds := le_mx (by simp [List.getD, List.getElem?_eq_getElem hk])
        show ds.getD k 0 * 1 - mx ds * 1 ≤ 0
        omega
      · rw [List.mem_singleton.mp hx, paceN_slow hc]
        show (low ds.sum B).1 * 1 - mx ds * (low ds.sum B).2 ≤ 0
        have h1 : (low ds.sum B).1 * g ≤ mx ds * (low ds.sum B).2 * g := by
          rw [Int.mul_assoc, g1, g2]
          exact hc
        have := Int.le_of_mul_le_mul_right h1 g0
        omega
  · refine mx_zero ?_ ?_
    · refine List.mem_append_right _ ?_
      rw [paceN_quick hc, Int.sub_self]
      exact List.mem_singleton.mpr rfl
    · intro x hx
      rcases List.mem_append.mp hx with hx | hx
      · obtain ⟨k, hk, rfl⟩ := List.mem_map.mp hx
        have hk := List.mem_range.mp hk
        rw [paceN_quick hc]
        have h3 : ds.getD k 0 ≤ mx ds := le_mx (by simp [List.getD, List.getElem?_eq_getElem hk])
        show ds.getD k 0 * (low ds.sum B).2 - (low ds.sum B).1 * 1 ≤ 0
        have hl := low_bd (a := ds.sum) (b := B) (by omega) (by omega)
        have h1 : mx ds * (low ds.sum B).2 * g ≤ (low ds.sum B).1 * g := by
          rw [Int.mul_assoc, g1, g2]
          omega
        have h2 := Int.le_of_mul_le_mul_right h1 g0
        have h4 : ds.getD k 0 * (low ds.sum B).2 ≤ mx ds * (low ds.sum B).2 := Int.mul_le_mul_of_nonneg_right h3 (by omega)
        omega
      · rw [List.mem_singleton.mp hx, paceN_quick hc, Int.sub_self]
        exact Int.le_refl _
/-- the fewest books -/
theorem few_bd {ds : List Int} (O : DaysOk ds) : ds.sum ≤ mx ds * fewN ds ∧ 1 ≤ fewN ds ∧ fewN ds ≤ 1000 ∧ mx ds * (fewN ds - 1) < ds.sum := by
  have hs := O.sum
  have hm := O.mx
  have h1 := Int.mul_ediv_add_emod (ds.sum + mx ds - 1) (mx ds)
  have h2 := Int.emod_nonneg (ds.sum + mx ds - 1) (b := mx ds) (by omega)
  have h3 := Int.emod_lt_of_pos (ds.sum + mx ds - 1) (b := mx ds) (by omega)
  have e : fewN ds = (ds.sum + mx ds - 1) / mx ds := rfl
  rw [← e] at h1
  have e2 : mx ds * (fewN ds - 1) = mx ds * fewN ds - mx ds := by rw [Int.mul_sub, Int.mul_one]
  refine ⟨by omega, ?_, ?_, by omega⟩
  · by_cases hz : fewN ds ≤ 0
    · have : mx ds * fewN ds ≤ 0 := Int.mul_nonpos_of_nonneg_of_nonpos (by omega) hz
      omega
    · omega
  · by_cases hz : 1000 < fewN ds
    · have : 1 * fewN ds ≤ mx ds * fewN ds := Int.mul_le_mul_of_nonneg_right (by omega) (by omega)
      omega
    · omega
theorem best_pace {ds : List Int} (O : DaysOk ds) : paceN ds 1000 = (mx ds, 1) := paceN_slow (by have := O.sum; have := O.mx; omega)
theorem few_pace {ds : List Int} (O : DaysOk ds) : paceN ds (fewN ds) = (mx ds, 1) := paceN_slow (few_bd O).1
theorem few_less {ds : List Int} (O : DaysOk ds) (h : 1 < fewN ds) : ¬ paceN ds (fewN ds - 1) = (mx ds, 1) := by
  have hb := (few_bd O).2.2.2
  have hs := O.sum
  rw [paceN_quick (by omega)]
  obtain ⟨g, g0, g1, g2⟩ := low_mul (a := ds.sum) (b := fewN ds - 1) (by omega)
  intro z
  rw [z] at g1 g2
  have g1 : mx ds * g = ds.sum := g1
  have g2 : 1 * g = fewN ds - 1 := g2
  rw [Int.one_mul] at g2
  rw [g2] at g1
  omega
/-- nothing less is needed for the pace that stands -/
theorem sum_max0 {ds : List Int} {q : Int} (h : ∀ d ∈ ds, d ≤ q) : (ds.map fun d => max 0 (d - q)).sum = 0 := by
  induction ds with
  | nil => rfl
  | cons d r ih =>
    rw [List.map_cons, List.sum_cons, ih fun x hx => h x (List.mem_cons_of_mem _ hx)]
    have := h d List.mem_cons_self
    omega
theorem less_none {ds : List Int} {B : Int} (O : DaysOk ds) (hb : 1 ≤ B) : lessN ds B (paceN ds B).1 (paceN ds B).2 = some 0 := by
  have hs := O.sum
  have hm := O.mx
  have hn := (sum_le (lo := 1) (hi := 30) O.dd).1
  rw [Int.one_mul] at hn
  unfold lessN
  by_cases hc : ds.sum ≤ mx ds * B
  · rw [paceN_slow hc]
    show (if mx ds / 1 = 0 ∨ mx ds * B < (ds.length : Int) * 1 then none else some (max (ds.map fun d => max 0 (d - mx ds / 1)).sum (ds.sum - mx ds * B / 1))) = some 0
    rw [Int.ediv_one, Int.ediv_one, if_neg (by rintro (h | h) <;> omega), sum_max0 fun d hd => le_mx hd]
    congr 1
    omega
  · rw [paceN_quick hc]
    obtain ⟨g, g0, g1, g2⟩ := low_mul (a := ds.sum) (b := B) (by omega)
    have hl := low_bd (a := ds.sum) (b := B) (by omega) (by omega)
    generalize (low ds.sum B).1 = x at *
    generalize (low ds.sum B).2 = y at *
    have hq : mx ds ≤ x / y := by
      refine (Int.le_ediv_iff_mul_le (by omega)).mpr ?_
      refine Int.le_of_mul_le_mul_right (a := g) ?_ g0
      rw [Int.mul_assoc, g1, g2]
      omega
    have hxB : x * B = ds.sum * y := by
      rw [← g1, ← g2, Int.mul_assoc, Int.mul_comm g y]
    have hny : (ds.length : Int) * y ≤ x * B := by
      rw [hxB]
      exact Int.mul_le_mul_of_nonneg_right hn (by omega)
    rw [if_neg (by rintro (h | h) <;> omega), sum_max0 fun d hd => Int.le_trans (le_mx hd) hq, hxB, Int.mul_ediv_cancel _ (by omega), Int.sub_self]
    rfl
end G48

namespace G48
open PySem PySem.Spec PyProof.Rows L2 Evl
abbrev s_law : Stmt := top 34
abbrev N_law : List Str := ["_law_script", "_law_row", "_law_parts_here", "_law_ring", "_law_size", "_law_shown", "_law_few", "_law_best", "_law_helped", "_law_k", "_law_quick", "_law_most", "_law_one"]
theorem sc_law : FnScope N_law ["_law_script"] (defScope s_law) := ⟨rfl, rfl, rfl, by decide +kernel, rfl, by decide +kernel, by decide +kernel⟩
theorem b_law : BindL "law" "law" s_law ["_law_script"] := fun _ _ _ _ _ _ us hl => match us, hl with | [_], _ => rfl
end G48
/-! the law k56 -/
namespace G48
open PySem PySem.Spec PyProof.Rows L2 Evl
/-! the steps -/
local macro_rules | `(tactic| walk_at "as") => `(tactic| with_reducible assumption)
local macro_rules | `(tactic| walk_at "hp") => `(tactic| first
  | with_reducible assumption
  | ((with_reducible apply SqT.of); walk_at "as")
  | ((with_reducible apply SqL.of); walk_at "as")
  | ((with_reducible apply ex_at); (focus walk_at "as"); walk_at "hp")
  | ((with_reducible apply ex_t); (focus walk_at "as"); walk_at "hp")
  | ((with_reducible apply ex_l); (focus walk_at "as"); walk_at "hp")
  | ((with_reducible apply exb_ins); (focus walk_at "as"); (focus walk_at "hp"); walk_at "hp")
  | ((with_reducible apply exb_t); (focus walk_at "as"); (focus walk_at "hp"); walk_at "hp")
  | ((with_reducible apply exb_at); (focus walk_at "as"); (focus walk_at "ne"); walk_at "hp")
  | ((with_reducible apply exb_l); (focus walk_at "as"); (focus walk_at "ne"); walk_at "hp"))
local macro_rules | `(tactic| walk_at "ne") => `(tactic| first
  | with_reducible assumption
  | exact Ne.symm (by with_reducible assumption)
  | exact ne_of_none (by with_reducible assumption) (by with_reducible assumption)
  | exact Ne.symm (ne_of_none (by with_reducible assumption) (by with_reducible assumption)))
local macro_rules | `(tactic| walk_at "tr") => `(tactic| first
  | rfl
  | with_reducible assumption
  | exact decide_eq_true (by first | with_reducible assumption | omega)
  | exact decide_eq_false (by first | with_reducible assumption | omega)
  | (rw [Bool.not_eq_true']; exact decide_eq_false (by first | with_reducible assumption | omega))
  | (rw [Bool.not_eq_false']; exact decide_eq_true (by first | with_reducible assumption | omega)))
local macro_rules | `(tactic| walk_at "nn") => `(tactic| first | with_reducible assumption | (exact List.cons_ne_nil _ _))
local macro_rules | `(tactic| walk_at "sz") => `(tactic| first | (exact sz1000 (Nat.le_of_ble_eq_true rfl)) | (refine sz1000 ?_; simp only [List.length_map, List.length_cons, List.length_nil, List.length_append]; omega) | with_reducible assumption)
local macro_rules | `(tactic| walk_at "sl") => `(tactic| first | with_reducible assumption | (refine lt1000 ?_; simp only [List.length_map, List.length_cons, List.length_nil, List.length_append]; omega) | (refine lt1000 ?_; omega))
local macro_rules | `(tactic| walk_at "ix") => `(tactic| first | rfl | with_reducible assumption)
local macro_rules | `(tactic| walk_at "rg") => `(tactic| exact RgOk.of_le (by omega) (by omega) (by omega) (by omega))
local macro_rules | `(tactic| walk_at "sp") => `(tactic| fail "sp")
local macro_rules | `(tactic| walk_at "cl") => `(tactic| with_reducible assumption)
local macro_rules | `(tactic| walk_at "lk") => `(tactic| with_reducible assumption)
local macro_rules | `(tactic| walk_at "it") => `(tactic| first | rfl | with_reducible assumption | exact atI_nat (by with_reducible assumption))
local macro_rules | `(tactic| walk_at "g1") => `(tactic| first
  | (with_reducible apply g_var); (focus rfl)
  | with_reducible apply g_c
  | with_reducible apply g_seq
  | with_reducible apply g_asg
  | with_reducible apply gg_name
  | with_reducible apply g_op
  | with_reducible apply g_cons
  | with_reducible apply g_nil
  | with_reducible apply g_cb
  | with_reducible apply g_fld
  | ((with_reducible apply g_kFld); (focus walk_at "hp"); (focus walk_at "cl"); (focus walk_at "cl"); (focus walk_at "lk"))
  | with_reducible apply g_call
  | walk_at "sp"
  | with_reducible apply g_ret
  | with_reducible apply g_drop
  | with_reducible apply g_test
  | with_reducible apply g_B
  | with_reducible apply g_kTest
  | with_reducible apply g_ifS
  | with_reducible apply g_kIfST
  | with_reducible apply g_kIfSF
  | with_reducible apply g_add
  | with_reducible apply g_sub
  | with_reducible apply g_lt
  | with_reducible apply g_le
  | with_reducible apply g_gt
  | with_reducible apply g_ge
  | with_reducible apply g_eqI
  | with_reducible apply g_neI
  | ((with_reducible apply g_mod); (focus first | decide | omega))
  | ((with_reducible apply g_mul); (focus first | (left; constructor <;> omega) | (right; constructor <;> omega)))
  | ((with_reducible apply g_fdiv); (focus (constructor <;> omega)))
  | ((with_reducible apply g_ixT); (focus walk_at "hp"); (focus walk_at "it"))
  | ((with_reducible apply g_ixL); (focus walk_at "hp"); (focus walk_at "it"))
  | with_reducible apply g_and
  | with_reducible apply g_or
  | with_reducible apply g_not
  | with_reducible apply g_kNotT
  | with_reducible apply g_kNotF
  | with_reducible apply g_if
  | with_reducible apply g_kAndT
  | with_reducible apply g_kAndF
  | with_reducible apply g_kOrT
  | with_reducible apply g_kOrF
  | with_reducible apply g_kIfT
  | with_reducible apply g_kIfF
  | with_reducible apply g_next
  | with_reducible apply g_andV
  | with_reducible apply g_orV
  | with_reducible apply g_notV
  | with_reducible apply g_kNotV
  | with_reducible apply g_kAndVT
  | with_reducible apply g_kAndVF
  | with_reducible apply g_chain
  | with_reducible apply g_kChainT
  | with_reducible apply g_kChainF
  | with_reducible apply g_tup
  | with_reducible apply g_lst
  | ((with_reducible apply g_kT); (focus walk_at "sz"); intro _ _ _ _ _)
  | ((with_reducible apply g_kL); (focus walk_at "sz"); intro _ _ _ _ _)
  | with_reducible apply g_un
  | with_reducible apply g_neg
  | with_reducible apply g_meth
  | ((with_reducible apply g_kMeth); (focus walk_at "hp"); (focus walk_at "lk"))
  | with_reducible apply g_prop
  | ((with_reducible apply g_kProp); (focus walk_at "hp"))
  | with_reducible apply g_make
  | with_reducible apply g_par
  | with_reducible apply g_kPar
  | ((with_reducible apply g_lenLM); (focus walk_at "hp"))
  | ((with_reducible apply g_lenTM); (focus walk_at "hp"))
  | ((with_reducible apply g_lenL); (focus walk_at "hp"))
  | ((with_reducible apply g_lenT); (focus walk_at "hp"))
  | with_reducible apply g_int1
  | with_reducible apply g_max2
  | with_reducible apply g_min2
  | ((with_reducible apply g_listL); (focus walk_at "hp"); intro _ _ _ _ _)
  | ((with_reducible apply g_listT); (focus walk_at "hp"); intro _ _ _ _ _)
  | ((with_reducible apply g_tupL); (focus walk_at "hp"); intro _ _ _ _ _)
  | ((with_reducible apply g_sum); (focus walk_at "hp"))
  | with_reducible apply g_sfld
  | with_reducible apply g_sl
  | with_reducible apply g_nopart
  | with_reducible apply g_part
  | with_reducible apply g_kPart
  | with_reducible apply g_lstRg
  | with_reducible apply g_rg1
  | with_reducible apply g_kRg1
  | with_reducible apply g_bm
  | with_reducible apply gg_sub
  | ((with_reducible apply gg_tup); (focus walk_at "hp"); (focus rfl))
  | with_reducible apply gg_cons
  | with_reducible apply gg_nil
  | with_reducible apply g_forL
  | with_reducible apply g_forT
  | with_reducible apply g_forR1
  | with_reducible apply g_forR2
  | with_reducible apply g_forE
  | with_reducible apply g_forEL
  | ((with_reducible apply g_maxT); (focus walk_at "hp"); (focus walk_at "nn"))
  | ((with_reducible apply g_maxL); (focus walk_at "hp"); (focus walk_at "nn"))
  | ((with_reducible apply g_catA); (focus walk_at "hp"); (focus walk_at "hp"); (focus walk_at "sz"); intro _ _ _ _)
  | ((with_reducible apply g_slA); (focus walk_at "hp"); intro _ _ _ _)
  | ((with_reducible apply g_tupD); (focus walk_at "hp"); intro _ _ _ _ _)
  | ((with_reducible apply g_setL); (focus walk_at "hp"); (focus walk_at "ix"); intro _ _ _)
  | ((with_reducible apply g_append); (focus walk_at "hp"); (focus walk_at "sl"); intro _ _ _)
  | ((with_reducible apply g_aug); (focus rfl))
  | with_reducible apply g_ipI
  | with_reducible apply g_retN
  | with_reducible apply g_lcR1
  | with_reducible apply g_lcR2
  | with_reducible apply g_lcL
  | with_reducible apply g_lcU
  | with_reducible apply g_lcN
  | ((with_reducible apply g_kLcG); (focus rfl))
  | with_reducible apply g_yes
  | with_reducible apply g_kLcTT
  | with_reducible apply g_kLcTF
  | ((with_reducible apply g_kLcE); (focus walk_at "hp"); (focus walk_at "sl"); intro _ _ _)
  | ((with_reducible apply g_pow); (focus (constructor <;> (try constructor) <;> decide)))
  | ((with_reducible apply g_kLRg); (focus walk_at "rg"); intro _ _ _ _ _)
  | ((with_reducible apply g_cat); (focus walk_at "hp"); (focus walk_at "hp"); (focus walk_at "sz"); intro _ _ _ _ _)
  | ((with_reducible apply g_slL); (focus walk_at "hp"); intro _ _ _ _ _)
  | with_reducible apply g_bmT
  | with_reducible apply g_break
  | with_reducible apply g_cont)
local macro_rules | `(tactic| walk_at "g0") => `(tactic| try dsimp only [L2.cxOf, L2.Cx.nox, L2.Cx.wish])
local macro_rules | `(tactic| walk_at "yn") => `(tactic| first
  | ((with_reducible apply y_kIfS); (focus walk_at "tr"))
  | ((with_reducible apply n_kIfS); (focus walk_at "tr"))
  | ((with_reducible apply y_kOr); (focus walk_at "tr"))
  | ((with_reducible apply n_kOr); (focus walk_at "tr"))
  | ((with_reducible apply y_kAnd); (focus walk_at "tr"))
  | ((with_reducible apply n_kAnd); (focus walk_at "tr"))
  | ((with_reducible apply y_kNot); (focus walk_at "tr"))
  | ((with_reducible apply n_kNot); (focus walk_at "tr"))
  | ((with_reducible apply y_kIf); (focus walk_at "tr"))
  | ((with_reducible apply n_kIf); (focus walk_at "tr"))
  | ((with_reducible apply y_kAndV); (focus walk_at "tr"))
  | ((with_reducible apply n_kAndV); (focus walk_at "tr"))
  | ((with_reducible apply y_kOrV); (focus walk_at "tr"))
  | ((with_reducible apply n_kOrV); (focus walk_at "tr"))
  | ((with_reducible apply y_kChain); (focus walk_at "tr"))
  | ((with_reducible apply n_kChain); (focus walk_at "tr"))
  | ((with_reducible apply y_kLcT); (focus walk_at "tr"))
  | ((with_reducible apply n_kLcT); (focus walk_at "tr"))
  | ((with_reducible apply y_kWh); (focus walk_at "tr"))
  | ((with_reducible apply n_kWh); (focus walk_at "tr")))
local macro_rules | `(tactic| walk_at "go") => `(tactic| repeat (first | walk_at "g1" | walk_at "yn"))
local macro_rules | `(tactic| walk_at "hp") => `(tactic| first
  | ((with_reducible apply RingIn.ex); (focus walk_at "as"); walk_at "hp")
  | ((with_reducible apply RingAt.ex); (focus walk_at "as"); walk_at "hp")
  | ((with_reducible apply RingIn.exb); (focus walk_at "as"); (focus walk_at "hp"); walk_at "hp")
  | ((with_reducible apply RingAt.exb); (focus walk_at "as"); (focus walk_at "hp"); walk_at "hp")
  | ((with_reducible apply TupK.ex); (focus walk_at "as"); walk_at "hp")
  | ((with_reducible apply TupK.exb); (focus walk_at "as"); (focus walk_at "hp"); walk_at "hp"))
local macro_rules | `(tactic| walk_at "lk") => `(tactic| first | with_reducible exact rf_spans | with_reducible exact rf_heaps | with_reducible exact rf_total | with_reducible exact rf_nr | with_reducible exact rf_wd)
local macro_rules | `(tactic| walk_at "sp") => `(tactic| first
  | ((with_reducible apply g_isiTup); (focus walk_at "hp"))
  | ((with_reducible apply g_isiLst); (focus walk_at "hp"))
  | ((with_reducible apply g_isint); (focus omega); (focus omega))
  | ((with_reducible apply g_checkn); (focus omega); (focus omega))
  | ((with_reducible apply g_rbooks); (focus walk_at "hp"))
  | ((with_reducible apply g_rpace); (focus walk_at "hp"); intro _ _ _ _)
  | ((with_reducible apply g_rlen); (focus walk_at "hp"))
  | ((with_reducible apply g_rneed); (focus walk_at "hp"); (focus omega))
  | ((with_reducible apply g_rneedM); (focus walk_at "hp"))
  | ((with_reducible apply g_rwithM); (focus walk_at "hp"))
  | ((with_reducible apply g_rspans); (focus walk_at "hp"); (focus with_reducible assumption))
  | ((with_reducible apply g_rheaps); (focus walk_at "hp"); (focus with_reducible assumption))
  | ((with_reducible apply g_rtotal); (focus walk_at "hp"); (focus with_reducible assumption)))

local macro_rules | `(tactic| walk_at "sp") => `(tactic| first
  | ((with_reducible apply g_taken); (focus walk_at "hp"); (focus first | decide | omega); (focus first | decide | omega); intro _ _ _ _ _ _))
local macro_rules | `(tactic| walk_at "hp") => `(tactic| first
  | ((with_reducible apply DiceAt.ex); (focus walk_at "as"); walk_at "hp")
  | ((with_reducible apply exb_tD); (focus walk_at "as"); (focus walk_at "hp"); walk_at "hp")
  | ((with_reducible apply exb_insD); (focus walk_at "as"); (focus walk_at "hp"); walk_at "hp")
  | ((with_reducible apply RingIn.exD); (focus walk_at "as"); (focus walk_at "hp"); walk_at "hp")
  | ((with_reducible apply TupK.exD); (focus walk_at "as"); (focus walk_at "hp"); walk_at "hp"))

section
variable {P : Program} {w : World} {K : PySem.W.Frag} {mg : Str → Option Value} {base : Heap} {C : Addr}
def Pv56 (H18 : Hp) (sc d p r p14 p17 l : Addr) (ds hs : List Int) (i : Nat) (σ : L2.St) (H' : Hp) : Prop := ∃ v9 v10 v11 v12 : Option V, σ = [some (.ref sc), some (.ref d), some (.ref p), some (.ref r), some (.int (ds.length : Int)), some (.ref p14), some (.int (fewN ds)), some (.ref p17), some (.ref l), v9, v10, v11, v12] ∧ Ex H18 H' ∧ H' l = some (.lst ((helpN ds hs.sum i).map V.int))
def sp_law (K : PySem.W.Frag) : Sp := fun vs H Q _ => ∃ (a : Addr) (ns : List Int), vs = [.ref a] ∧ Scr K H a (ns.map V.int) ∧ ns.length ≤ 63 ∧ ∀ H', Q (.bl true) H'
theorem sp_law_len {K : PySem.W.Frag} {vs : List V} {H : Hp} {Q : VK} {E : XK} (h : sp_law K vs H Q E) : vs.length = ["_law_script"].length := by
  obtain ⟨a, ns, rfl, _⟩ := h
  rfl
theorem bd_law (Z : Blt mg) (R : RingC K C) (D__law_parts : Df P w K mg base 3 "_law_parts" ["_law_row", "_law_most"] (sp_parts K)) (I_Ring : If P w K mg base "Ring" C 3 ["self", "days", "starts"] (sp_Ring_init K C))
    (D_judge_pace : Df P w K mg base 3 "judge_pace" ["ring", "readers"] (sp_judge_pace K C)) (D_pace_readers : Df P w K mg base 3 "pace_readers" ["ring"] (sp_pace_readers K C))
    (D_pace_with : Df P w K mg base 3 "pace_with" ["ring", "books"] (sp_pace_with K C)) (D_fewest_books : Df P w K mg base 1 "fewest_books" ["ring"] (sp_fewest_books K C)) (D_helpful_readers : Df P w K mg base 5 "helpful_readers" ["ring"] (sp_helpful K C))
    (D_slowest_days : Df P w K mg base 6 "slowest_days" ["ring", "reader"] (sp_slowest K C)) (D_fewest_days_less : Df P w K mg base 3 "fewest_days_less" ["ring", "days", "readings"] (sp_fewest_less K C))
    (M_Ring_with_days : Mf P w K mg base C 5 "with_days" ["self", "reader", "days"] (sp_Ring_with K C)) (Q_Ring_pace : Pf P w K mg base C 3 "pace" ["self"] (sp_Ring_pace K C)) (Q_Ring_books : Pf P w K mg base C 1 "books" ["self"] (sp_Ring_books K C))
    : Body0 P w K mg base "law" N_law s_law 7 (sp_law K) := by
  intro f cdv A outer s H vs Q E hr h
  · obtain ⟨sc, ns, rfl, hsc, hns, q⟩ := h
    have cl_Ring := R.cl
    refine ⟨_, (pss_cons (ps_set (i := 1) sc_law.nd rfl (by first | exact Or.inl rfl | exact Or.inr rfl) (pe_lst (pa_cons (pv 0) (pa_cons pe_int (pa_cons pe_int (pa_cons pe_int pa_nil))))))
      (pss_cons (ps_set (i := 2) sc_law.nd rfl (by first | exact Or.inl rfl | exact Or.inr rfl) (pg D__law_parts hr (pa_cons (pv 1) (pa_cons pe_int pa_nil))))
      (pss_cons (ps_asg (pe_tup (pa_cons (pk I_Ring hr (pa_cons (pe_ix ix_tup (pv 2) pe_int (fun _ _ => rfl)) (pa_cons (pe_ix ix_tup (pv 2) pe_int (fun _ _ => rfl)) pa_nil))) (pa_cons (pe_callB c_len (by rfl) Z.zlen PySem.boot_len (pa_cons (pe_ix ix_tup (pv 2) pe_int (fun _ _ => rfl)) pa_nil)) pa_nil))) (pg_tup (by rfl) (pgs_cons (pg_name (i := 3) sc_law.nd rfl (by first | exact Or.inl rfl | exact Or.inr rfl)) (pgs_cons (pg_name (i := 4) sc_law.nd rfl (by first | exact Or.inl rfl | exact Or.inr rfl)) pgs_nil))))
      (pss_cons (ps_if (pt_cmpR (op_neD hr.units) (pg D_judge_pace hr (pa_cons (pv 3) (pa_cons (pg D_pace_readers hr (pa_cons (pv 3) pa_nil)) pa_nil))) (pp (pv 3) cl_Ring Q_Ring_pace hr) (nomark _)) (pss_one (ps_ret pe_bl)) pss_nil)
      (pss_cons (ps_if (pt_cmpR (op_neD hr.units) (pg D_pace_with hr (pa_cons (pv 3) (pa_cons (pp (pv 3) cl_Ring Q_Ring_books hr) pa_nil))) (pp (pv 3) cl_Ring Q_Ring_pace hr) (nomark _)) (pss_one (ps_ret pe_bl)) pss_nil)
      (pss_cons (ps_set (i := 5) sc_law.nd rfl (by first | exact Or.inl rfl | exact Or.inr rfl) (pe_op op_cat (pe_lc (own := [("_law_k", 9)]) rfl sc_law.nd (pi_range1 (by rfl) Z.zrange (pa_cons (pv 4) pa_nil)) (blkOk_by (N := N_law) (sc := defScope s_law) (by decide +kernel)) (fun _ _ _ _ _ => (pg_name (i := 9) sc_law.nd rfl (by first | exact Or.inl rfl | exact Or.inr rfl))) (fun _ _ _ _ _ => pts_nil) (fun _ _ _ _ _ => (pg D_judge_pace hr (pa_cons (pv 3) (pa_cons (pe_lst (pa_cons (pv 9) pa_nil)) pa_nil))))) (pe_lst (pa_cons (pg D_judge_pace hr (pa_cons (pv 3) (pa_cons (pe_listRg rfl (by rfl) Z.zlist (prg_1 (by rfl) Z.zrange (pv 4))) pa_nil))) pa_nil))))
      (pss_cons (ps_if (pt_cmpR op_ne (pe_callB (cr_max rfl) (by rfl) Z.zmax (by decide +kernel) (pa_cons (pe_lc (own := [("_law_one", 12)]) rfl sc_law.nd (pi_list (pv 5)) (blkOk_by (N := N_law) (sc := defScope s_law) (by decide +kernel)) (fun _ _ _ _ _ => (pg_name (i := 12) sc_law.nd rfl (by first | exact Or.inl rfl | exact Or.inr rfl))) (fun _ _ _ _ _ => pts_nil) (fun _ _ _ _ _ => (pe_op op_sub (pe_op op_mul (pe_ix (ix_tupK K) (pv 12) pe_int (fun _ _ => rfl)) (pe_ix (ix_tupK K) (pp (pv 3) cl_Ring Q_Ring_pace hr) pe_int (fun _ _ => rfl))) (pe_op op_mul (pe_ix (ix_tupK K) (pp (pv 3) cl_Ring Q_Ring_pace hr) pe_int (fun _ _ => rfl)) (pe_ix (ix_tupK K) (pv 12) pe_int (fun _ _ => rfl)))))) pa_nil)) pe_int (nomark _)) (pss_one (ps_ret pe_bl)) pss_nil)
      (pss_cons (ps_set (i := 6) sc_law.nd rfl (by first | exact Or.inl rfl | exact Or.inr rfl) (pg D_fewest_books hr (pa_cons (pv 3) pa_nil)))
      (pss_cons (ps_set (i := 7) sc_law.nd rfl (by first | exact Or.inl rfl | exact Or.inr rfl) (pg D_pace_with hr (pa_cons (pv 3) (pa_cons pe_int pa_nil))))
      (pss_cons (ps_if (pt_cmpR (op_neD hr.units) (pg D_pace_with hr (pa_cons (pv 3) (pa_cons (pv 6) pa_nil))) (pv 7) (nomark _)) (pss_one (ps_ret pe_bl)) pss_nil)
      (pss_cons (ps_if (PW.pt (pw_and (pt_cmpR op_gt (pv 6) pe_int (nomark _)) (pw_and1 (pt_cmpR (op_eqD hr.units) (pg D_pace_with hr (pa_cons (pv 3) (pa_cons (pe_op op_sub (pv 6) pe_int) pa_nil))) (pv 7) (nomark _))))) (pss_one (ps_ret pe_bl)) pss_nil)
      (pss_cons (ps_if (pt_cmpR (op_neD hr.units) (pv 7) (pe_tup (pa_cons (pe_callB (cr_maxT rfl hr.units) (by rfl) Z.zmax (by decide +kernel) (pa_cons (pe_ix ix_tup (pv 2) pe_int (fun _ _ => rfl)) pa_nil)) (pa_cons pe_int pa_nil))) (nomark _)) (pss_one (ps_ret pe_bl)) pss_nil)
      (pss_cons (ps_set (i := 8) sc_law.nd rfl (by first | exact Or.inl rfl | exact Or.inr rfl) (pe_lst pa_nil))
      (pss_cons (ps_for PassesOwn.never rfl (pi_range1 (by rfl) Z.zrange (pa_cons (pv 4) pa_nil)) (pg_name (i := 9) sc_law.nd rfl (by first | exact Or.inl rfl | exact Or.inr rfl)) (pss_cons (ps_if (pt_cmpR op_gt (pe_ix ix_tup (pe_ix ix_tup (pv 2) pe_int (fun _ _ => rfl)) (pv 9) (fun _ _ => rfl)) pe_int (nomark _)) (pss_cons (ps_set (i := 10) sc_law.nd rfl (by first | exact Or.inl rfl | exact Or.inr rfl) (pp (pm (pv 3) cl_Ring M_Ring_with_days hr (pa_cons (pv 9) (pa_cons (pe_op op_sub (pe_ix ix_tup (pe_ix ix_tup (pv 2) pe_int (fun _ _ => rfl)) (pv 9) (fun _ _ => rfl)) pe_int) pa_nil))) cl_Ring Q_Ring_pace hr))
          (pss_one (ps_if (pt_cmpR op_lt (pe_op op_mul (pe_ix ix_tup (pv 10) pe_int (fun _ _ => rfl)) (pe_ix ix_tup (pp (pv 3) cl_Ring Q_Ring_pace hr) pe_int (fun _ _ => rfl))) (pe_op op_mul (pe_ix ix_tup (pp (pv 3) cl_Ring Q_Ring_pace hr) pe_int (fun _ _ => rfl)) (pe_ix ix_tup (pv 10) pe_int (fun _ _ => rfl))) (nomark _)) (pss_one (ps_expr (pe_bm PySem.F.plainAttrs_list PySem.F.slot_list_append PySem.F.type_list_append mt_append (pv 8) (pa_cons (pv 9) pa_nil)))) pss_nil))) pss_nil)
          (pss_cons (ps_set (i := 11) sc_law.nd rfl (by first | exact Or.inl rfl | exact Or.inr rfl) (pg D_slowest_days hr (pa_cons (pv 3) (pa_cons (pv 9) pa_nil))))
          (pss_cons (ps_if (pt_cmpR (op_neD hr.units) (pp (pm (pv 3) cl_Ring M_Ring_with_days hr (pa_cons (pv 9) (pa_cons (pv 11) pa_nil))) cl_Ring Q_Ring_pace hr) (pp (pv 3) cl_Ring Q_Ring_pace hr) (nomark _)) (pss_one (ps_ret pe_bl)) pss_nil)
          (pss_one (ps_if (PW.pt (pw_and (pt_cmpR op_lt (pv 11) pe_int (nomark _)) (pw_and1 (pt_cmpR (op_eqD hr.units) (pp (pm (pv 3) cl_Ring M_Ring_with_days hr (pa_cons (pv 9) (pa_cons (pe_op op_add (pv 11) pe_int) pa_nil))) cl_Ring Q_Ring_pace hr) (pp (pv 3) cl_Ring Q_Ring_pace hr) (nomark _))))) (pss_one (ps_ret pe_bl)) pss_nil))))))
      (pss_one (ps_ret (pe_and (pe_cmpR (op_eqD hr.units) (pg D_helpful_readers hr (pa_cons (pv 3) pa_nil)) (pv 8) (nomark _)) (pe_one (pe_cmpR op_eq (pg D_fewest_days_less hr (pa_cons (pv 3) (pa_cons (pe_ix ix_tup (pp (pv 3) cl_Ring Q_Ring_pace hr) pe_int (fun _ _ => rfl)) (pa_cons (pe_ix ix_tup (pp (pv 3) cl_Ring Q_Ring_pace hr) pe_int (fun _ _ => rfl)) pa_nil)))) pe_int (nomark _)))))))))))))))))))), ?_⟩
    walk_at "g0"
    walk_at "go"
    rename_i d H1 nd e1 hd
    refine ⟨d, 8, rfl, ⟨sc, ns, 0, 0, 0, hd, hsc.ex e1, hns, by decide, by decide, by decide⟩, by decide, fun p a b ds hs H2 np e2 D2 hp ta tb O hlm => ?_⟩
    have sa := ta.sq (K := K)
    have sb := tb.sq (K := K)
    walk_at "go"
    refine g_mkRing sa sb O fun r H3 nr e3 RI => ?_
    have hrefl : paceN ds hs.sum = paceN ds hs.sum := rfl
    have h2 := O.two
    have h8 := O.eight
    have o1 := O.one
    have o2 := O.twelve
    walk_at "go"
    rename_i p4 H4 np4 e4 hp4
    refine ⟨r, a, b, ds, hs, rfl, RI.ex e4, (ta.ex e3).ex e4, fun l H5 rs nl e5 hl hPR => ?_⟩
    have RI5 := (RI.ex e4).ex e5
    walk_at "go"
    refine ⟨r, a, b, l, ds, hs, rs, rfl, RI5, SqL.of hl, hPR.shows h2, fun p6 H6 e6 s6 => ?_⟩
    rw [hPR.shown h2] at s6
    have RI6 := RI5.ex e6
    walk_at "go"
    rename_i p7 H7 e7 s7
    refine g_neP (ex_t e7 s6) s7 ?_
    have RI7 := RI6.ex e7
    walk_at "go"
    refine ⟨r, a, b, ds, hs, hs.sum, rfl, RI7, ⟨by omega, by omega⟩, fun p8 H8 e8 s8 => ?_⟩
    have RI8 := RI7.ex e8
    walk_at "go"
    rename_i p9 H9 e9 s9
    refine g_neP (ex_t e9 s8) s9 ?_
    have RI9 := RI8.ex e9
    walk_at "go"
    refine g_kLcR1 ⟨by omega, by omega⟩ (fun A i H' => ∃ ps : List Addr, Ex H9 H' ∧ H' A = some (.lst (ps.map V.ref)) ∧ ps.length = i ∧ ∀ (k : Nat) (p : Addr), ps[k]? = some p → SqT K H' p [.int (ds.getD k 0), .int 1]) (fun A H10 nA e10 hA => ⟨[], e10, hA, rfl, fun k p h => by cases h⟩) ?_ ?_
    · rintro A i H10 nA hi ⟨ps, e10, hA, rfl, hps⟩
      have RI10 := RI9.ex e10
      walk_at "go"
      rename_i l2 H11 nl2 e11 hl2
      refine ⟨r, a, b, l2, ds, hs, [(ps.length : Int)], rfl, RI10.ex e11, SqL.of hl2, shows_one (by omega), fun p12 H12 e12 s12 => ?_⟩
      rw [shown_one] at s12
      refine g_kLcE (e12 _ _ (e11 _ _ hA)) (by rw [List.length_map]; exact lt1000 (by omega)) fun H13 e13 hA13 => ⟨ps ++ [p12], Exb.ex nA ((e10.trans e11).trans e12) e13, by rw [hA13, List.map_append]; rfl, by rw [List.length_append]; rfl, fun k p h => ?_⟩
      have hA12 := e12 _ _ (e11 _ _ hA)
      by_cases hk : k < ps.length
      · rw [List.getElem?_append_left hk] at h
        exact exb_t e13 hA12 (ex_t e12 (ex_t e11 (hps k p h)))
      · rw [List.getElem?_append_right (by omega)] at h
        have hkl : k = ps.length := by
          have := (List.getElem?_eq_some_iff.mp h).1
          simp only [List.length_cons, List.length_nil] at this
          omega
        subst hkl
        rw [Nat.sub_self] at h
        cases h
        exact exb_t e13 hA12 s12
    · rintro A H10 nA ⟨ps, e10, hA, hpl, hps⟩
      have RI10 := RI9.ex e10
      walk_at "go"
      rename_i l2 H11 nl2 e11 hl2
      rw [upto_map] at hl2
      refine ⟨r, a, b, l2, ds, hs, upto ds.length, rfl, RI10.ex e11, SqL.of hl2, shows_all, fun p12 H12 e12 s12 => ?_⟩
      rw [shown_all h2] at s12
      walk_at "go"
      rename_i l3 H13 nl3 e13 hl3 p14 H14 np14 e14 hp14
      have RI14 := ((((RI10.ex e11).ex e12).ex e13).ex e14)
      have e1014 := ((e11.trans e12).trans e13).trans e14
      have bl := low_bd (a := ds.sum) (b := hs.sum) (by have := O.days.sum; omega) (by omega)
      have bs := O.days.sum
      have bp := pace_bd O.days o1
      have item : ∀ (i : Nat) (v : V), (ps.map V.ref ++ [V.ref p12])[i]? = some v → ∃ (p : Addr) (x y : Int), v = .ref p ∧ SqT K H14 p [.int x, .int y] ∧ (0 ≤ x ∧ x ≤ 240 ∧ 0 ≤ y ∧ y ≤ 12) ∧ (crossN ds hs.sum)[i]? = some (x * (paceN ds hs.sum).2 - (paceN ds hs.sum).1 * y) := by
        intro i v h
        by_cases hk : i < ps.length
        · rw [List.getElem?_append_left (by rw [List.length_map]; exact hk), List.getElem?_map, List.getElem?_eq_getElem hk] at h
          cases h
          have hd := O.dd _ (List.getElem_mem (l := ds) (n := i) (by omega))
          have hg : ds.getD i 0 = ds[i] := by simp [List.getD, List.getElem?_eq_getElem (l := ds) (i := i) (by omega)]
          refine ⟨ps[i], ds.getD i 0, 1, rfl, ex_t e1014 (hps i _ (List.getElem?_eq_getElem hk)), ⟨by omega, by omega, by omega, by omega⟩, ?_⟩
          unfold crossN
          rw [List.getElem?_append_left (by rw [List.length_map, List.length_range]; omega), List.getElem?_map, List.getElem?_range (by omega)]
          rfl
        · rw [List.getElem?_append_right (by rw [List.length_map]; omega), List.length_map] at h
          have hkl : i = ps.length := by
            have := (List.getElem?_eq_some_iff.mp h).1
            simp only [List.length_cons, List.length_nil] at this
            omega
          subst hkl
          rw [Nat.sub_self] at h
          cases h
          refine ⟨p12, _, _, rfl, ex_t e14 (ex_t e13 s12), ⟨by omega, by omega, by omega, by omega⟩, ?_⟩
          unfold crossN
          rw [List.getElem?_append_right (by rw [List.length_map, List.length_range]; omega), List.length_map, List.length_range, show ps.length - ds.length = 0 by omega]
          rfl
      refine g_kLcL (SqL.of hp14) (fun A i H' => Ex H14 H' ∧ H' A = some (.lst (((crossN ds hs.sum).take i).map V.int))) (fun A H15 nA e15 hA => ⟨e15, hA⟩) (fun A i H15 _ _ h => ex_l h.1 (SqL.of hp14)) ?_ ?_
      · rintro A i v H15 nA hv ⟨e15, hA⟩
        obtain ⟨p, x, y, rfl, sx, ⟨x1, x2, y1, y2⟩, hc⟩ := item i v hv
        have RI15 := RI14.ex e15
        have sx15 := ex_t e15 sx
        walk_at "go"
        rename_i p16 H16 e16 s16 p17 H17 e17 s17
        refine g_kLcE (e17 _ _ (e16 _ _ hA)) (by rw [List.length_map, List.length_take]; refine lt1000 ?_; unfold crossN; rw [List.length_append, List.length_map, List.length_range]; simp; omega) fun H18 e18 hA18 => ⟨Exb.ex nA ((e15.trans e16).trans e17) e18, ?_⟩
        rw [hA18, map_app, List.take_add_one, hc]
        rfl
      · rintro A H15 nA ⟨e15, hA⟩
        rw [List.take_of_length_le (by unfold crossN; rw [List.length_append, List.length_append, List.length_map, List.length_map, List.length_range]; simp; omega)] at hA
        have RI15 := RI14.ex e15
        have hcn : crossN ds hs.sum ≠ [] := by unfold crossN; simp
        have hc0 := crossN_mx O.days o1
        walk_at "go"
        have fb := few_bd O.days
        have h1000 := best_pace O.days
        have hfb : paceN ds (fewN ds) = paceN ds 1000 := by rw [few_pace O.days, h1000]
        refine ⟨r, a, b, ds, hs, rfl, RI15, fun H16 e16 => ?_⟩
        have RI16 := RI15.ex e16
        walk_at "go"
        refine ⟨r, a, b, ds, hs, 1000, rfl, RI16, by decide, fun p17 H17 e17 s17 => ?_⟩
        have RI17 := RI16.ex e17
        walk_at "go"
        refine ⟨r, a, b, ds, hs, fewN ds, rfl, RI17, ⟨by omega, by omega⟩, fun p18 H18 e18 s18 => ?_⟩
        have RI18 := RI17.ex e18
        have s17' := ex_t e18 s17
        walk_at "go"
        refine g_neP s18 s17' ?_
        have e418 : Ex H4 H18 := (((((((((e5.trans e6).trans e7).trans e8).trans e9).trans e10).trans e1014).trans e15).trans e16).trans e17).trans e18
        have ta18 := ((ta.ex e3).ex e4).ex e418
        walk_at "go"
        refine g_kAndN (fun H19 e19 => ?_) (fun hf rest => ?_)
        · have RI19 := RI18.ex e19
          have s17'' := ex_t e19 s17'
          have hp19 : H19 p = some (.tup [.ref a, .ref b]) := e19 _ _ (e418 _ _ (e4 _ _ (e3 _ _ hp)))
          have sa19 := (ta18.ex e19).sq (K := K)
          have hne := O.days.ne
          walk_at "go"
          rename_i p20 H20 np20 e20 hp20
          have hp20' : SqT K H20 p20 (PaceV ds 1000) := by
            refine SqT.of ?_
            rw [hp20]
            unfold PaceV
            rw [h1000]
          refine g_neP (ex_t e20 s17'') hp20' ?_
          have hrf2 : paceN ds 1000 = paceN ds 1000 := rfl
          have RI20 := RI19.ex e20
          have hp20p := e20 _ _ hp19
          have sa20 := ex_t e20 sa19
          walk_at "go"
          rename_i l H21 nl e21 hl
          have RI21 := RI20.ex e21
          have hp21 := e21 _ _ hp20p
          have sa21 := ex_t e21 sa20
          refine g_kForR1 ⟨by omega, by omega⟩ (Pv56 H20 sc d p r p14 p17 l ds hs) ⟨none, none, none, none, rfl, e21, hl⟩ ?_ ?_
          · rintro i σ H22 hi ⟨v9, v10, v11, v12, rfl, e22, hl22⟩
            have hil : i < ds.length := by omega
            have hx : (ds.map V.int)[i]? = some (.int ds[i]) := by rw [List.getElem?_map, List.getElem?_eq_getElem hil]; rfl
            have hb := O.dd ds[i] (List.getElem_mem hil)
            have hgd : ds.getD i 0 = ds[i] := by simp [List.getD, List.getElem?_eq_getElem hil]
            have hp22 := e22 _ _ hp20p
            have sa22 := ex_t e22 sa20
            have RI22 := RI20.ex e22
            have bp2 := pace_bd O.days o1
            walk_at "go"
            generalize hR : (tSeq (tAsg (tCall (sp_slowest K C) _ _ _) _) _ : TS) = R
            have wh : ∀ (D : Ends) (H23 : Hp) (u10 : Option V), (∀ σ H', Pv56 H20 sc d p r p14 p17 l ds hs (i + 1) σ H' → D.nx σ H') → Ex H20 H23 → H23 l = some (.lst ((helpN ds hs.sum (i + 1)).map V.int)) →
                R D [some (.ref sc), some (.ref d), some (.ref p), some (.ref r), some (.int (ds.length : Int)), some (.ref p14), some (.int (fewN ds)), some (.ref p17), some (.ref l), some (.int (i : Int)), u10, v11, v12] H23 := by
              subst hR
              intro D H23 u10 hD e23 hl23
              have RI23 := RI20.ex e23
              walk_at "go"
              refine ⟨r, a, b, ds, hs, i, rfl, RI23, hil, fun n H24 e24 n1 n2 same less => ?_⟩
              rw [hgd] at n1
              have RI24 := RI23.ex e24
              walk_at "go"
              refine ⟨r, a, b, ds, hs, i, n, rfl, RI24, hil, ⟨by omega, by omega⟩, fun r2 a2 H25 _ e25 R25 => ?_⟩
              have RI25 := RI24.ex e25
              walk_at "go"
              rename_i p26 H26 e26 s26 p27 H27 e27 s27
              refine g_neP (ex_t e27 s26) s27 ?_
              have RI27 := RI25.ex (e26.trans e27)
              have same2 : paceN (ds.set i n) hs.sum = paceN ds hs.sum := same
              have e2127 := (((e23.trans e24).trans e25).trans e26).trans e27
              have hl27 : H27 l = some (.lst ((helpN ds hs.sum (i + 1)).map V.int)) := e27 _ _ (e26 _ _ (e25 _ _ (e24 _ _ hl23)))
              walk_at "go"
              refine g_kAndN (fun H28 e28 => ?_) (fun hf rest => ?_)
              · walk_at "go"
                exact hD _ _ ⟨_, _, _, _, rfl, e2127.trans e28, e28 _ _ hl27⟩
              · have hf := of_decide_eq_true hf
                have less2 : ¬ paceN (ds.set i (n + 1)) hs.sum = paceN ds hs.sum := less hf
                walk_at "go"
                refine ⟨r, a, b, ds, hs, i, n + 1, rfl, RI27, hil, ⟨by omega, by omega⟩, fun r3 a3 H28 _ e28 R28 => ?_⟩
                have RI28 := RI27.ex e28
                walk_at "go"
                rename_i p29 H29 e29 s29 p30 H30 e30 s30
                refine g_eqP (ex_t e30 s29) s30 ?_
                refine g_kTest ?_
                rw [decide_eq_false less2]
                exact rest _ ((e28.trans e29).trans e30)
            refine g_kIfS (fun hc => ?_) (fun hc => ?_)
            · have hc := of_decide_eq_true hc
              have hd2 : DaysOk (ds.set i (ds[i] - 1)) := O.days.set i ⟨by omega, by omega⟩
              have bp3 := pace_bd hd2 (B := hs.sum) (by omega)
              walk_at "go"
              refine ⟨r, a, b, ds, hs, i, ds[i] - 1, rfl, RI22, hil, ⟨by omega, by omega⟩, fun r2 a2 H23 _ e23 R23 => ?_⟩
              have RI23 := RI22.ex e23
              walk_at "go"
              rename_i p24 H24 e24 s24 p25 H25 e25 s25 p26 H26 e26 s26
              have e2226 := ((e23.trans e24).trans e25).trans e26
              have hl26 := e2226 _ _ hl22
              refine g_kIfS (fun hh => ?_) (fun hh => ?_)
              · have hh : helps ds hs.sum i = true := by
                  unfold helps
                  rw [hgd, decide_eq_true hc, Bool.true_and]
                  exact hh
                walk_at "go"
                refine g_kBM_list (SqL.of hl26) ?_
                walk_at "go"
                refine g_append hl26 (by rw [List.length_map]; exact lt1000 (by have := helpN_len ds hs.sum i; omega)) fun H27 e27 hl27 => ?_
                walk_at "go"
                refine wh _ H27 _ (fun σ H' h => h) (Exb.ex nl (e22.trans e2226) e27) ?_
                rw [hl27, helpN_yes hh, List.map_append]
                rfl
              · have hh : helps ds hs.sum i = false := by
                  unfold helps
                  rw [hgd, decide_eq_true hc, Bool.true_and]
                  exact hh
                walk_at "go"
                refine wh _ H26 _ (fun σ H' h => h) (e22.trans e2226) ?_
                rw [hl26, helpN_no hh]
            · have hc := of_decide_eq_false hc
              walk_at "go"
              refine wh _ H22 _ (fun σ H' h => h) e22 ?_
              rw [hl22, helpN_no]
              unfold helps
              rw [hgd, decide_eq_false hc, Bool.false_and]
          · rintro σ H22 ⟨v9, v10, v11, v12, rfl, e22, hl22⟩
            have RI22 := RI20.ex e22
            walk_at "go"
            have bp2 := pace_bd O.days o1
            have hl0 := less_none O.days o1
            refine ⟨r, a, b, ds, hs, rfl, RI22, fun p23 H23 n23 e23 h23 => ?_⟩
            have RI23 := RI22.ex e23
            walk_at "go"
            refine g_eqLI (SqL.of h23) (SqL.of (e23 _ _ hl22)) ?_
            have ehh : helpN ds hs.sum ds.length = helpN ds hs.sum (ds.length : Int).toNat := by rw [Int.toNat_natCast]
            walk_at "go"
            rename_i p24 H24 e24 s24 p25 H25 e25 s25
            refine ⟨r, a, b, ds, hs, _, _, rfl, (RI23.ex e24).ex e25, ⟨⟨by omega, by omega⟩, ⟨by omega, by omega⟩⟩, fun H26 e26 => ?_⟩
            rw [hl0]
            show tC (V.int 0) _ H26 _
            walk_at "go"
            refine g_eqI (p := 0) (k := 0) ?_
            exact q _
        · have hf := of_decide_eq_true hf
          have hfl := few_less O.days hf
          rw [← h1000] at hfl
          walk_at "go"
          refine ⟨r, a, b, ds, hs, fewN ds - 1, rfl, RI18, ⟨by omega, by omega⟩, fun p19 H19 e19 s19 => ?_⟩
          walk_at "go"
          refine g_eqP s19 (ex_t e19 s17') ?_
          refine g_kTest ?_
          rw [decide_eq_false hfl]
          exact rest H19 e19
end
end G48

namespace G48
open PySem PySem.Spec PyProof.Rows L2 Evl
def gd (x : Str) (st : Stmt) : He5.DefA := ⟨fun K => He.ga K x, x, x, defArgs st, defBody st, defScope st, [], []⟩
def md (C x q : Str) (st : Stmt) : He5.DefA := ⟨fun K => He.ma K (He.ga K C) x, x, q, defArgs st, defBody st, defScope st, [], []⟩
def prd (C x q : Str) (st : Stmt) : He5.DefA := ⟨fun K => Gp.pga K (He.ga K C) x, x, q, defArgs st, defBody st, defScope st, [], []⟩
def fnL : List He5.DefA := [gd "is_integer" s_is_integer, gd "check_number" s_check_number, gd "check_days" s_check_days, gd "check_starts" s_check_starts, gd "lowest_terms" s_lowest_terms, gd "pace_of" s_pace_of, md "Ring" "__init__" "Ring.__init__" s_Ring___init__, prd "Ring" "books" "Ring.books" s_Ring_books, prd "Ring" "pace" "Ring.pace" s_Ring_pace, md "Ring" "__len__" "Ring.__len__" s_Ring___len__, md "Ring" "need_reader" "Ring.need_reader" s_Ring_need_reader, md "Ring" "with_days" "Ring.with_days" s_Ring_with_days, gd "pace_readers" s_pace_readers, gd "judge_pace" s_judge_pace, gd "is_less" s_is_less, gd "pace_with" s_pace_with, gd "fewest_books" s_fewest_books, gd "helpful_readers" s_helpful_readers, gd "slowest_days" s_slowest_days, gd "fewest_days_less" s_fewest_days_less, gd "_law_taken" s__law_taken, gd "_law_parts" s__law_parts, gd "law" s_law]
def fasL : List Gp.FB := [fun K => (He.Fa.free "len").ok K,
  fun K => (He.Fa.free "isinstance").ok K,
  fun K => (He.Fa.free "int").ok K,
  fun K => (He.Fa.free "bool").ok K,
  fun K => (He.Fa.free "tuple").ok K,
  fun K => (He.Fa.free "list").ok K,
  fun K => (He.Fa.free "max").ok K,
  fun K => (He.Fa.free "min").ok K,
  fun K => (He.Fa.free "sum").ok K,
  fun K => (He.Fa.free "range").ok K,
  fun K => (He.Fa.free "enumerate").ok K,
  fun K => (He.Fa.free "zip").ok K,
  fun K => (He.Fa.free "all").ok K,
  fun K => (He.Fa.free "any").ok K,
  fun K => (He.Fa.free "sorted").ok K,
  fun K => (He.Fa.free "str").ok K,
  fun K => (He.Fa.free "set").ok K,
  fun K => (He.Fa.free "abs").ok K,
  fun K => (He.Fa.free "divmod").ok K,
  fun K => (He.Fa.free "bytes").ok K,
  fun K => (He.Fa.free "dict").ok K,
  fun K => (He.Fa.free "ValueError").ok K,
  fun K => (He.Fa.glo "is_integer").ok K,
  fun K => (He.Fa.glo "check_number").ok K,
  fun K => (He.Fa.glo "check_days").ok K,
  fun K => (He.Fa.glo "check_starts").ok K,
  fun K => (He.Fa.glo "lowest_terms").ok K,
  fun K => (He.Fa.glo "pace_of").ok K,
  fun K => (He.Fa.mkr "Ring").ok K,
  fun K => (He.Fa.glo "Ring").ok K,
  fun K => Gp.ppB K (He.ga K "Ring") "books",
  fun K => Gp.ppB K (He.ga K "Ring") "pace",
  fun K => (He.Fa.meth "Ring" "__len__").ok K,
  fun K => (He.Fa.meth "Ring" "need_reader").ok K,
  fun K => (He.Fa.meth "Ring" "with_days").ok K,
  fun K => (He.Fa.glo "pace_readers").ok K,
  fun K => (He.Fa.glo "judge_pace").ok K,
  fun K => (He.Fa.glo "is_less").ok K,
  fun K => (He.Fa.glo "pace_with").ok K,
  fun K => (He.Fa.glo "fewest_books").ok K,
  fun K => (He.Fa.glo "helpful_readers").ok K,
  fun K => (He.Fa.glo "slowest_days").ok K,
  fun K => (He.Fa.glo "fewest_days_less").ok K,
  fun K => (He.Fa.glo "_law_taken").ok K,
  fun K => (He.Fa.glo "_law_parts").ok K,
  fun K => (He.Fa.glo "law").ok K,
  fun K => (He.Fa.cls "Ring").ok K,
  fun K => (He.Fa.noat "Ring" "spans").ok K,
  fun K => (He.Fa.noat "Ring" "heaps").ok K,
  fun K => (He.Fa.noat "Ring" "total").ok K,
  fun K => (He.Fa.int "MAX_READERS" 8).ok K,
  fun K => (He.Fa.int "MAX_DAYS" 30).ok K,
  fun K => (He.Fa.int "MAX_BOOKS" 12).ok K,
  fun K => (He.Fa.int "MAX_TRIED" 1000).ok K]
abbrev RW := PySem.Challenge.rw_readingring_k56_whole_the_pace_with_evid
abbrev hk : PySem.W.Hook := Gp.hookP 6 fasL fnL
def ob (s : PySem.W.SharedT) : He.AlD := Gp.obsPG 6 fasL fnL (HandSHeadRun.getT s)
theorem ob_eq (s : PySem.W.SharedT) : ob s = hk.obs s.abs := Gp.obsPG_eq (HandSHeadRun.getT_eq s)
abbrev RR : PySem.W.OpenRow := PySem.W.OpenLaw.row RW
def loose : List Str := ["_wall", "ReadingError", "InvalidRing", "UnknownReader", "InvalidNumber", "InvalidChain", "MAX_READERS", "MAX_DAYS", "MAX_BOOKS", "MAX_NUMBER", "is_integer", "check_number", "check_days", "check_starts", "lowest_terms", "pace_of", "Ring", "Course", "pace_readers", "judge_pace", "MAX_TRIED", "is_less", "pace_with", "fewest_books", "helpful_readers", "slowest_days", "fewest_days_less", "_law_taken", "_law_parts"]
set_option maxHeartbeats 0 in
theorem run (w : World) : HandSHeadRun.RunEq RR (PySem.W.view RR.prog [34]) hk ob 4000 loose w := by
  intro os
  kernel_rfl
theorem facts {P : Program} {w : World} {K : PySem.W.Frag} {h : Heap} {mg : Str → Option Value} {f : Addr} (X : K.In h) (G : h.Ns mainGlobals mg) (hfa : mg ("law" : Str) = some (.ref f)) (c : Gp.SaysP fasL fnL K) :
    ∃ fd : FuncData, (∀ (s : Shared) (v : Value), BindsTo s fd ⟨[v], []⟩ [("_law_script", v)]) ∧ ∀ base : Heap, FnOk P w K mg base CX0 8 f fd ["_law_script"] (sp_law K) := by
  obtain ⟨fd, FL⟩ := c.def_ 22 (d := gd "law" s_law)
  have e := hfa.symm.trans (He.glo_ok X G (c.fact 45))
  cases e
  refine ⟨fd, fun s v => FunD.bindsA FL b_law s [v] rfl, fun base => ?_⟩
  have Z : Blt mg := ⟨He.free_ok X G (c.fact 0), He.free_ok X G (c.fact 1), He.free_ok X G (c.fact 2), He.free_ok X G (c.fact 3), He.free_ok X G (c.fact 4), He.free_ok X G (c.fact 5), He.free_ok X G (c.fact 6), He.free_ok X G (c.fact 7), He.free_ok X G (c.fact 8), He.free_ok X G (c.fact 9), He.free_ok X G (c.fact 10), He.free_ok X G (c.fact 11), He.free_ok X G (c.fact 12), He.free_ok X G (c.fact 13), He.free_ok X G (c.fact 14), He.free_ok X G (c.fact 15), He.free_ok X G (c.fact 16), He.free_ok X G (c.fact 17), He.free_ok X G (c.fact 18), He.free_ok X G (c.fact 19), He.free_ok X G (c.fact 20), He.free_ok X G (c.fact 21)⟩
  have G_is_integer : GFun K mg "is_integer" s_is_integer := let ⟨fd, F⟩ := c.def_ 0 (d := gd "is_integer" s_is_integer); ⟨_, fd, He.glo_ok X G (c.fact 22), Fun_ofD F⟩
  have G_check_number : GFun K mg "check_number" s_check_number := let ⟨fd, F⟩ := c.def_ 1 (d := gd "check_number" s_check_number); ⟨_, fd, He.glo_ok X G (c.fact 23), Fun_ofD F⟩
  have G_check_days : GFun K mg "check_days" s_check_days := let ⟨fd, F⟩ := c.def_ 2 (d := gd "check_days" s_check_days); ⟨_, fd, He.glo_ok X G (c.fact 24), Fun_ofD F⟩
  have G_check_starts : GFun K mg "check_starts" s_check_starts := let ⟨fd, F⟩ := c.def_ 3 (d := gd "check_starts" s_check_starts); ⟨_, fd, He.glo_ok X G (c.fact 25), Fun_ofD F⟩
  have G_lowest_terms : GFun K mg "lowest_terms" s_lowest_terms := let ⟨fd, F⟩ := c.def_ 4 (d := gd "lowest_terms" s_lowest_terms); ⟨_, fd, He.glo_ok X G (c.fact 26), Fun_ofD F⟩
  have G_pace_of : GFun K mg "pace_of" s_pace_of := let ⟨fd, F⟩ := c.def_ 5 (d := gd "pace_of" s_pace_of); ⟨_, fd, He.glo_ok X G (c.fact 27), Fun_ofD F⟩
  have G_Ring___init__ : IFun K mg "Ring" (He.ga K "Ring") "Ring.__init__" s_Ring___init__ := let ⟨fd, F⟩ := c.def_ 6 (d := md "Ring" "__init__" "Ring.__init__" s_Ring___init__); ⟨_, fd, He.mkr_ok (c.fact 28), He.glo_ok X G (c.fact 29), Fun_ofD F⟩
  have G_Ring_books : PFun K (He.ga K "Ring") "books" "Ring.books" s_Ring_books := let ⟨fd, F⟩ := c.def_ 7 (d := prd "Ring" "books" "Ring.books" s_Ring_books); let ⟨pA, hp⟩ := Gp.pp_ok (c.fact 30); ⟨pA, _, fd, hp, Fun_ofD F⟩
  have G_Ring_pace : PFun K (He.ga K "Ring") "pace" "Ring.pace" s_Ring_pace := let ⟨fd, F⟩ := c.def_ 8 (d := prd "Ring" "pace" "Ring.pace" s_Ring_pace); let ⟨pA, hp⟩ := Gp.pp_ok (c.fact 31); ⟨pA, _, fd, hp, Fun_ofD F⟩
  have G_Ring___len__ : CFun K (He.ga K "Ring") "__len__" "Ring.__len__" s_Ring___len__ := let ⟨fd, F⟩ := c.def_ 9 (d := md "Ring" "__len__" "Ring.__len__" s_Ring___len__); ⟨_, fd, He.meth_ok (c.fact 32), Fun_ofD F⟩
  have G_Ring_need_reader : CFun K (He.ga K "Ring") "need_reader" "Ring.need_reader" s_Ring_need_reader := let ⟨fd, F⟩ := c.def_ 10 (d := md "Ring" "need_reader" "Ring.need_reader" s_Ring_need_reader); ⟨_, fd, He.meth_ok (c.fact 33), Fun_ofD F⟩
  have G_Ring_with_days : CFun K (He.ga K "Ring") "with_days" "Ring.with_days" s_Ring_with_days := let ⟨fd, F⟩ := c.def_ 11 (d := md "Ring" "with_days" "Ring.with_days" s_Ring_with_days); ⟨_, fd, He.meth_ok (c.fact 34), Fun_ofD F⟩
  have G_pace_readers : GFun K mg "pace_readers" s_pace_readers := let ⟨fd, F⟩ := c.def_ 12 (d := gd "pace_readers" s_pace_readers); ⟨_, fd, He.glo_ok X G (c.fact 35), Fun_ofD F⟩
  have G_judge_pace : GFun K mg "judge_pace" s_judge_pace := let ⟨fd, F⟩ := c.def_ 13 (d := gd "judge_pace" s_judge_pace); ⟨_, fd, He.glo_ok X G (c.fact 36), Fun_ofD F⟩
  have G_is_less : GFun K mg "is_less" s_is_less := let ⟨fd, F⟩ := c.def_ 14 (d := gd "is_less" s_is_less); ⟨_, fd, He.glo_ok X G (c.fact 37), Fun_ofD F⟩
  have G_pace_with : GFun K mg "pace_with" s_pace_with := let ⟨fd, F⟩ := c.def_ 15 (d := gd "pace_with" s_pace_with); ⟨_, fd, He.glo_ok X G (c.fact 38), Fun_ofD F⟩
  have G_fewest_books : GFun K mg "fewest_books" s_fewest_books := let ⟨fd, F⟩ := c.def_ 16 (d := gd "fewest_books" s_fewest_books); ⟨_, fd, He.glo_ok X G (c.fact 39), Fun_ofD F⟩
  have G_helpful_readers : GFun K mg "helpful_readers" s_helpful_readers := let ⟨fd, F⟩ := c.def_ 17 (d := gd "helpful_readers" s_helpful_readers); ⟨_, fd, He.glo_ok X G (c.fact 40), Fun_ofD F⟩
  have G_slowest_days : GFun K mg "slowest_days" s_slowest_days := let ⟨fd, F⟩ := c.def_ 18 (d := gd "slowest_days" s_slowest_days); ⟨_, fd, He.glo_ok X G (c.fact 41), Fun_ofD F⟩
  have G_fewest_days_less : GFun K mg "fewest_days_less" s_fewest_days_less := let ⟨fd, F⟩ := c.def_ 19 (d := gd "fewest_days_less" s_fewest_days_less); ⟨_, fd, He.glo_ok X G (c.fact 42), Fun_ofD F⟩
  have G__law_taken : GFun K mg "_law_taken" s__law_taken := let ⟨fd, F⟩ := c.def_ 20 (d := gd "_law_taken" s__law_taken); ⟨_, fd, He.glo_ok X G (c.fact 43), Fun_ofD F⟩
  have G__law_parts : GFun K mg "_law_parts" s__law_parts := let ⟨fd, F⟩ := c.def_ 21 (d := gd "_law_parts" s__law_parts); ⟨_, fd, He.glo_ok X G (c.fact 44), Fun_ofD F⟩
  have R : RingC K (He.ga K "Ring") := ⟨He.cls_ok (c.fact 46), He.noat_ok (c.fact 47), He.noat_ok (c.fact 48), He.noat_ok (c.fact 49)⟩
  have c_MAX_READERS : ∃ t, mg "MAX_READERS" = some (.int 8 t) := He.int_ok X G (c.fact 50)
  have c_MAX_DAYS : ∃ t, mg "MAX_DAYS" = some (.int 30 t) := He.int_ok X G (c.fact 51)
  have c_MAX_BOOKS : ∃ t, mg "MAX_BOOKS" = some (.int 12 t) := He.int_ok X G (c.fact 52)
  have c_MAX_TRIED : ∃ t, mg "MAX_TRIED" = some (.int 1000 t) := He.int_ok X G (c.fact 53)
  have D_is_integer := ok_is_integer (P := P) (w := w) (base := base) Z G_is_integer
  have D_check_number := ok_check_number (P := P) (w := w) (base := base) Z D_is_integer G_check_number
  have D_check_days := ok_check_days (P := P) (w := w) (base := base) Z c_MAX_READERS c_MAX_DAYS D_is_integer G_check_days
  have D_check_starts := ok_check_starts (P := P) (w := w) (base := base) Z c_MAX_BOOKS D_is_integer G_check_starts
  have D_lowest_terms := ok_lowest_terms (P := P) (w := w) (base := base) Z G_lowest_terms
  have D_pace_of := ok_pace_of (P := P) (w := w) (base := base) Z D_lowest_terms G_pace_of
  have I_Ring := ok_Ring_init (P := P) (w := w) (base := base) Z R D_check_days D_check_starts G_Ring___init__
  have Q_Ring_books := ok_Ring_books (P := P) (w := w) (base := base) Z R G_Ring_books
  have Q_Ring_pace := ok_Ring_pace (P := P) (w := w) (base := base) Z R D_pace_of G_Ring_pace
  have M_Ring___len__ := ok_Ring_len (P := P) (w := w) (base := base) Z R G_Ring___len__
  have M_Ring_need_reader := ok_Ring_need (P := P) (w := w) (base := base) Z R D_is_integer G_Ring_need_reader
  have M_Ring_with_days := ok_Ring_with (P := P) (w := w) (base := base) Z R M_Ring_need_reader I_Ring G_Ring_with_days
  have D_pace_readers := ok_pace_readers (P := P) (w := w) (base := base) Z R Q_Ring_books M_Ring___len__ G_pace_readers
  have D_judge_pace := ok_judge_pace (P := P) (w := w) (base := base) Z R D_is_integer D_lowest_terms Q_Ring_books M_Ring___len__ G_judge_pace
  have D_is_less := ok_is_less (P := P) (w := w) (base := base) Z G_is_less
  have D_pace_with := ok_pace_with (P := P) (w := w) (base := base) Z R c_MAX_TRIED D_check_number D_pace_of G_pace_with
  have D_fewest_books := ok_fewest_books (P := P) (w := w) (base := base) Z R G_fewest_books
  have D_helpful_readers := ok_helpful (P := P) (w := w) (base := base) Z R D_is_less D_pace_of Q_Ring_books Q_Ring_pace G_helpful_readers
  have D_slowest_days := ok_slowest (P := P) (w := w) (base := base) Z R c_MAX_DAYS M_Ring_need_reader M_Ring_with_days Q_Ring_pace G_slowest_days
  have D_fewest_days_less := ok_fewest_less (P := P) (w := w) (base := base) Z R c_MAX_TRIED D_check_number Q_Ring_books M_Ring___len__ G_fewest_days_less
  have D__law_taken := ok_taken (P := P) (w := w) (base := base) Z G__law_taken
  have D__law_parts := ok_parts (P := P) (w := w) (base := base) Z D__law_taken G__law_parts
  exact Fun.ok (Fun_ofD FL) sc_law (fun vs H Q E h => sp_law_len h) (bd_law (P := P) (w := w) (base := base) Z R D__law_parts I_Ring D_judge_pace D_pace_readers D_pace_with D_fewest_books D_helpful_readers D_slowest_days D_fewest_days_less M_Ring_with_days Q_Ring_pace Q_Ring_books _)
end G48
open PySem PySem.W PySem.Calls PyProof.Rows
theorem PySem.Challenge.cw_readingring_k56_whole_the_pace_with_evid_holds : PySem.Challenge.rw_readingring_k56_whole_the_pace_with_evid.Holds := by
  w_on; o_law
  refine HandSHeadRun.head_any (r := OpenLaw.row PySem.Challenge.rw_readingring_k56_whole_the_pace_with_evid) (q := view (OpenLaw.row PySem.Challenge.rw_readingring_k56_whole_the_pace_with_evid).prog [34]) (H := G48.hk) (ob := G48.ob) (M := 4000) (loose := G48.loose) (d := HandSHeadRun.topDef (OpenLaw.row PySem.Challenge.rw_readingring_k56_whole_the_pace_with_evid).prog 34) (kwd := []) G48.ob_eq
    (by kernel_rfl) (fun s => by kernel_rfl) G48.run (by kernel_rfl) (by kernel_rfl) (by kernel_rfl) (by rfl) (by first | assumption | decide +kernel) (by decide +kernel) ⟨rfl, rfl, rfl, rfl, rfl, by decide +kernel⟩ ?hw ?hc
  case hw => w_witness2
  case hc =>
    refine L2.walk_ofE (l := PySem.Challenge.rw_readingring_k56_whole_the_pace_with_evid) (n := 63) (k := 8) (x := "_law_script") (CX := L2.CX0) rfl (by decide) (by kernel_rfl) ⟨rfl, by decide, by decide⟩ ?F (fun _ _ _ _ z => z)
    intro w mg fa h Y G hmg0
    obtain ⟨K, KX, c⟩ := Y
    have hmg : mg ("law" : PySem.Str) = some (.ref fa) := by
      have e : (HandSHeadRun.topDef (OpenLaw.row PySem.Challenge.rw_readingring_k56_whole_the_pace_with_evid).prog 34).name = ("law" : PySem.Str) := by kernel_rfl
      rw [← e]
      exact hmg0
    obtain ⟨fd, hb, hF⟩ := G48.facts (P := (PySem.Challenge.rw_readingring_k56_whole_the_pace_with_evid).prog) (w := w) KX G hmg c
    exact ⟨K, fd, G48.sp_law K, KX, hb, fun H a ns hl hO hS => ⟨a, ns, rfl, G48.Scr.only hO hS, hl, fun _ => rfl⟩, fun base _ _ => hF base⟩
