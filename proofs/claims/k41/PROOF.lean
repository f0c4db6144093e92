import PyProof.Rows.All
import Wide.All
import OpenK.AllK
import Wide.FinOn
import KE.KStateDown
import HandS.Base
import HandS.Call
import HandS.Ends
import HandS.More
import HandS.Words
import HandS.WordsExc
import HandS.Defaults
import HandS.Head0
import HandS.Head1
import HandS.Head2
import HandS.HeadEnd
import HandS.HeadHook1
import HandS.HeadHook2
import KE.KStar
import HandS.List
import HandS.Comp
import HandS.Dict
import HandS.Iter
import HandS.Text
import HandS.Exc
import HandS.WordsList
import HandS.Property
import HandS.Slots
import HandS.SlotsOwn
import HandS.ClsMeth
import HandS.Star
import HandS.Deep
import HandS.Zip
import HandS.Walk
import HandS.IsInst
import HandS.Flow
import HandS.Wide
import KE.LtData
import KE.GoesMore
import KE.GoesEnum
import HandS.Records
import HandS.TupAny
import KE.DatumOrd
import PySem.Challenge.RW_climbtickets_k41_whole_ranks_of_rows
set_option Elab.async false
set_option linter.all false
set_option maxRecDepth 100000
set_option maxHeartbeats 0
namespace CT
open PySem PySem.Spec PyProof.Rows L2
/-- the objects that one names, as far as the facts look -/
def nextOf (o : Obj) : List Addr := match o.data with
  | .dict es _ => es.toList.flatMap fun e => He.refV e.val
  | .func fd => He.refV fd.code ++ (He.refV fd.defaults ++ He.refV fd.kwdefaults)
  | .cls cd => [cd.ns]
  | .seq its _ => its.toList.flatMap He.refV
  | .fields vs => (match o.cls with
    | .type n => (if n == "property" || (n == "staticmethod" || n == "classmethod") then vs.toList.flatMap He.refV else [])
    | _ => [])
  | _ => []
def layer (g : Addr → Option Obj) (as : List Addr) : List Addr := as.flatMap fun a => match g a with
  | some o => nextOf o
  | none => []
def reach (g : Addr → Option Obj) : Nat → List Addr → List Addr
  | 0, as => as
  | n + 1, as => as ++ reach g n (layer g as)
def objsM (n : Nat) (g : Addr → Option Obj) : PySem.W.Frag := He.frG g (cStatics :: reach g n [mainGlobals])
/-! ### defs wherever they stand -/
structure DefA where
  ad : PySem.W.Frag → Addr
  name : Str
  qual : Str
  params : Arguments
  body : List Stmt
  scope : Scope
  dfl : List He.Dv := []
  kwd : List (Str × He.Dv) := []
def atA (K : PySem.W.Frag) (a : Addr) : He.FnW := match K.lookup a with
  | some ⟨_, _, .func fd, _⟩ => some (fd.name, fd.qualname, fd.params, fd.body, fd.scope, fd.globals, fd.closure, fd.builtins)
  | _ => none
def DefA.val (d : DefA) : He.FnW := some (d.name, d.qual, d.params, .stmts d.body, d.scope, mainGlobals, [], builtinsNs)
def DefA.dvs (K : PySem.W.Frag) (d : DefA) : List V := d.dfl.map (He.Dv.v K)
def DefA.kws (K : PySem.W.Frag) (d : DefA) : List (Str × V) := d.kwd.map fun q => (q.1, q.2.v K)
def DefA.ok (K : PySem.W.Frag) (d : DefA) : Bool := PySem.W.keepIn K (.ref (d.ad K)) && (match K.lookup (d.ad K) with
  | some ⟨_, _, .func fd, _⟩ => PySem.W.codeIn K fd.code d.qual && (He.dflB K fd.defaults (d.dvs K) && He.kwdB K fd.kwdefaults (d.kws K))
  | _ => false)
theorem DefA.funD {K : PySem.W.Frag} {d : DefA} (e : atA K (d.ad K) = d.val) (c : d.ok K = true) : ∃ fd, FunD K d.name d.qual d.params d.body d.scope (d.dvs K) (d.kws K) (d.ad K) fd := by
  obtain ⟨kp, c2⟩ := He.ba c
  unfold atA at e
  cases h : K.lookup (d.ad K) with
  | none => rw [h] at c2; cases c2
  | some o =>
    obtain ⟨oc, od, dt, osl⟩ := o
    rw [h] at c2 e
    cases dt with
    | func fd =>
      cases fd
      simp only [DefA.val, Option.some.injEq, Prod.mk.injEq] at e
      obtain ⟨h1, h2, h3, h4, h5, h6, h7, h8⟩ := e
      subst h1 h2 h3 h4 h5 h6 h7 h8
      obtain ⟨k1, k2⟩ := He.ba c2
      obtain ⟨k3, k4⟩ := He.ba k2
      exact ⟨_, ⟨oc, od, _, _, _, _, _, _, _, osl, rfl, h, k1, He.dflB_ok k3, He.kwdB_ok k4⟩, kp⟩
    | _ => cases c2
/-! ### the Hook -/
abbrev SeenM : Type := Bool × List He.FnW
def lookM (n : Nat) (fa : List He.Fa) (more : PySem.W.Frag → Bool) (fn : List DefA) (g : Addr → Option Obj) : SeenM := let K := objsM n g; ((fa.all fun f => f.ok K) && (more K && fn.all fun d => d.ok K), fn.map fun d => atA K (d.ad K))
def goodM (fn : List DefA) : SeenM := (true, fn.map DefA.val)
structure SaysM (fa : List He.Fa) (more : PySem.W.Frag → Bool) (fn : List DefA) (K : PySem.W.Frag) : Prop where
  fs : ∀ f ∈ fa, f.ok K = true
  ms : more K = true
  ds : ∀ d ∈ fn, d.ok K = true
  vs : (fn.map fun d => atA K (d.ad K)) = fn.map DefA.val
/-- the facts, told of what the names reach in n steps -/
def hookM (n : Nat) (fa : List He.Fa) (more : PySem.W.Frag → Bool) (fn : List DefA) : PySem.W.Hook where
  α := SeenM
  obs := fun s => lookM n fa more fn s.heap.get?
  val := fun _ => goodM fn
  says := fun _ h => ∃ K : PySem.W.Frag, K.In h ∧ SaysM fa more fn K
  of := fun w s e => by
    have e1 := He.ba (congrArg Prod.fst e)
    have e2 := He.ba e1.2
    exact ⟨objsM n s.heap.get?, He.frG_in, List.all_eq_true.mp e1.1, e2.1, List.all_eq_true.mp e2.2, congrArg Prod.snd e⟩
  keeps := fun w h h2 hs k => by
    obtain ⟨K, hK, c⟩ := hs
    exact ⟨K, PySem.W.Frag.In.keeps hK k, c⟩
theorem lookM_eq {n : Nat} {fa : List He.Fa} {more : PySem.W.Frag → Bool} {fn : List DefA} {g : Addr → Option Obj} {s : Shared} (h : ∀ a, g a = s.heap.get? a) : lookM n fa more fn g = (hookM n fa more fn).obs s := by
  have e : g = s.heap.get? := funext h
  subst e
  rfl
section
variable {fa : List He.Fa} {more : PySem.W.Frag → Bool} {fn : List DefA} {K : PySem.W.Frag}
theorem SaysM.fact (c : SaysM fa more fn K) (i : Nat) {f : He.Fa} (h : fa[i]? = some f := by rfl) : f.ok K = true := c.fs f (List.mem_of_getElem? h)
theorem SaysM.def_ (c : SaysM fa more fn K) (i : Nat) {d : DefA} (h : fn[i]? = some d := by rfl) : ∃ fd, FunD K d.name d.qual d.params d.body d.scope (d.dvs K) (d.kws K) (d.ad K) fd := by
  have e2 : (fn.map fun d => atA K (d.ad K))[i]? = (fn.map DefA.val)[i]? := by rw [c.vs]
  rw [List.getElem?_map, List.getElem?_map, h] at e2
  exact DefA.funD (Option.some.inj e2) (c.ds d (List.mem_of_getElem? h))
end
end CT

set_option maxHeartbeats 2000000
namespace CT
open PySem PySem.Spec PyProof.Rows L2
/-! ### calls by a positional promise -/
section
variable {X : Cx} {CX : CXT} {k : Nat} {f g C D p : Addr} {sp : Sp} {E : XK} {x m : Str} {e e2 o a b : Expr} {es : List Expr} {ta tb te : TE} {t : TA} {pos p1 p2 apos : Pos} {pins : List (Addr × Obj)} {σ : L2.St} {H : Hp} {s : Shared}
theorem runR {Q : VK} {us : List Value} {vs : List V} (F : FnR X.prog X.w X.K X.mg X.base CX k f sp) (hr : Room k X.A) (hx : Passes CX X E) (I : Inv X pins σ H s) (r : Vals vs us) (h : sp vs H Q E) :
    wpAny (model X.prog X.w) X.A (call (.ref f) us) (EP X pins σ Q) X.xe s := wpAny_call (run_fnR F hr hx I r h)
def tCallR (sp : Sp) (E : XK) (t : TA) : TE := fun σ H Q => t σ H fun vs H1 => sp vs H1 Q E
theorem pe_callR (F : FnR X.prog X.w X.K X.mg X.base CX k f sp) (hr : Room k X.A) (hg : Gl X x) (hm : X.mg x = some (.ref f)) (hk : PySem.W.keepIn X.K (.ref f) = true) (hx : Passes CX X E)
    (ha : PA X (e :: es) t) (hdb : (x == ("__debug__" : Str)) = false := by decide) (he : starEach (e :: es) X.env = (false, eval e X.env) :: starEach es X.env := by rfl) (hpl : (backTo pos (starEach es X.env)).any (·.1) = false := by rfl) :
    PE X (.Call (.Name x p1) (e :: es) [] pos) (tCallR sp E t) :=
  ⟨fun pins s σ H Q I h => wpAny_Call_Name_kw (ld_glob I hg hm (PySem.W.callWith_K (h₀ := X.base) I.ok.mod.kin hk (thn (ha.run pos pins s σ H _ I h) fun us s1 ⟨vs, H1, I1, r, q⟩ => ⟨I1.kIn, runR F hr hx I1 r q⟩) he hpl) hdb)⟩
theorem pe_callR0 (F : FnR X.prog X.w X.K X.mg X.base CX k f sp) (hr : Room k X.A) (hg : Gl X x) (hm : X.mg x = some (.ref f)) (hk : PySem.W.keepIn X.K (.ref f) = true) (hx : Passes CX X E)
    (hdb : (x == ("__debug__" : Str)) = false := by decide) : PE X (.Call (.Name x p1) [] [] pos) (tCallR sp E tNil) :=
  ⟨fun pins s σ H Q I h => wpAny_Call_Name_kw (ld_glob I hg hm (PySem.W.callWith_K0 I.kIn hk (runR (us := []) F hr hx I .nil h)) hdb)⟩
def tMethR (C : Addr) (m : Str) (sp : Sp) (E : XK) (ta : TE) (t : TA) : TE := fun σ H Q => ta σ H fun x H1 => ∃ a dx fs, x = .ref a ∧ H1 a = some (.ins C dx fs) ∧ fs.lookup m = none ∧ t σ H1 fun vs H2 => sp (x :: vs) H2 Q E
theorem pe_methR {pl : Sem Bool} (he : PE X o ta) (c : Cls X.K C) (hm : Meth X.K C m f) (F : FnR X.prog X.w X.K X.mg X.base CX k f sp) (hr : Room k X.A) (hx : Passes CX X E) (ha : PA X (e :: es) t)
    (hst : starEach (e :: es) X.env = (false, eval e X.env) :: starEach es X.env := by rfl) (hpl : (backTo pos (starEach es X.env)).any (·.1) = false := by rfl)
    (ht : eval (.Call (.Attribute o m apos) (e :: es) [] pos) X.env = (do
      let ov ← eval o X.env
      standAt apos.atName
      let (f, first) ← holding [ov] (getMethod ov m pl)
      callWith pos f first (backTo pos (starEach (e :: es) X.env)) (backToKw pos (keywordEach [] X.env))) := by rfl) :
    PE X (.Call (.Attribute o m apos) (e :: es) [] pos) (tMethR C m sp E ta t) := by
  refine ⟨fun pins s σ H Q I h => ?_⟩
  refine PySem.W.methodCall_KW (pl := pl) (thn (he.run pins s σ H _ I h) fun u s1 ⟨x, H1, I1, rx, a, dx, fs, ex, ea, l, q⟩ => ?_) ht
  subst ex
  obtain rfl : u = Value.ref a := rx
  exact getmeth_ok I1 ea c hm l (PySem.W.callWith_K (first := [.ref a]) (h₀ := X.base) I.ok.mod.kin hm.kp (thn (ha.run pos pins s1 σ H1 _ I1 q) fun us s2 ⟨vs, H2, I2, r, q2⟩ => ⟨I2.kIn, runR (us := .ref a :: us) (vs := .ref a :: vs) F hr hx I2 (.cons rfl r) q2⟩) hst hpl)
theorem pe_methR0 {pl : Sem Bool} (he : PE X o ta) (c : Cls X.K C) (hm : Meth X.K C m f) (F : FnR X.prog X.w X.K X.mg X.base CX k f sp) (hr : Room k X.A) (hx : Passes CX X E)
    (ht : eval (.Call (.Attribute o m apos) [] [] pos) X.env = (do
      let ov ← eval o X.env
      standAt apos.atName
      let (f, first) ← holding [ov] (getMethod ov m pl)
      callWith pos f first (backTo pos (starEach [] X.env)) (backToKw pos (keywordEach [] X.env))) := by rfl) :
    PE X (.Call (.Attribute o m apos) [] [] pos) (tMethR C m sp E ta tNil) := by
  refine ⟨fun pins s σ H Q I h => ?_⟩
  refine PySem.W.methodCall_KW (pl := pl) (thn (he.run pins s σ H _ I h) fun u s1 ⟨x, H1, I1, rx, a, dx, fs, ex, ea, l, q⟩ => ?_) ht
  subst ex
  obtain rfl : u = Value.ref a := rx
  exact getmeth_ok I1 ea c hm l (PySem.W.callWith_K0 (first := [.ref a]) I1.kIn hm.kp (runR (us := [.ref a]) (vs := [.ref a]) F hr hx I1 (.cons rfl .nil) q))
theorem pe_makeR0 (M : Mk X.K C f) (F : FnR X.prog X.w X.K X.mg X.base CX k f sp) (hr : Room (k + 1) X.A) (hg : Gl X x) (hm : X.mg x = some (.ref C)) (hx : Passes CX X E)
    (hdb : (x == ("__debug__" : Str)) = false := by decide) : PE X (.Call (.Name x p1) [] [] pos) (StX.tMakeR C sp E tNil) :=
  ⟨fun pins s σ H Q I h => wpAny_Call_Name_kw (ld_glob I hg hm (PySem.W.callWith_K0 I.kIn M.kp (StX.run_makeR (us := []) M F hr hx I .nil h)) hdb)⟩
/-- two arguments or more, some of them starred -/
theorem args_many {M : Model} {A : Around} {E : Value → Shared → Prop} {s : Shared} {f : Value} {x y : Bool × Sem Value} {r : List (Bool × Sem Value)} {Q : Args → Shared → Prop}
    (h : wpAny M A (spliced (x :: y :: r)) (fun vs s1 => Q ⟨vs, []⟩ s1) E s) : wpAny M A (evalArgs f true (x :: y :: r) []) Q E s := by
  obtain ⟨b, sx⟩ := x
  cases b with
  | false => exact Calls.evalArgs_plain h
  | true =>
    unfold evalArgs
    show wpAny M A (spliced ((true, sx) :: y :: r) >>= _) Q E s
    refine wpAny_bind (wpAny_mono h (fun vs s2 q => wpAny_holding ?_) fun _ _ z => z)
    exact wpAny_bind (wpAny_pure (wpAny_bind (wpAny_pure (wpAny_pure q))))
/-- C(*e) -/
theorem pe_makeS1 (M : Mk X.K C f) (F : FnR X.prog X.w X.K X.mg X.base CX k f sp) (hr : Room (k + 1) X.A) (hg : Gl X x) (hm : X.mg x = some (.ref C)) (hx : Passes CX X E) (he : PE X e te) (hd : (x == ("__debug__" : Str)) = false := by decide)
    (hst : starEach [.Starred e p2] X.env = [(true, eval e X.env)] := by rfl) : PE X (.Call (.Name x p1) [.Starred e p2] [] pos) (StX.tMakeR C sp E (StX.tStar X.K te tNil)) := by
  refine ⟨fun pins s σ H Q I h => ?_⟩
  refine wpAny_Call_Name_kw (ld_glob I hg hm ?_ hd)
  refine PySem.W.callWith_S (h₀ := X.base) I.ok.mod.kin M.kp (thn (he.run pins s σ H _ I h) fun v s1 ⟨y, H1, I1, ry, a, xs, ey, hxs, q⟩ => ?_) hst
  subst ey
  obtain rfl : v = Value.ref a := ry
  refine StX.star_any I1 hxs fun us s2 I2 rv => ⟨I2.kIn, StX.run_makeR M F hr hx I2 rv (fun x dx h1 h2 h3 => ?_)⟩
  have z := q x dx h1 h2 h3
  rw [List.append_nil] at z
  exact z
/-- C(.., *e, ..), two arguments or more -/
theorem pe_makeS2 (M : Mk X.K C f) (F : FnR X.prog X.w X.K X.mg X.base CX k f sp) (hr : Room (k + 1) X.A) (hg : Gl X x) (hm : X.mg x = some (.ref C)) (hx : Passes CX X E) (ha : PA X (e :: e2 :: es) t) (hd : (x == ("__debug__" : Str)) = false := by decide)
    (hst : (backTo pos (starEach (e :: e2 :: es) X.env)).any (·.1) = true := by rfl) (hsh : ∃ c d r, backTo pos (starEach (e :: e2 :: es) X.env) = c :: d :: r := by exact ⟨_, _, _, rfl⟩) :
    PE X (.Call (.Name x p1) (e :: e2 :: es) [] pos) (StX.tMakeR C sp E t) := by
  refine ⟨fun pins s σ H Q I h => ?_⟩
  refine wpAny_Call_Name_kw (ld_glob I hg hm ?_ hd)
  have z := ha.run pos pins s σ H _ I h
  obtain ⟨c, d, r, e1⟩ := hsh
  show wpAny _ _ (callWith pos (.ref C) [] (backTo pos (starEach (e :: e2 :: es) X.env)) []) _ _ _
  rw [e1] at z hst ⊢
  exact PySem.W.ks_call hst (PySem.W.keeps_K M.kp) (args_many (thn z fun us s1 ⟨vs, H1, I1, r1, q⟩ => ⟨I1.kIn, StX.run_makeR M F hr hx I1 r1 q⟩))
/-! ### own operators -/
theorem ins_inst {a C dx : Addr} {fs : List (Str × V)} (I : Inv X pins σ H s) (h : H a = some (.ins C dx fs)) : ∃ ox od, PySem.W.InstAt s.heap a ox C (some od) ∧ ox.data = .plain := by
  obtain ⟨mA, O, _⟩ := ins_get I.hok h
  obtain ⟨od, J, _⟩ := O.look
  exact ⟨_, od, J, rfl⟩
/-- x op y by the def at g, y an instance too -/
def rOwnC (K : PySem.W.Frag) (C : Addr) (sp : Sp) (E : XK) : R2 := fun x y H Q => ∃ a dx fs b C' dy gs, x = .ref a ∧ y = .ref b ∧ H a = some (.ins C dx fs) ∧ H b = some (.ins C' dy gs) ∧ PySem.W.notFirst K C (.ref C') = true ∧ sp [x, y] H Q E
theorem op_ownC {op : CmpOp} (hop : ∀ a b, compareOp op a b = richCompare op a b) (hs : PySem.W.findIn X.K (.ref C) (cmpInfo op).2.1 = some (some (.ref g))) (hf : PySem.W.isFn X.K (.ref g) = true) (F : FnR X.prog X.w X.K X.mg X.base CX k g sp)
    (hr : Room k X.A) (hx : Passes CX X E) : OpR X (compareOp op) (rOwnC X.K C sp E) := by
  intro pins s σ H x y v u Q I rx ry h
  obtain ⟨a, dx, fs, b, C', dy, gs, rfl, rfl, ha, hb, hn, q⟩ := h
  cases (show v = Value.ref a from rx)
  cases (show u = Value.ref b from ry)
  obtain ⟨ox, od, J, _⟩ := ins_inst I ha
  obtain ⟨ox', od', J', _⟩ := ins_inst I hb
  obtain ⟨m, hF⟩ := I.fr
  rw [hop]
  refine PySem.W.cmp_K (op := op) (tb := .ref C') hr.units0 hF I.ok.mod.kin J J'.type hn hs hf ?_
  refine wpAny_mono (runR (us := [.ref a, .ref b]) (vs := [.ref a, .ref b]) F hr hx I (.cons rfl (.cons rfl .nil)) q) (fun w s' z => ?_) fun _ _ x => x
  obtain ⟨z', H', I', rz, qz⟩ := z
  exact SlX.cmpback rz ⟨z', H', I', rz, qz⟩
/-- len(x) by an own __len__ -/
def rLenOwn (C : Addr) (sp : Sp) (E : XK) : List V → Hp → VK → Prop := fun xs H Q => ∃ a dx fs, xs = [V.ref a] ∧ H a = some (.ins C dx fs) ∧ sp [V.ref a] H (fun z H' => ∃ n : Nat, z = .int n ∧ n < 2 ^ 63 ∧ Q (.int n) H') E
theorem call_lenOwn (hs : PySem.W.findIn X.K (.ref C) "__len__" = some (some (.ref g))) (hf : PySem.W.isFn X.K (.ref g) = true) (F : FnR X.prog X.w X.K X.mg X.base CX k g sp) (hr : Room (k + 1) X.A) (hx : Passes CX X E) : CallR X (.builtin "len") (rLenOwn C sp E) := by
  intro pins s σ H xs us Q I r h
  obtain ⟨a, dx, fs, rfl, ha, q⟩ := h
  obtain ⟨u, rfl, ru⟩ := r.one
  cases (show u = Value.ref a from ru)
  obtain ⟨ox, od, J, _⟩ := ins_inst I ha
  obtain ⟨m, hF⟩ := I.fr
  have hr2 : Room k X.A.in1 := Room.in1 hr
  refine PySem.W.len_K hF I.ok.mod.kin J hs hf (wpAny_mono (wpAny_call (SlX.run_at (us := [.ref a]) (ws := [.ref a]) F hr2 I.env0.in1 hx I (.cons rfl .nil) q)) (fun w s' z => ?_) fun _ _ x => x)
  obtain ⟨z', H', I', rz, n, e1, hn, qz⟩ := z
  subst e1
  obtain ⟨t, e⟩ := (show ∃ t, w = Value.int (n : Int) t from rz)
  cases e
  exact ⟨⟨Int.natCast_nonneg n, by omega⟩, .int n, H', I'.tok _, ⟨_, rfl⟩, qz⟩
/-- truth by an own __bool__ -/
def rTruOwn (C : Addr) (sp : Sp) (E : XK) : V → Hp → (Bool → Hp → Prop) → Prop := fun x H Q => ∃ a dx fs, x = V.ref a ∧ H a = some (.ins C dx fs) ∧ sp [V.ref a] H (fun z H' => ∃ b, z = .bl b ∧ Q b H') E
theorem tru_own (hs : PySem.W.findIn X.K (.ref C) "__bool__" = some (some (.ref g))) (hf : PySem.W.isFn X.K (.ref g) = true) (F : FnR X.prog X.w X.K X.mg X.base CX k g sp) (hr : Room k X.A) (hx : Passes CX X E) : TruR X (rTruOwn C sp E) := by
  intro pins s σ H x v Q I rx h
  obtain ⟨a, dx, fs, rfl, ha, q⟩ := h
  cases (show v = Value.ref a from rx)
  obtain ⟨ox, od, J, _⟩ := ins_inst I ha
  obtain ⟨m, hF⟩ := I.fr
  refine PySem.W.truthy_K hF I.ok.mod.kin J hs hf (wpAny_mono (runR (us := [.ref a]) (vs := [.ref a]) F hr hx I (.cons rfl .nil) q) (fun w s' z => ?_) fun _ _ x => x)
  obtain ⟨z', H', I', rz, b, e1, qz⟩ := z
  subst e1
  cases (show w = Value.bool b from rz)
  exact ⟨H', I', qz⟩
/-- x[i] by an own __getitem__ -/
def rIxOwn (C : Addr) (sp : Sp) (E : XK) : R2 := fun x y H Q => ∃ a dx fs, x = V.ref a ∧ H a = some (.ins C dx fs) ∧ sp [x, y] H Q E
theorem pe_ixOwn (ha : PE X a ta) (hb : PE X b tb) (hs : PySem.W.findIn X.K (.ref C) "__getitem__" = some (some (.ref g))) (hf : PySem.W.isFn X.K (.ref g) = true) (hfn : PySem.W.fnIn X.K g = true) (F : FnR X.prog X.w X.K X.mg X.base CX k g sp) (hr : Room (k + 1) X.A) (hx : Passes CX X E)
    (hsl : ∀ o i, subscripted b true o i = runValue (.builtin "lifetime.subscript" ⟨[o, i], []⟩) := by intro _ _; with_unfolding_all rfl) : PE X (.Subscript a b pos) (tOp (rIxOwn C sp E) ta tb) := by
  refine ⟨fun pins s σ H Q I h => ?_⟩
  refine Subscript_ (binT ha hb I h fun v u s2 x y H2 I2 rx ry q => ?_)
  obtain ⟨c, dx, fs, rfl, hc, q⟩ := q
  cases (show v = Value.ref c from rx)
  obtain ⟨ox, od, J, _⟩ := ins_inst I2 hc
  obtain ⟨m, hF⟩ := I2.fr
  exact PySem.W.sub_K hF I2.ok.mod.kin J hs hfn hf (wpAny_call (SlX.run_at (us := [.ref c, u]) (ws := [.ref c, y]) F (Room.in1 hr) I2.env0.in1 hx I2 (.cons rfl (.cons ry .nil)) q)) (hsl _ _)
end
end CT

set_option maxHeartbeats 2000000
namespace CT
open PySem PySem.Spec PyProof.Rows L2
open Sem (wp)
/-! ### x + y by an own __add__, y an instance of another class -/
/-- the class at D has nothing for the operator -/
structure NoSlot (K : PySem.W.Frag) (D : Addr) (nm : String) : Prop where
  cl : ∃ cd, PySem.W.clsIn K D = some cd ∧ cd.mro = [.ref D, .type "object"]
  l : PySem.W.findIn K (.ref D) (PySem.dunder nm) = some none
  r : PySem.W.findIn K (.ref D) (dunderR nm) = some none
  ol : PySem.W.findIn K (.type "object") (PySem.dunder nm) = some none
  or : PySem.W.findIn K (.type "object") (dunderR nm) = some none
theorem nofill {K : PySem.W.Frag} {M : Model} {h : Heap} {nm : String} {D : Addr} (X : K.In h) (n : NoSlot K D nm) : PySem.W.Looks M h (fillsNumberSlot (.ref D) nm) false := by
  obtain ⟨cd, hc, hm⟩ := n.cl
  intro A Q E s k q
  unfold fillsNumberSlot
  refine wpAny_bind ((PySem.W.looks_clsIn X hc).andThen (f := fun cd => pure cd.mro) .now A _ E s k ?_)
  rw [hm, List.anyM_cons]
  refine wpAny_bind ?_
  show wpAny M A (List.anyM _ [PySem.dunder nm, dunderR nm]) _ _ _
  rw [List.anyM_cons]
  refine wpAny_bind (wpAny_bind (PySem.W.looks_findIn X n.l A _ E s k (wpAny_pure ?_)))
  rw [if_neg Bool.false_ne_true, List.anyM_cons]
  refine wpAny_bind (wpAny_bind (PySem.W.looks_findIn X n.r A _ E s k (wpAny_pure ?_)))
  rw [if_neg Bool.false_ne_true, List.anyM_nil]
  refine wpAny_pure ?_
  rw [if_neg Bool.false_ne_true, List.anyM_cons]
  refine wpAny_bind ?_
  refine wpAny_bind (PySem.W.looks_findIn X n.ol A _ E s k ?_)
  refine wpAny_bind (PySem.W.looks_findIn X n.or A _ E s k (wpAny_pure ?_))
  show wpAny M A (if false = true then _ else _) _ _ _
  rw [if_neg Bool.false_ne_true, List.anyM_nil]
  exact wpAny_pure q
/-- x + y: both of C (told first), or y of a class that has nothing for + -/
def AddTo (K : PySem.W.Frag) (C D : Addr) (nm : String) : Prop := D = C ∨ (D ≠ C ∧ NoSlot K D nm)
section
variable {X : Cx} {CX : CXT} {k : Nat} {f g C D p : Addr} {sp : Sp} {E : XK} {x m : Str} {e e2 o a b : Expr} {es : List Expr} {ta tb te : TE} {t : TA} {pos p1 p2 apos : Pos} {pins : List (Addr × Obj)} {σ : L2.St} {H : Hp} {s : Shared}
theorem binop_two {op : Operator} {b : Value} {x : Addr} {ox : Obj} {od : Option Obj} {h0 : Heap} {L : Addr} {m : Str → Option Value} {prog : Program} {w : World} {A : Around} {E : Value → Shared → Prop} {K : PySem.W.Frag} {Q : Value → Shared → Prop}
    (F : PyProof.Rows.Fr h0 L s.heap m) (X0 : K.In h0) (I : PySem.W.InstAt s.heap x ox C od) (hb : PySem.W.Looks (model prog w) s.heap (typeOf b) (.ref D)) (hc : PySem.W.selfFirst K C = true) (hd : D ≠ C) (n : NoSlot K D op.info.2)
    (hs : PySem.W.findIn K (.ref C) (PySem.dunder op.info.2) = some (some (.ref f))) (hf : PySem.W.isFn K (.ref f) = true)
    (h : wpAny (model prog w) A (call (.ref f) [.ref x, b]) (PySem.W.CmpBack Q) E s) : wpAny (model prog w) A (binaryOp op (.ref x) b) Q E s := by
  have X := X0.keeps F.keep
  obtain ⟨cd, hcd, hm⟩ := PySem.W.any_some hc
  obtain ⟨rest, hm⟩ : ∃ rest, cd.mro = .ref C :: rest := by
    cases q : cd.mro with
    | nil => rw [q] at hm; cases hm
    | cons a r => rw [q] at hm; exact ⟨r, by rw [List.head?_cons] at hm; cases (beq_iff_eq.mp hm); rfl⟩
  have hne : (Value.ref C == Value.ref D) = false := by
    refine beq_eq_false_iff_ne.mpr fun q => hd (Value.ref.inj q).symm
  unfold binaryOp
  refine wpAny_holding (wpAny_bind ?_)
  unfold binaryOp1
  refine wpAny_bind (I.type.here (wpAny_bind (hb.here (wpAny_bind ((PySem.W.fills_K X hcd hm hs).here ?_)))))
  rw [hne]
  simp only [Bool.false_eq_true, if_false]
  refine wpAny_bind ((nofill X n).here ?_)
  simp only [Bool.and_false, Bool.false_eq_true, if_false, Bool.false_and]
  refine wpAny_bind (wpAny_pure ?_)
  simp only [Bool.false_eq_true, if_false]
  refine wpAny_bind (m := tryMethod (.ref x) _ b) ?_
  unfold tryMethod
  refine wpAny_bind (PySem.W.special_fn X I hs (beq_iff_eq.mp hf) (wpAny_mono h (fun v s' hv => ?_) fun _ _ e => e))
  cases v <;> first | exact hv.elim | exact wpAny_pure (wpAny_pure (wpAny_pure hv))
def rAddOwn (K : PySem.W.Frag) (C : Addr) (nm : String) (sp : Sp) (E : XK) : R2 := fun x y H Q => ∃ a dx fs b D dy gs, x = .ref a ∧ y = .ref b ∧ H a = some (.ins C dx fs) ∧ H b = some (.ins D dy gs) ∧ AddTo K C D nm ∧ sp [x, y] H Q E
theorem op_addOwn {op : Operator} (hc : PySem.W.selfFirst X.K C = true) (hs : PySem.W.findIn X.K (.ref C) (PySem.dunder op.info.2) = some (some (.ref g))) (hf : PySem.W.isFn X.K (.ref g) = true) (F : FnR X.prog X.w X.K X.mg X.base CX k g sp)
    (hr : Room k X.A) (hx : Passes CX X E) : OpR X (binaryOp op) (rAddOwn X.K C op.info.2 sp E) := by
  intro pins s σ H x y v u Q I rx ry h
  obtain ⟨a, dx, fs, b, D, dy, gs, rfl, rfl, ha, hb, hn, q⟩ := h
  cases (show v = Value.ref a from rx)
  cases (show u = Value.ref b from ry)
  obtain ⟨ox, od, J, _⟩ := ins_inst I ha
  obtain ⟨ox', od', J', _⟩ := ins_inst I hb
  obtain ⟨m, hF⟩ := I.fr
  have z : wpAny (model X.prog X.w) X.A (call (.ref g) [.ref a, .ref b]) (PySem.W.CmpBack (EP X pins σ Q)) X.xe s :=
    wpAny_mono (runR (us := [.ref a, .ref b]) (vs := [.ref a, .ref b]) F hr hx I (.cons rfl (.cons rfl .nil)) q) (fun w s' z => let ⟨z', H', I', rz, qz⟩ := z; SlX.cmpback rz ⟨z', H', I', rz, qz⟩) fun _ _ x => x
  rcases hn with e | ⟨e, n⟩
  · subst e
    exact PySem.W.binop_K hF I.ok.mod.kin J J'.type hc hs hf z
  · exact binop_two hF I.ok.mod.kin J J'.type hc e n hs hf z
/-! ### C.m(..), m a static method -/
structure SMet (K : PySem.W.Frag) (C : Addr) (mc : Value) (m : Str) (p g : Addr) : Prop where
  at_ : PySem.W.findCls K (.ref C) mc m = some (.get (.builtin "staticmethod.__get__") (.ref p) .none (.ref C))
  rc : ∃ rest, PySem.W.recIn K p "staticmethod" = some (.ref g :: rest)
  kp : PySem.W.keepIn K (.ref g) = true
def tSMeth (C : Addr) (sp : Sp) (E : XK) (ta : TE) (t : TA) : TE := fun σ H Q => ta σ H fun x H1 => x = .ref C ∧ t σ H1 fun vs H2 => sp vs H2 Q E
theorem pe_smeth {mc : Value} {pl : Sem Bool} (he : PE X o ta) (r : ClX.CRead X.K C mc) (c : SMet X.K C mc m p g) (F : FnR X.prog X.w X.K X.mg X.base CX k g sp) (hr : Room k X.A) (hx : Passes CX X E) (ha : PA X (e :: es) t)
    (hst : starEach (e :: es) X.env = (false, eval e X.env) :: starEach es X.env := by rfl) (hpl : (backTo pos (starEach es X.env)).any (·.1) = false := by rfl)
    (ht : eval (.Call (.Attribute o m apos) (e :: es) [] pos) X.env = (do
      let ov ← eval o X.env
      standAt apos.atName
      let (f, first) ← holding [ov] (getMethod ov m pl)
      callWith pos f first (backTo pos (starEach (e :: es) X.env)) (backToKw pos (keywordEach [] X.env))) := by rfl) :
    PE X (.Call (.Attribute o m apos) (e :: es) [] pos) (tSMeth C sp E ta t) := by
  refine ⟨fun pins s σ H Q I h => ?_⟩
  refine PySem.W.methodCall_KW (pl := pl) (thn (he.run pins s σ H _ I h) fun u s1 ⟨x, H1, I1, rx, ex, q⟩ => ?_) ht
  subst ex
  obtain rfl : u = Value.ref C := rx
  obtain ⟨rest, hp⟩ := c.rc
  refine PySem.W.method_cls I1.kIn r.ga ?_
  refine PySem.W.cls_bind I1.kIn r.rd c.at_ ?_
  have I2 := I1.tok (s1.toks + 1)
  refine wpAny_call (PySem.W.sm_get (s := { s1 with toks := s1.toks + 1 }) I1.kIn hp (PySem.W.handed_on rfl ?_))
  exact PySem.W.callWith_K (h₀ := X.base) (first := []) I.ok.mod.kin c.kp (thn (ha.run pos pins _ σ H1 _ I2 q) fun us s3 ⟨vs, H2, I3, rv, q2⟩ => ⟨I3.kIn, runR F hr hx I3 rv q2⟩) hst hpl
/-! ### o.f as a target -/
def gFld (K : PySem.W.Frag) (ta : TE) (f : Str) : TG := fun v σ H Q => ta σ H fun x H1 => ∃ a C dx fs, x = .ref a ∧ H1 a = some (.ins C dx fs) ∧ Cls K C ∧ NoAttr K C f ∧ fs.length < 1000 ∧ Q σ (upd H1 a (.ins C dx (putF f v fs)))
theorem pg_fld {n : Str} (ho : PE X o ta) (ha : ∀ v, assign (.Attribute o n pos) X.env v = (do
      let ov ← holding [v] (eval o X.env)
      standAt pos.atName
      holding [v, ov] (setAttr ov n v)
      release [v, ov] []) := by intro _; rfl) : PG X (.Attribute o n pos) (gFld X.K ta n) := by
  refine ⟨fun pins s σ H v u Q I r h => ?_⟩
  rw [ha]
  refine wpAny_bind (wpAny_holding (thn (ho.run pins s σ H _ I h) fun ov s1 ⟨x, H1, I1, r1, a, C, dx, fs, ex, ea, c, nn, l, q⟩ => ?_))
  subst ex
  obtain rfl : ov = Value.ref a := r1
  refine wpAny_bind (wpAny_standAt (wpAny_bind (wpAny_holding (setattr_ok I1 ea c nn l r fun s3 I3 => ?_))))
  exact wpAny_release ⟨σ, _, I3, q⟩
/-! ### data: count, in a tuple, < -/
def rCntD (K : PySem.W.Frag) (tu : Bool) : V → List V → Hp → VK → Prop := fun x xs H Q => ∃ (a : Addr) (y : V) (d : PyData) (ds : List PyData), x = V.ref a ∧ xs = [y] ∧ Dp K H (V.ref a) (if tu = true then .tuple ds else .list ds) ∧ Dp K H y d ∧
  SeqAt.shaped (.list ds) = true ∧ SeqAt.shaped d = true ∧ Q (.int (ds.countP (fun z => PyData.eqv z d) : Nat)) H
theorem count_read {its : List Value} {ds : List PyData} {d : PyData} {h : Heap} (hm : its.map (SeqAt.readOf h) = ds) : its.countP (fun u => PyData.eqv (SeqAt.readOf h u) d) = ds.countP (fun z => PyData.eqv z d) := by
  rw [← hm, List.countP_map] <;> rfl
theorem mt_countD (hu : X.A.units + 65 < cLine) : MtR X "list.count" (rCntD X.K false) := by
  intro pins s σ H x xs v us Q I rx rxs h
  obtain ⟨a, y, d, ds, rfl, rfl, hl, hy, sl, sd, q⟩ := h
  cases rx
  obtain ⟨uy, rfl, ry⟩ := rxs.one
  obtain ⟨bs, r1⟩ := Dp.reads I d y uy hy ry
  have hxs : PyData.canLayAll0 ds = true := SeqAt.canLay_of_shaped sl
  have hroom : X.A.units + 1 + min (PyData.depthAll ds) d.depth < cLine := room_in_shaped sd hu
  rw [if_neg Bool.false_ne_true] at hl
  cases hl with
  | lst hs ha =>
    obtain ⟨its, rv, ⟨⟨cls, dd, data, sls⟩, n, ho, hc, hdn, hdt⟩, hlen⟩ := I.list hs
    simp only at hc hdt
    subst hc hdt
    obtain ⟨as, h4⟩ := Dp.readsAll I ds _ its ha rv
    have hmap : its.map (SeqAt.readOf s.heap) = ds := SeqAt.readsAll_map ds its as hxs h4
    refine call_meets PySem.F.slot_list_count ⟨_, ho, rfl⟩ PySem.F.entry_list_count (PySem.F.args_list_count_2 _ _)
      (SeqAt.list_countAt a its.toArray n dd sls uy (fun u => PyData.eqv (SeqAt.readOf s.heap u) d)) ⟨ho, SeqAt.items_eqAt (vs := its.toArray) (show ReadsAll s.heap its.toArray.toList ds as from h4) r1 hxs (SeqAt.canLay_of_shaped sd) hroom, ?_⟩
    refine ⟨.int (ds.countP (fun z => PyData.eqv z d) : Nat), H, I.tok _, ⟨s.toks, ?_⟩, q⟩
    rw [← count_read (d := d) hmap]
theorem mt_tcountD (hu : X.A.units + 65 < cLine) : MtR X "tuple.count" (rCntD X.K true) := by
  intro pins s σ H x xs v us Q I rx rxs h
  obtain ⟨a, y, d, ds, rfl, rfl, hl, hy, sl, sd, q⟩ := h
  cases rx
  obtain ⟨uy, rfl, ry⟩ := rxs.one
  obtain ⟨bs, r1⟩ := Dp.reads I d y uy hy ry
  have hxs : PyData.canLayAll0 ds = true := SeqAt.canLay_of_shaped sl
  have hroom : X.A.units + 1 + min (PyData.depthAll ds) d.depth < cLine := room_in_shaped sd hu
  rw [if_pos rfl] at hl
  cases hl with
  | tup hs ha =>
    obtain ⟨its, rv, ⟨⟨cls, dd, data, sls⟩, ho, hc, n, hdt⟩, hlen⟩ := I.tuple hs
    simp only at hc hdt
    subst hc hdt
    obtain ⟨as, h4⟩ := Dp.readsAll I ds _ its ha rv
    have hmap : its.map (SeqAt.readOf s.heap) = ds := SeqAt.readsAll_map ds its as hxs h4
    refine call_meets PySem.F.slot_tuple_count ⟨_, ho, rfl⟩ PySem.F.entry_tuple_count (PySem.F.args_tuple_count_2 _ _)
      (SeqAt.tuple_countAt a its.toArray n dd sls uy (fun u => PyData.eqv (SeqAt.readOf s.heap u) d)) ⟨ho, SeqAt.items_eqAt (vs := its.toArray) (show ReadsAll s.heap its.toArray.toList ds as from h4) r1 hxs (SeqAt.canLay_of_shaped sd) hroom, ?_⟩
    refine ⟨.int (ds.countP (fun z => PyData.eqv z d) : Nat), H, I.tok _, ⟨s.toks, ?_⟩, q⟩
    rw [← count_read (d := d) hmap]
def rInTD (K : PySem.W.Frag) : R2 := fun x y H Q => ∃ d ds, Dp K H x d ∧ Dp K H y (.tuple ds) ∧ SeqAt.shaped d = true ∧ SeqAt.shaped (.list ds) = true ∧ Q (.bl (ds.any fun z => PyData.eqv z d)) H
def rNotInTD (K : PySem.W.Frag) : R2 := fun x y H Q => ∃ d ds, Dp K H x d ∧ Dp K H y (.tuple ds) ∧ SeqAt.shaped d = true ∧ SeqAt.shaped (.list ds) = true ∧ Q (.bl (!ds.any fun z => PyData.eqv z d)) H
theorem op_inTD (hu : X.A.units + 65 < cLine) : OpR X (compareOp .In) (rInTD X.K) := by
  intro pins s σ H x y v u Q I rx ry h
  obtain ⟨d, ds, hd, he, sd, se, q⟩ := h
  obtain ⟨as, r1⟩ := Dp.reads I d x v hd rx
  obtain ⟨bs, r2⟩ := Dp.reads I (.tuple ds) y u he ry
  exact SeqAt.in_tuple_reads r2 r1 (SeqAt.canLay_of_shaped se) (SeqAt.canLay_of_shaped sd) (room_in_shaped sd hu) ⟨.bl _, H, I, rfl, q⟩
theorem op_notInTD (hu : X.A.units + 65 < cLine) : OpR X (compareOp .NotIn) (rNotInTD X.K) := by
  intro pins s σ H x y v u Q I rx ry h
  obtain ⟨d, ds, hd, he, sd, se, q⟩ := h
  obtain ⟨as, r1⟩ := Dp.reads I d x v hd rx
  obtain ⟨bs, r2⟩ := Dp.reads I (.tuple ds) y u he ry
  exact SeqAt.notIn_tuple_reads r2 r1 (SeqAt.canLay_of_shaped se) (SeqAt.canLay_of_shaped sd) (room_in_shaped sd hu) ⟨.bl _, H, I, rfl, q⟩
def rLtD (K : PySem.W.Frag) : R2 := fun x y H Q => ∃ d e, Dp K H x d ∧ Dp K H y e ∧ PySem.W.alike d e = true ∧ d ≠ .none ∧ d.depth ≤ 64 ∧ Q (.bl (PySem.W.dataLt d e)) H
theorem op_ltD (hu : X.A.units + 64 < cLine) : OpR X (compareOp .Lt) (rLtD X.K) := by
  intro pins s σ H x y v u Q I rx ry h
  obtain ⟨d, e, hd, he, ha, hn, hz, q⟩ := h
  obtain ⟨as, r1⟩ := Dp.reads I d x v hd rx
  obtain ⟨bs, r2⟩ := Dp.reads I e y u he ry
  refine PySem.W.rcLt_alike d e X.A s v u as bs r1 r2 ha hn (Nat.lt_of_le_of_lt (Nat.add_le_add_left (Nat.le_trans (Nat.min_le_left _ _) hz) _) hu) X.prog X.w X.xe _ ?_
  exact ⟨.bl _, H, I, rfl, q⟩
/-- xs.extend(t), t a tuple -/
theorem extend_tup (l : Addr) (items : Array Value) (n : Nat) (b : Addr) (items2 : Array Value) (n2 : Nat) (dd : Option Addr) (sl : Array (Option Value)) (hs0 : ¬(!items.isEmpty && Builtin.List.listTooLong (items.size + items2.size)) = true) (hs1 : items.size ≤ sizeLine) (hs2 : items.size + items2.size ≤ sizeLine + 1) :
    Meets (Builtin.«list.extend» ⟨[.ref l, .ref b], []⟩) (fun _ R s => s.heap.get? l = some { cls := .type "list", data := .seq items n } ∧ s.heap.get? b = some { cls := .type "tuple", dict := dd, data := .seq items2 n2, slots := sl } ∧
      R (.ok (.ret Value.none)) { s with heap := s.heap.update l (Obj.mapSeq fun x => x ++ items2) }) :=
  .of_wp fun prog w A R s h => by
    obtain ⟨hp, g, d, tk, os⟩ := s
    obtain ⟨hl, hb, h⟩ := h
    have f1 := AutoSeq1.idx_int
    have f2 := AutoSeq1.sub_tuple_tuple
    have f3 := AutoSeq1.sub_list_list
    have f4 := AutoSeq1.sub_tuple_list
    have f5 := AutoSeq1.sub_list_tuple
    have hz' : (items ++ items2).size ≤ sizeLine + 1 := by
      rw [Array.size_append]
      exact hs2
    wp_walk using (wpAny_updateSeq hl rfl (hz := hs1) (_hz' := hz')), AutoSeq1.wpAny_loadPart' hl, AutoSeq1.wpAny_loadPart' hb
    exact ⟨_, rfl, h⟩
def rExtT (K : PySem.W.Frag) : V → List V → Hp → VK → Prop := fun x vs H Q => ∃ l b xs zs, x = .ref l ∧ vs = [.ref b] ∧ H l = some (.lst xs) ∧ SqT K H b zs ∧ xs.length + zs.length ≤ sizeLine ∧ Q .non (upd H l (.lst (xs ++ zs)))
theorem mt_extendT : MtR X "list.extend" (rExtT X.K) := by
  intro pins s σ H x vs v us Q I rx rv h
  obtain ⟨l, b, xs, zs, rfl, rfl, hH, hB, hz, q⟩ := h
  cases rx
  obtain ⟨u, rfl, ru⟩ := rv.one
  cases ru
  obtain ⟨z, its, n, r, hl, e⟩ := I.lstM hH
  obtain ⟨its2, r2, ⟨⟨cls, dd, data, sls⟩, ho, hc, n2, hdt⟩, hlen⟩ := I.tuple hB
  simp only at hc hdt
  subst hc hdt
  have hl2 := r2.length
  have hsz : its.toArray.size + its2.toArray.size ≤ sizeLine := by rw [List.size_toArray, List.size_toArray]; omega
  have hlong : ¬ (!its.toArray.isEmpty && Builtin.List.listTooLong (its.toArray.size + its2.toArray.size)) = true := by
    rw [notLongL hsz, Bool.and_false]
    exact Bool.false_ne_true
  refine call_meets F.slot_list_extend ⟨_, e, rfl⟩ F.entry_list_extend (F.args_list_extend_2 _ _)
    (extend_tup l its.toArray n b its2.toArray n2 dd sls hlong (by rw [List.size_toArray]; omega) (by omega)) ⟨e, ho, ?_⟩
  refine ⟨.non, _, I.lset (its' := its ++ its2) hH e (by simp) (r.append r2) ?_, rfl, q⟩
  rw [List.length_append]
  omega
end
end CT

set_option maxHeartbeats 2000000
namespace CT
open PySem PySem.Spec PyProof.Rows L2
/-! ### enumerate of a tuple -/
theorem enum_new_tup (l : Addr) (items : Array Value) : Meets (Builtin.«enumerate.__new__» ⟨[.type "enumerate", .ref l], []⟩) (fun _ R s => s.heap.IsTuple l items ∧
      R (.ok (.ret (.ref (s.heap.push { cls := .type "tuple_iterator", data := .fields #[.ref l, .int 0 0] }).objs.size)))
        { s with heap := (s.heap.push { cls := .type "tuple_iterator", data := .fields #[.ref l, .int 0 0] }).push { cls := .type "enumerate", data := .fields #[.none, .bool false, .ref s.heap.objs.size, rawInt 0, .none, .none] } }) :=
  .of_wp fun prog w A R s h => by
    obtain ⟨hp, g, d, tk, os⟩ := s
    obtain ⟨hl, h⟩ := h
    have hsub := sub_enumerate
    have q1 : ∀ {A' : Around} {E : Value → Shared → Prop} {Q : Value → Shared → Prop}, Q (.ref hp.objs.size) ⟨hp.push { cls := .type "tuple_iterator", data := .fields #[.ref l, .int 0 0] }, g, d, tk, os⟩ → wpAny (model prog w) A' (pyIter (.ref l)) Q E ⟨hp, g, d, tk, os⟩ :=
      fun q => wpAny_pyIter_tuple hl q
    wp_walk using q1
    refine wpAny_stack_any fun st => wpAny_pure ?_
    split
    · rename_i c _ _ _ _ _
      cases (c == Value.type "enumerate")
      · wp_walk using q1
        exact ⟨_, rfl, h⟩
      · wp_walk using q1
        exact ⟨_, rfl, h⟩
    · wp_walk using q1
      exact ⟨_, rfl, h⟩
section
variable {prog : Program} {w : World} {A : Around} {E : Value → Shared → Prop} {s : Shared}
theorem call_enum_tup {l : Addr} {items : Array Value} {Q : Value → Shared → Prop} (hL : s.heap.IsTuple l items)
    (h : ∀ h', IsEnum h' (s.heap.objs.size + 1) s.heap.objs.size 0 .none → h'.IsTupleIter s.heap.objs.size l 0 → h'.objs.size = s.heap.objs.size + 2 →
      (∀ b o, s.heap.get? b = some o → h'.get? b = some o) → Q (.ref (s.heap.objs.size + 1)) { s with heap := h' }) :
    wpAny (model prog w) A (call (.type "enumerate") [.ref l]) Q E s := by
  refine callType_new F.called_enumerate (by decide) (F.typeCall_enumerate_1 _) (F.newCall_enumerate_1 _) (fun obj => F.args_object_init_2 obj _) F.entry_enumerate_new (enum_new_tup l items) ⟨hL, ?_⟩
  have hz : (s.heap.push { cls := .type "tuple_iterator", data := .fields #[.ref l, .int 0 0] }).objs.size = s.heap.objs.size + 1 := Heap.size_push ..
  have he : IsEnum ((s.heap.push { cls := .type "tuple_iterator", data := .fields #[.ref l, .int 0 0] }).push { cls := .type "enumerate", data := .fields #[.none, .bool false, .ref s.heap.objs.size, rawInt 0, .none, .none] }) (s.heap.objs.size + 1) s.heap.objs.size 0 .none := by
    have z := Heap.get?_push_size (s.heap.push { cls := .type "tuple_iterator", data := .fields #[.ref l, .int 0 0] }) (o := { cls := .type "enumerate", data := .fields #[.none, .bool false, .ref s.heap.objs.size, rawInt 0, .none, .none] }) rfl
    rw [hz] at z
    exact z
  show _ ∧ _
  rw [hz]
  exact ⟨⟨_, he, rfl⟩, h _ he ⟨_, Heap.get?_push_of_some _ (Heap.get?_push_size _ rfl), rfl, rfl⟩ (by rw [Heap.size_push, hz]) fun b o x => Heap.get?_push_of_some _ (Heap.get?_push_of_some _ x)⟩
end
/-- the tuple at a, each item in a new pair with its place -/
def IteT (K : PySem.W.Frag) (a : Addr) : It :=
  ⟨fun i H => ∃ (xs : List V) (x : V), SqT K H a xs ∧ xs[i]? = some x, fun i H v H' => ∃ T x, v = .ref T ∧ H T = none ∧ H' = upd H T (.tup [.int (i : Nat), x]) ∧ ∀ xs, SqT K H a xs → xs[i]? = some x, fun i H => ∃ xs : List V, SqT K H a xs ∧ xs.length ≤ i⟩
theorem turn_enumT {P : Program} {w : World} {K : PySem.W.Frag} {elts : List Expr} {kk : Nat} {tpos : Pos} (a e it : Addr) :
    Turn P w K (.Tuple elts kk tpos) (IteT K a) [e, it] e (fun i h => (∃ old, IsEnum h e it ((i : Nat) : Int) old) ∧ h.IsTupleIter it a i ∧ e ≠ it ∧ a ≠ it ∧ e ≠ a) where
  mem := by simp
  obj := fun i h st b hb => by
    obtain ⟨⟨old, he⟩, ⟨o, ho, hc, hd⟩, _⟩ := st
    rcases List.mem_cons.mp hb with z | z
    · rw [z]; exact ⟨_, he, fun v q => nomatch q⟩
    · rw [List.mem_singleton.mp z]; exact ⟨o, ho, fun v q => by rw [hd] at q; cases q⟩
  keep := fun i h h' st k => let ⟨⟨old, he⟩, hi, hne⟩ := st; ⟨⟨old, k e (by simp) _ he⟩, hi.at fun o q => k it (by simp) o q, hne⟩
  item := by
    intro X hP hw hK hc i pins s σ H E I hf st hg
    subst hP hw hK
    obtain ⟨⟨old, he⟩, hit, hne, hai, hea⟩ := st
    obtain ⟨xs, x, hq, hx⟩ := hg
    obtain ⟨its, rv, p, hz⟩ := I.tuple hq
    obtain ⟨u, hu, ru⟩ := rv.get hx
    have hil : i < its.toArray.size := by
      have z := (List.getElem?_eq_some_iff.mp hu).1
      simpa using z
    have hel : e < s.heap.objs.size := Heap.lt_size he
    have hitl : it < s.heap.objs.size := by obtain ⟨_, q, _⟩ := hit; exact Heap.lt_size q
    have D := Draws.tuple (prog := X.prog) (w := X.w) (A := X.A.in1) (I.ok.hd hc) it a hai its.toArray
    refine wpAny_pyNext_enum_itemD D he ⟨hit, show s.heap.IsTuple a its.toArray from p⟩ hil hne (by simp [hne, hea]) fun y h' tk hy ho hs' hT hsz hk => ?_
    have ey : y = u := by
      have z : its.toArray[i]? = some u := by simpa using hu
      exact Option.some.inj (hy.symm.trans z)
    subst ey
    refine ⟨_, rfl, wpAny_letOwnedTupleGo_enum (s := { s with heap := h', toks := tk + 1 }) ho fun h'' he' sb => ?_⟩
    have hT2 : h''.get? s.heap.objs.size = some { cls := .type "tuple", data := .seq #[.int i tk, y] } := (sb.2 _ (Nat.ne_of_gt hel)).trans hT
    have new : ObjOk X.prog X.w (upd H s.heap.objs.size (.tup [.int (i : Nat), x])) h'' s.heap.objs.size (.tup [.int (i : Nat), x]) :=
      ⟨by show 2 ≤ sizeLine; decide, [.int i tk, y], .cons ⟨_, rfl⟩ (.cons ru .nil), ⟨_, hT2, rfl, _, rfl⟩⟩
    have I1 : Inv X pins σ (upd H s.heap.objs.size (.tup [.int (i : Nat), x])) { s with heap := h'', toks := tk + 1 } :=
      I.turnedNew (ch := [e, it]) (fun b ob hb q => (sb.2 b (fun z => hb (by simp [z]))).trans (hk b ob (fun z => hb (by simp [z])) (fun z => hb (by simp [z])) q)) hf (Nat.le_refl _) new
    refine ⟨.ref s.heap.objs.size, _, I1, rfl, ⟨_, x, rfl, I.hok.fresh (Nat.le_refl _), rfl, fun ys hy => by rw [I.tuple_inj hy hq]; exact hx⟩, ⟨⟨y, ?_⟩, hs'.1.at fun o q => (sb.2 it (Ne.symm hne)).trans q, hne, hai, hea⟩, fun b hb => ?_⟩
    · have e1 : ((i + 1 : Nat) : Int) = (i : Int) + 1 := by omega
      rw [e1]; exact he'
    · have hb' : b < s.heap.objs.size := by
        rcases List.mem_cons.mp hb with z | z
        · rw [z]; exact hel
        · rw [List.mem_singleton.mp z]; exact hitl
      rw [upd_ne (Nat.ne_of_lt hb')]
      exact (hf b hb).1
  done := by
    intro X hP hw hK hc i pins s σ H E I hf st hg
    subst hP hw hK
    obtain ⟨⟨old, he⟩, hit, hne, hai, hea⟩ := st
    obtain ⟨xs, hq, hx⟩ := hg
    obtain ⟨its, rv, p, hz⟩ := I.tuple hq
    obtain ⟨f0, f1, f2, f3, f4, f5⟩ := hf it (by simp)
    have hl := rv.length
    have hT : s.TypeIs (.ref e) "enumerate" := ⟨_, he, rfl⟩
    unfold pyNext
    refine wpAny_bind (wpAny_attempt (wpAny_callSpecial?_slot (name := Str.ofString "__next__") hT F.slot_enumerate_next
      (wpAny_call_entry F.slot_enumerate_next hT F.entry_enumerate_next ?_ (F.args_enumerate_next_1 _))))
    show wpAny _ _ (field (.ref e) 2 >>= _) _ _ _
    refine wpAny_bind (wpAny_field he rfl (x := .ref it) rfl ?_)
    refine wpAny_bind (wpAny_nextOf_tuple_end (show X.A.in1.handled = none from I.ok.hd hc) hit (show s.heap.IsTuple a its.toArray from p) (by simp; omega) fun h' u eb hx' => ?_)
    obtain ⟨o, ho, hc'⟩ := hx'
    refine wpAny_bind (wpAny_isInstance (T := "StopIteration") (b := true) ⟨o, ho, hc'⟩ isSubtype_stop ?_)
    exact wpAny_pure ⟨rfl, I.turned (t' := s.toks) (fun b o hb q => eb b o hb q) f0 f1 f3 f4 f5⟩
  self := fun A i s Q E st h => let ⟨⟨_, he⟩, _⟩ := st; wpAny_pyIter_enum he h
def iEnumT (K : PySem.W.Frag) (ta : TA) : TI := fun σ H R => ta σ H fun vs H1 => ∃ a xs, vs = [.ref a] ∧ SqT K H1 a xs ∧ R (IteT K a) H1
theorem pi_enumT {X : Cx} {e : Expr} {ta : TA} {p pos tpos : Pos} {elts : List Expr} {kk : Nat} (hg : Gl X "enumerate") (hm : X.mg "enumerate" = none) (ha : PA X [e] ta) (hs : starEach [e] X.env = [(false, eval e X.env)] := by rfl) :
    PI X (.Tuple elts kk tpos) (.Call (.Name "enumerate" p) [e] [] pos) (iEnumT X.K ta) := by
  refine ⟨fun pins s σ H R I h => ?_⟩
  refine Call_ (ld_blt I hg hm boot_enumerate (PyProof.Rows.callWith_type1 (thn (ha.run pos pins s σ H _ I h) fun us s1 ⟨vs, H1, I1, r1, q1⟩ => ?_) hs rfl))
  obtain ⟨a, xs, ex, hq, q⟩ := q1
  subst ex
  obtain ⟨u, rfl, ru⟩ := r1.one
  cases ru
  obtain ⟨its, rv, p', hz⟩ := I1.tuple hq
  have hal : a < s1.heap.objs.size := by obtain ⟨_, z, _⟩ := id p'; exact Heap.lt_size z
  refine call_enum_tup (show s1.heap.IsTuple a its.toArray from p') fun h' he hit hsz hk => wpAny_pyIter_enum he ?_
  have I2 : Inv X pins σ H1 { s1 with heap := h' } := I1.kept (t' := s1.toks) hk
  refine ⟨s1.heap.objs.size + 1, [s1.heap.objs.size + 1, s1.heap.objs.size], _, _, H1, rfl, I2, turn_enumT a (s1.heap.objs.size + 1) s1.heap.objs.size, ⟨⟨.none, he⟩, hit, Nat.succ_ne_self _, Nat.ne_of_lt hal, Ne.symm (Nat.ne_of_lt (Nat.lt_succ_of_lt hal))⟩, fun b hb => ?_, q⟩
  have hle : s1.heap.objs.size ≤ b := by
    rcases List.mem_cons.mp hb with z | z
    · rw [z]; exact Nat.le_add_right _ _
    · rw [List.mem_singleton.mp z]; exact Nat.le_refl _
  exact I1.fpOk hle (I1.hok.fresh hle)
theorem walk_enumT {K : PySem.W.Frag} {a : Addr} {xs : List V} : Walk (IteT K a) xs.length (fun H => SqT K H a xs) (YPair (fun i => some (.int (i : Nat))) (fun i => xs[i]?)) := by
  refine ⟨fun i _ hi q => ⟨xs, xs[i], q, by simp [hi]⟩, fun _ q => ⟨xs, q, Nat.le_refl _⟩, fun i H v H' _ q y => ?_⟩
  obtain ⟨T, x, h1, h2, h3, h4⟩ := y
  exact ⟨T, .int (i : Nat), x, h1, h2, h3, rfl, h4 xs q⟩
theorem walk_zipT {K : PySem.W.Frag} {a b : Addr} {xs ys : List V} {n : Nat} (hn : n = min xs.length ys.length) : Walk (RZ.ItzT K a b) n (fun H => SqT K H a xs ∧ SqT K H b ys) (YPair (fun i => xs[i]?) (fun i => ys[i]?)) := by
  subst hn
  refine ⟨fun i _ hi q => ?_, fun _ q => ⟨xs, ys, q.1, q.2, by omega⟩, fun i H v H' _ q y => ?_⟩
  · have h1 : i < xs.length := by omega
    have h2 : i < ys.length := by omega
    exact ⟨xs, ys, xs[i], ys[i], q.1, q.2, by simp [h1], by simp [h2]⟩
  · obtain ⟨T, x, z, h1, h2, h3, h4, h5⟩ := y
    exact ⟨T, x, z, h1, h2, h3, h4 xs q.1, h5 ys q.2⟩
end CT

set_option maxHeartbeats 2000000
namespace CT
open PySem PySem.Spec PyProof.Rows L2
/-! ### x != y where the class has an own __eq__ alone -/
theorem ne_bind (self : Value) : bindSpecial (.builtin "object.__ne__") self = pure (.builtin "object.__ne__", [self]) :=
  (Slot.of (T := "object") (name := "__ne__") (owner := "object") (n := "__ne__") (by rw [typeLookup_type, builtinLookup_eq_fast]; kernel_rfl) (by decide +kernel) (by decide +kernel) (by decide +kernel)
    (.inl (by decide +kernel)) (by rw [isSubtype_type]; kernel_rfl)).bind self
section
variable {M : Model} {A : Around} {E : Value → Shared → Prop} {s : Shared} {K : PySem.W.Frag} {x C f : Addr} {ox : Obj} {od : Option Obj} {b : Value}
theorem ifBound_ne {Q : Option Value → Shared → Prop} (X : K.In s.heap) (I : PySem.W.InstAt s.heap x ox C od) (hs : PySem.W.findIn K (.ref C) "__ne__" = some (some (.builtin "object.__ne__")))
    (h : wpAny M A (call (.builtin "object.__ne__") [.ref x, b]) (fun v => Q (some v)) E s) : wpAny M A (callSpecialIfBound? (.ref x) "__ne__" [b]) Q E s := by
  simp only [callSpecialIfBound?, bindSpecialIfBound?]
  refine wpAny_holding (wpAny_bind (wpAny_bind (wpAny_bind (I.type.here ((PySem.W.looks_findIn X hs).here ?_)))))
  refine wpAny_bind (wpAny_askSetting (wpAny_ite ?_))
  have fin : wpAny M A (call (.builtin "object.__ne__") ([.ref x] ++ [b]) >>= fun v => pure (some v)) Q E s := wpAny_bind (wpAny_mono h (fun v s' h' => wpAny_pure h') fun _ _ h' => h')
  split
  · rw [ne_bind]
    exact wpAny_bind (wpAny_pure (wpAny_pure fin))
  · rw [ne_bind]
    exact wpAny_tryCatch (wpAny_bind (wpAny_pure (wpAny_pure fin)))
end
section
variable {X : Cx} {CX : CXT} {k : Nat} {g C p : Addr} {sp : Sp} {E : XK}
structure NeOwn (K : PySem.W.Frag) (C g : Addr) : Prop where
  ne : PySem.W.findIn K (.ref C) "__ne__" = some (some (.builtin "object.__ne__"))
  eq : PySem.W.findIn K (.ref C) "__eq__" = some (some (.ref g))
  fn : PySem.W.isFn K (.ref g) = true
  ob : PySem.W.mroIn K C (.type "object") = some true
def rNeOwn (K : PySem.W.Frag) (C : Addr) (sp : Sp) (E : XK) : R2 := fun x y H Q => ∃ a dx fs b C' dy gs, x = .ref a ∧ y = .ref b ∧ H a = some (.ins C dx fs) ∧ H b = some (.ins C' dy gs) ∧ PySem.W.notFirst K C (.ref C') = true ∧ sp [x, y] H (fun z H' => ∃ c, z = .bl c ∧ Q (.bl (!c)) H') E
theorem op_neOwn (n : NeOwn X.K C g) (Fn : FnR X.prog X.w X.K X.mg X.base CX k g sp) (hr : Room (k + 1) X.A) (hx : Passes CX X E) : OpR X (compareOp .NotEq) (rNeOwn X.K C sp E) := by
  intro pins s σ H x y v u Q I rx ry h
  obtain ⟨a, dx, fs, b, C', dy, gs, rfl, rfl, ha, hb, hn, q⟩ := h
  cases (show v = Value.ref a from rx)
  cases (show u = Value.ref b from ry)
  obtain ⟨ox, od, J, _⟩ := ins_inst I ha
  obtain ⟨ox', od', J', _⟩ := ins_inst I hb
  have hr2 : Room k X.A.in1 := Room.in1 hr
  have hsub : PySem.W.Looks (model X.prog X.w) s.heap (isInstance (.ref a) (.type "object")) true := J.type.andThen (PySem.W.looks_mroIn I.kIn n.ob)
  have inner : wpAny (model X.prog X.w) X.A (call (.builtin "object.__ne__") [.ref a, .ref b]) (EP X pins σ Q) X.xe s := by
    refine wpAny_call (codeAny_call_builtin (by decide +kernel) PySem.F.cmpEntry_ne (PySem.W.check_slot PySem.F.cmpKind_ne PySem.F.cmpSplit_ne hsub (PySem.F.cmpArgs_ne _ _) ?_))
    unfold Builtin.«object.__ne__»
    refine wpAny_bind (wpAny_pure ?_)
    refine wpAny_bind (wpAny_cRoomFor hr2.units0 ?_)
    refine wpAny_bind (PySem.W.ifBound_K I.kIn J n.eq n.fn (wpAny_mono (wpAny_call (SlX.run_at (us := [.ref a, .ref b]) (ws := [.ref a, .ref b]) Fn hr2 I.env0.in1 hx I (.cons rfl (.cons rfl .nil)) q)) (fun w s' z => ?_) fun _ _ x => x))
    obtain ⟨z', H', I', rz, c, ec, qz⟩ := z
    subst ec
    cases (show w = Value.bool c from rz)
    refine wpAny_bind (wpAny_pure (a := c) ?_)
    exact wpAny_pure ⟨.bl (!c), H', I', rfl, qz⟩
  show wpAny _ _ (richCompare .NotEq (.ref a) (.ref b)) _ _ _
  have one : wpAny (model X.prog X.w) X.A (tryCompare (.ref a) "__ne__" (.ref b)) (fun r s' => ∃ v, r = some v ∧ EP X pins σ Q v s') X.xe s := by
    unfold tryCompare
    refine wpAny_bind (ifBound_ne I.kIn J n.ne (wpAny_mono inner (fun v s' hv => ?_) fun _ _ e => e))
    have hv2 : PySem.W.CmpBack (EP X pins σ Q) v s' := by
      obtain ⟨z', H', I', rz, qz⟩ := hv
      exact SlX.cmpback rz ⟨z', H', I', rz, qz⟩
    cases v <;> first | exact hv2.elim | exact wpAny_pure ⟨_, rfl, hv2⟩
  unfold richCompare
  simp only [oneThing_ref]
  refine wpAny_holding (wpAny_bind (wpAny_cRoomFor hr.units0 ?_))
  refine wpAny_bind (J.type.here (wpAny_bind (J'.type.here ?_)))
  split
  · rename_i q2
    have e2 : PySem.W.subIn X.K (.ref C') (.ref C) = some false := by
      rcases Bool.or_eq_true_iff.mp hn with e2 | e2
      · rw [beq_iff_eq.mp e2] at q2; simp at q2
      · exact beq_iff_eq.mp e2
    refine wpAny_bind ((PySem.W.looks_subIn I.kIn e2).here ?_)
    simp only [Bool.false_eq_true, if_false]
    refine wpAny_bind (wpAny_mono one (fun r s' z => ?_) fun _ _ e => e)
    obtain ⟨v, rfl, hq⟩ := z
    exact wpAny_pure hq
  · refine wpAny_bind (wpAny_pure ?_)
    simp only [Bool.false_eq_true, if_false]
    refine wpAny_bind (wpAny_mono one (fun r s' z => ?_) fun _ _ e => e)
    obtain ⟨v, rfl, hq⟩ := z
    exact wpAny_pure hq
end
end CT

set_option maxHeartbeats 2000000
namespace CT
open PySem PySem.Spec PyProof.Rows L2
/-! ### tuples whose object is known: their methods -/
def PTup (ob : Obj) : Prop := ob.cls = .type "tuple" ∧ ob.dict = none
/-- tuple(list): the object known to be without a dict -/
def rTupF (K : PySem.W.Frag) : List V → Hp → VK → Prop := fun xs H Q => ∃ p ys, xs = [V.ref p] ∧ SqL K H p ys ∧ ∀ l ob, H l = none → PTup ob → Q (.ref l) (upd H l (.frz ob (.tup ys)))
section
variable {X : Cx}
theorem call_tuple_frz : CallR X (.type "tuple") (rTupF X.K) := by
  intro pins s σ H xs us Q I r h
  obtain ⟨p, ys, rfl, hq, q⟩ := h
  obtain ⟨u, rfl, rx⟩ := r.one
  cases rx
  obtain ⟨its, r', pl, hz⟩ := I.list hq
  have hlen := r'.length
  refine call_tuple_list pl.isList (fun h' kp => ?_) (by simp only [List.size_toArray] <;> omega)
  have I1 : Inv X pins σ H { s with heap := h' } := I.kept (t' := s.toks) kp
  have g : (h'.push { cls := .type "tuple", data := .seq its.toArray }).get? h'.objs.size = some { cls := .type "tuple", data := .seq its.toArray } := Heap.get?_push_size _ rfl
  have I2 : Inv X pins σ (upd H h'.objs.size (.frz { cls := .type "tuple", data := .seq its.toArray } (.tup ys))) { s with heap := h'.push { cls := .type "tuple", data := .seq its.toArray } } :=
    I1.laid (t' := s.toks) (fun b o e => Heap.get?_push_of_some _ e) (Nat.le_refl _) (show ObjOk X.prog X.w _ _ _ (.frz _ (.tup ys)) from ⟨g, hz, its, r', IsTup.new _ _⟩)
  exact ⟨.ref h'.objs.size, _, I2, rfl, q _ _ (I1.hok.fresh (Nat.le_refl _)) ⟨rfl, rfl⟩⟩
def tTM (r : V → List V → Hp → VK → Prop) (to : TE) (t : TA) : TE := fun σ H Q => to σ H fun x H1 => (∃ a ob u, x = .ref a ∧ H1 a = some (.frz ob u) ∧ PTup ob) ∧ t σ H1 fun xs H2 => r x xs H2 Q
variable {o e : Expr} {es : List Expr} {to : TE} {t : TA} {name : Str} {apos cpos : Pos} {id : String} {r : V → List V → Hp → VK → Prop}
theorem pe_tm (slot : Slot "tuple" name id) (hty : typeOf (.builtin id) = pure (.type "method_descriptor")) (hm : MtR X id r) (ho : PE X o to) (ha : PA X (e :: es) t)
    (hbase : attributeBase o name X.env (eval o X.env) = eval o X.env := by rfl)
    (hfew : ((backTo cpos (starEach (e :: es) X.env)).all (fun x => !x.1) && (backToKw cpos (keywordEach [] X.env)).all (fun x => x.1.isSome)
      && decide ((e :: es).length + ([] : List Keyword).length + (if ([] : List Keyword).isEmpty then 0 else 1) < 30)) = true := by rfl)
    (hline : (apos.endLine == cpos.line) = true := by rfl) (hs : starEach (e :: es) X.env = (false, eval e X.env) :: starEach es X.env := by rfl) (hplain : (backTo cpos (starEach es X.env)).any (·.1) = false := by rfl) :
    PE X (.Call (.Attribute o name apos) (e :: es) [] cpos) (tTM r to t) := by
  refine ⟨fun pins s σ H Q I h => ?_⟩
  refine wpAny_Call_method_late hbase hfew hline rfl (thn (ho.run pins s σ H _ I h) fun v s1 ⟨x, H1, I1, r1, ⟨a, ob, u, ex, hob, pt⟩, q1⟩ => ?_)
  subst ex
  cases r1
  obtain ⟨g, _⟩ := I1.hok a _ hob
  refine ⟨"tuple", id, PySem.F.plainAttrs_tuple, slot, hty, ⟨ob, g, pt.1⟩, (fun b e2 => ?_), ?_⟩
  · cases e2
    exact ⟨ob, g, pt.2⟩
  have hA := ha.run cpos pins s1 σ H1 _ I1 q1
  rw [hs] at hA ⊢
  refine Calls.callWith_builtin (by show (false || (backTo cpos (starEach es X.env)).any (·.1)) = false; rw [hplain] <;> rfl) (Calls.evalArgs_plain ?_)
  exact thn hA fun us s2 ⟨vs, H2, I2, r2, q2⟩ => hm pins s2 σ H2 (.ref a) vs (.ref a) us Q I2 rfl r2 q2
theorem SqT.frz {K : PySem.W.Frag} {H : Hp} {a : Addr} {ob : Obj} {xs : List V} (h : H a = some (.frz ob (.tup xs))) : SqT K H a xs := .inl (.inr ⟨ob, h⟩)
end
end CT

set_option maxHeartbeats 2000000
namespace CT
open PySem PySem.Spec PyProof.Rows L2 He
/-! ### further facts of the text, by names -/
def pa (K : PySem.W.Frag) (x f : Str) : Addr := ma K (ga K x) f
def recHead (K : PySem.W.Frag) (p : Addr) (T : String) : Addr := match PySem.W.recIn K p T with
  | some (.ref g :: _) => g
  | _ => 0
/-- a property's getter -/
def pg (K : PySem.W.Frag) (x f : Str) : Addr := recHead K (pa K x f) "property"
/-- a static method's def -/
def sg (K : PySem.W.Frag) (x f : Str) : Addr := recHead K (pa K x f) "staticmethod"
def cg (K : PySem.W.Frag) (x f : Str) : Addr := recHead K (pa K x f) "classmethod"
def recOk (K : PySem.W.Frag) (p g : Addr) (T : String) : Bool := match PySem.W.recIn K p T with
  | some (.ref h :: _) => h == g
  | _ => false
theorem recOk_ok {K : PySem.W.Frag} {p g : Addr} {T : String} (h : recOk K p g T = true) : ∃ rest, PySem.W.recIn K p T = some (.ref g :: rest) := by
  unfold recOk at h
  cases e : PySem.W.recIn K p T with
  | none => rw [e] at h; cases h
  | some l =>
    rw [e] at h
    cases l with
    | nil => cases h
    | cons a r =>
      cases a with
      | ref b =>
        have e2 : b = g := beq_iff_eq.mp h
        subst e2
        exact ⟨r, rfl⟩
      | _ => cases h
inductive Fx where
  | prop (x f : Str)
  | cval (x f : Str) (i : Int)
  | own (x m : Str)
  | sfirst (x : Str)
  | noslot (x : Str) (nm : String)
  | smet (x m : Str)
  | cmet (x m : Str)
  | tyc (x : Str)
  | kit (x y : Str) (b : Bool)
  | kitT (x : Str) (n : String) (b : Bool)
  | notf (x y : Str)
  | neo (x : Str)
def mroTwo (K : PySem.W.Frag) (C : Addr) : Bool := (PySem.W.clsIn K C).any fun cd => decide (cd.mro = [.ref C, .type "object"])
def Fx.ok (K : PySem.W.Frag) : Fx → Bool
  | .prop x f => eqO (PySem.W.findIn K (.ref (ga K x)) f) (some (some (.ref (pa K x f)))) && (eqO (PySem.W.specialIn K (.ref (pa K x f)) "__get__") (some (some (.builtin "property.__get__"))) &&
      (decide (PySem.W.takesIn K (.ref (pa K x f)) = some true) && recOk K (pa K x f) (pg K x f) "property"))
  | .cval x f i => PySem.W.readsIn K (ga K x) (.type "type") && (eqO (PySem.W.specialIn K (.ref (ga K x)) "__getattribute__") (some (some (.builtin "type.__getattribute__"))) && (match PySem.W.findCls K (.ref (ga K x)) (.type "type") f with
      | some (.val (.int j _)) => decide (j = i)
      | _ => false))
  | .own x m => eqO (PySem.W.findIn K (.ref (ga K x)) m) (some (some (.ref (ma K (ga K x) m)))) && (PySem.W.isFn K (.ref (ma K (ga K x) m)) && PySem.W.fnIn K (ma K (ga K x) m))
  | .sfirst x => PySem.W.selfFirst K (ga K x)
  | .noslot x nm => mroTwo K (ga K x) && ((eqO (PySem.W.findIn K (.ref (ga K x)) (PySem.dunder nm)) (some none) && eqO (PySem.W.findIn K (.ref (ga K x)) (dunderR nm)) (some none)) &&
      (eqO (PySem.W.findIn K (.type "object") (PySem.dunder nm)) (some none) && eqO (PySem.W.findIn K (.type "object") (dunderR nm)) (some none)))
  | .smet x m => PySem.W.readsIn K (ga K x) (.type "type") && (eqO (PySem.W.specialIn K (.ref (ga K x)) "__getattribute__") (some (some (.builtin "type.__getattribute__"))) && ((match PySem.W.findCls K (.ref (ga K x)) (.type "type") m with
      | some (.get (.builtin b) (.ref p) .none (.ref C)) => b == "staticmethod.__get__" && (p == pa K x m && C == ga K x)
      | _ => false) && (recOk K (pa K x m) (sg K x m) "staticmethod" && PySem.W.keepIn K (.ref (sg K x m)))))
  | .cmet x m => PySem.W.readsIn K (ga K x) (.type "type") && (eqO (PySem.W.specialIn K (.ref (ga K x)) "__getattribute__") (some (some (.builtin "type.__getattribute__"))) && ((match PySem.W.findCls K (.ref (ga K x)) (.type "type") m with
      | some (.get (.builtin b) (.ref p) .none (.ref C)) => b == "classmethod.__get__" && (p == pa K x m && C == ga K x)
      | _ => false) && (recOk K (pa K x m) (cg K x m) "classmethod" && PySem.W.fnIn K (cg K x m))))
  | .tyc x => eqO (PySem.W.findIn K (.ref (ga K x)) "__class__") (some (some (.builtin "object.__class__"))) && (eqO (PySem.W.specialIn K (.builtin "object.__class__") "__get__") (some (some (.builtin "getset_descriptor.__get__"))) &&
      (decide (PySem.W.takesIn K (.builtin "object.__class__") = some true) && decide (PySem.W.mroIn K (ga K x) (.type "object") = some true)))
  | .kit x y b => decide (PySem.W.kitOne K (.ref (ga K x)) (.ref (ga K y)) = some b)
  | .kitT x n b => decide (PySem.W.kitOne K (.ref (ga K x)) (.type n) = some b)
  | .notf x y => PySem.W.notFirst K (ga K x) (.ref (ga K y))
  | .neo x => eqO (PySem.W.findIn K (.ref (ga K x)) "__ne__") (some (some (.builtin "object.__ne__"))) && decide (PySem.W.mroIn K (ga K x) (.type "object") = some true)
section
variable {K : PySem.W.Frag} {x y f m : Str} {i : Int} {b : Bool} {n nm : String}
theorem prop_fx (c : (Fx.prop x f).ok K = true) : PropOf K (ga K x) f (pa K x f) (pg K x f) := by
  obtain ⟨c1, c⟩ := ba c
  obtain ⟨c2, c⟩ := ba c
  obtain ⟨c3, c⟩ := ba c
  exact ⟨eqO_ok c1, eqO_ok c2, of_decide_eq_true c3, recOk_ok c⟩
theorem cval_fx (c : (Fx.cval x f i).ok K = true) : ClX.CRead K (ga K x) (.type "type") ∧ ∃ t, ClX.CVal K (ga K x) (.type "type") f (.int i) (.int i t) := by
  obtain ⟨c1, c⟩ := ba c
  obtain ⟨c2, c⟩ := ba c
  refine ⟨⟨c1, eqO_ok c2⟩, ?_⟩
  cases e : PySem.W.findCls K (.ref (ga K x)) (.type "type") f with
  | none => rw [e] at c; cases c
  | some r =>
    rw [e] at c
    cases r with
    | get => cases c
    | val v =>
      cases v with
      | int j t =>
        have ej : j = i := of_decide_eq_true c
        subst ej
        exact ⟨t, e, ⟨t, rfl⟩⟩
      | _ => cases c
structure OwnM (K : PySem.W.Frag) (C : Addr) (m : Str) (g : Addr) : Prop where
  at_ : PySem.W.findIn K (.ref C) m = some (some (.ref g))
  fn : PySem.W.isFn K (.ref g) = true
  fi : PySem.W.fnIn K g = true
theorem own_fx (c : (Fx.own x m).ok K = true) : OwnM K (ga K x) m (ma K (ga K x) m) := by
  obtain ⟨c1, c⟩ := ba c
  obtain ⟨c2, c3⟩ := ba c
  exact ⟨eqO_ok c1, c2, c3⟩
theorem noslot_fx (c : (Fx.noslot x nm).ok K = true) : NoSlot K (ga K x) nm := by
  obtain ⟨c1, c⟩ := ba c
  obtain ⟨c2, c3⟩ := ba c
  obtain ⟨c4, c5⟩ := ba c2
  obtain ⟨c6, c7⟩ := ba c3
  obtain ⟨cd, h1, h2⟩ := PySem.W.any_some c1
  exact ⟨⟨cd, h1, of_decide_eq_true h2⟩, eqO_ok c4, eqO_ok c5, eqO_ok c6, eqO_ok c7⟩
theorem smet_fx (c : (Fx.smet x m).ok K = true) : ClX.CRead K (ga K x) (.type "type") ∧ SMet K (ga K x) (.type "type") m (pa K x m) (sg K x m) := by
  obtain ⟨c1, c⟩ := ba c
  obtain ⟨c2, c⟩ := ba c
  obtain ⟨c3, c⟩ := ba c
  obtain ⟨c4, c5⟩ := ba c
  refine ⟨⟨c1, eqO_ok c2⟩, ⟨?_, recOk_ok c4, c5⟩⟩
  split at c3
  · rename_i bb p C e
    obtain ⟨d1, d2⟩ := ba c3
    obtain ⟨d3, d4⟩ := ba d2
    rw [beq_iff_eq.mp d1, beq_iff_eq.mp d3, beq_iff_eq.mp d4] at e
    exact e
  · cases c3
theorem cmet_fx (c : (Fx.cmet x m).ok K = true) : ClX.CRead K (ga K x) (.type "type") ∧ ClX.CMet K (ga K x) (.type "type") m (pa K x m) (cg K x m) := by
  obtain ⟨c1, c⟩ := ba c
  obtain ⟨c2, c⟩ := ba c
  obtain ⟨c3, c⟩ := ba c
  obtain ⟨c4, c5⟩ := ba c
  refine ⟨⟨c1, eqO_ok c2⟩, ⟨?_, recOk_ok c4, c5⟩⟩
  split at c3
  · rename_i bb p C e
    obtain ⟨d1, d2⟩ := ba c3
    obtain ⟨d3, d4⟩ := ba d2
    rw [beq_iff_eq.mp d1, beq_iff_eq.mp d3, beq_iff_eq.mp d4] at e
    exact e
  · cases c3
/-- what isinstance asks of a class -/
structure TyC (K : PySem.W.Frag) (C : Addr) : Prop where
  ha : PySem.W.findIn K (.ref C) "__class__" = some (some (.builtin "object.__class__"))
  hn : PySem.W.specialIn K (.builtin "object.__class__") "__get__" = some (some (.builtin "getset_descriptor.__get__"))
  ht : PySem.W.takesIn K (.builtin "object.__class__") = some true
  hm : PySem.W.mroIn K C (.type "object") = some true
theorem tyc_fx (c : (Fx.tyc x).ok K = true) : TyC K (ga K x) := by
  obtain ⟨c1, c⟩ := ba c
  obtain ⟨c2, c⟩ := ba c
  obtain ⟨c3, c4⟩ := ba c
  exact ⟨eqO_ok c1, eqO_ok c2, of_decide_eq_true c3, of_decide_eq_true c4⟩
theorem TyC.of {H : Hp} {a C dx : Addr} {fs : List (Str × V)} (t : TyC K C) (c : Cls K C) (e : H a = some (.ins C dx fs)) : TyX K H (.ref a) (.ref C) := .base (.ins e c t.ha t.hn t.ht t.hm)
theorem neo_fx (c : (Fx.neo x).ok K = true) (o : OwnM K (ga K x) "__eq__" (ma K (ga K x) "__eq__")) : NeOwn K (ga K x) (ma K (ga K x) "__eq__") := by
  obtain ⟨c1, c2⟩ := ba c
  exact ⟨eqO_ok c1, o.at_, o.fn, of_decide_eq_true c2⟩
end
end CT

set_option maxHeartbeats 2000000
namespace L2
open PySem PySem.Spec PyProof.Rows He CT
/-! ### heaps: what stays -/
/-- the first item is no int -/
def NoInt : List V → Prop
  | .int _ :: _ => False
  | _ => True
/-- what neither a draw nor a live desk's change touches -/
def Calm : HO → Prop
  | .lst xs => NoInt xs
  | .dK _ => False
  | .dT _ => False
  | .set _ _ => False
  | .ins _ _ fs => fs.lookup ("current" : Str) = none ∧ fs.lookup ("live" : Str) = none
  | _ => True
def SameS (H H' : Hp) : Prop := ∀ b o, H b = some o → Calm o → H' b = some o
theorem SameS.refl (H : Hp) : SameS H H := fun _ _ h _ => h
theorem SameS.trans {H H1 H2 : Hp} (a : SameS H H1) (b : SameS H1 H2) : SameS H H2 := fun c o h s => b c o (a c o h s) s
theorem Same.s {H H' : Hp} (a : Same H H') : SameS H H' := fun c o h _ => a c o h
theorem Same.new {H : Hp} {p : Addr} {o : HO} (h : H p = none) : Same H (upd H p o) := fun a u e => by
  rw [upd_ne (ne_of_none e h)]
  exact e
theorem Same.put {H H' : Hp} {p : Addr} {o : HO} (e : Same H H') (h : H p = none) : Same H (upd H' p o) := fun a u ha => by
  rw [upd_ne (ne_of_none ha h)]
  exact e a u ha
theorem SameS.put {H H' : Hp} {p : Addr} {o : HO} (e : SameS H H') (h : H p = none) : SameS H (upd H' p o) := fun a u ha s => by
  rw [upd_ne (ne_of_none ha h)]
  exact e a u ha s
theorem Same.tup {K : PySem.W.Frag} {H H' : Hp} {a : Addr} {xs : List V} (e : Same H H') (h : SqT K H a xs) : SqT K H' a xs := by
  rcases h with (h | ⟨o, h⟩) | h
  · exact .inl (.inl (e _ _ h))
  · exact .inl (.inr ⟨o, e _ _ h⟩)
  · exact .inr h
theorem SameS.tup {K : PySem.W.Frag} {H H' : Hp} {a : Addr} {xs : List V} (e : SameS H H') (h : SqT K H a xs) : SqT K H' a xs := by
  rcases h with (h | ⟨o, h⟩) | h
  · exact .inl (.inl (e _ _ h trivial))
  · exact .inl (.inr ⟨o, e _ _ h trivial⟩)
  · exact .inr h
theorem SameS.lst {K : PySem.W.Frag} {H H' : Hp} {a : Addr} {xs : List V} (e : SameS H H') (n : NoInt xs) (h : SqL K H a xs) : SqL K H' a xs := by
  rcases h with (h | ⟨o, h⟩) | h
  · exact .inl (.inl (e _ _ h n))
  · exact .inl (.inr ⟨o, e _ _ h trivial⟩)
  · exact .inr h
/-- a relation of heaps along which one may go on -/
structure Way (L : Hp → Hp → Prop) (ok : V → Prop) : Prop where
  refl : ∀ H, L H H
  trans : ∀ {H H1 H2}, L H H1 → L H1 H2 → L H H2
  put : ∀ {H H' : Hp} {p : Addr} {o : HO}, L H H' → H p = none → L H (upd H' p o)
  s : ∀ {H H'}, L H H' → SameS H H'
  upd : ∀ {H H' : Hp} {p : Addr} {o : HO}, L H H' → L (upd H p o) (upd H' p o)
  lst : ∀ {H H' : Hp} {p : Addr} {xs : List V}, L H H' → H p = some (.lst xs) → (∀ y ∈ xs, ok y) → H' p = some (.lst xs)
def AnyV : V → Prop := fun _ => True
def NotInt : V → Prop := fun y => ∀ j, y ≠ .int j
theorem noInt_ofAll {xs : List V} (h : ∀ y ∈ xs, NotInt y) : NoInt xs := by
  cases xs with
  | nil => trivial
  | cons a r =>
    cases a with
    | int j => exact absurd rfl (h _ List.mem_cons_self j)
    | _ => trivial
theorem Same.upd {H H' : Hp} {p : Addr} {o : HO} (a : Same H H') : Same (upd H p o) (upd H' p o) := fun b u e => by
  by_cases h : b = p
  · subst h
    rw [upd_same] at e ⊢
    exact e
  · rw [upd_ne h] at e ⊢
    exact a b u e
theorem SameS.upd {H H' : Hp} {p : Addr} {o : HO} (a : SameS H H') : SameS (upd H p o) (upd H' p o) := fun b u e c => by
  by_cases h : b = p
  · subst h
    rw [upd_same] at e ⊢
    exact e
  · rw [upd_ne h] at e ⊢
    exact a b u e c
theorem upd_self {H : Hp} {p : Addr} {o : HO} (h : H p = some o) : upd H p o = H := by
  funext b
  by_cases e : b = p
  · subst e
    rw [upd_same, h]
  · rw [upd_ne e]
theorem wSame : Way Same AnyV := ⟨Same.refl, fun a b => a.trans b, fun a b => Same.put a b, fun a => Same.s a, fun a => Same.upd a, fun a h _ => a _ _ h⟩
theorem wSameS : Way SameS NotInt := ⟨SameS.refl, fun a b => a.trans b, fun a b => SameS.put a b, fun a => a, fun a => SameS.upd a, fun a h n => a _ _ h (noInt_ofAll n)⟩
theorem Way.free {L : Hp → Hp → Prop} {ok : V → Prop} (w : Way L ok) {H H' : Hp} (a : L H H') {p : Addr} (h : H' p = none) (c : ∀ o, H p = some o → Calm o) : H p = none := by
  cases q : H p with
  | none => rfl
  | some o =>
    rw [w.s a p o q (c o q)] at h
    cases h
/-- a new object: the heap behind it under a name of its own -/
theorem new_obj {H : Hp} {o : HO} {Q : VK} (h : ∀ p H', H p = none → Same H H' → H' p = some o → Q (.ref p) H') : ∀ p, H p = none → Q (.ref p) (upd H p o) := fun p hp => h p _ hp (Same.new hp) upd_same
/-! ### data -/
theorem DpAll.keep_list {K : PySem.W.Frag} {H H' : Hp} : ∀ {ds : List PyData} {xs : List V}, (∀ d ∈ ds, ∀ v, Dp K H v d → Dp K H' v d) → DpAll K H xs ds → DpAll K H' xs ds
  | [], _, _, h => by cases h; exact .nil
  | d :: ds, _, k, h => by
    cases h with
    | cons h1 h2 => exact .cons (k d List.mem_cons_self _ h1) (DpAll.keep_list (fun e he => k e (List.mem_cons_of_mem _ he)) h2)
mutual
theorem Dp.same {K : PySem.W.Frag} {H H' : Hp} (s : Same H H') : ∀ (d : PyData) {v : V}, Dp K H v d → Dp K H' v d
  | .none, _, h => by cases h; exact .non
  | .bool b, _, h => by cases h; exact .bl b
  | .int i, _, h => by cases h; exact .int i
  | .str x, _, h => by cases h; exact .str x
  | .list ds, _, h => by
    cases h with
    | lst h1 h2 => exact .lst (s.seq h1) (Dp.sameAll s ds h2)
  | .tuple ds, _, h => by
    cases h with
    | tup h1 h2 => exact .tup (Same.tup s h1) (Dp.sameAll s ds h2)
  | .dict _, _, h => by cases h
theorem Dp.sameAll {K : PySem.W.Frag} {H H' : Hp} (s : Same H H') : ∀ (ds : List PyData) {xs : List V}, DpAll K H xs ds → DpAll K H' xs ds
  | [], _, h => by cases h; exact .nil
  | d :: ds, _, h => by
    cases h with
    | cons h1 h2 => exact .cons (Dp.same s d h1) (Dp.sameAll s ds h2)
end
/-- no list in it begins with an int -/
inductive IsIntD : PyData → Prop | int (i : Int) : IsIntD (.int i)
mutual
def calmD : PyData → Bool
  | .list ds => (match ds with
    | .int _ :: _ => false
    | _ => true) && calmAll ds
  | .tuple ds => calmAll ds
  | _ => true
def calmAll : List PyData → Bool
  | [] => true
  | d :: ds => calmD d && calmAll ds
end
theorem noInt_of {K : PySem.W.Frag} {H : Hp} {xs : List V} {ds : List PyData} (h : DpAll K H xs ds) (c : calmD (.list ds) = true) : NoInt xs := by
  cases h with
  | nil => trivial
  | cons h1 h2 =>
    cases h1 with
    | int i => simp [calmD] at c
    | _ => trivial
mutual
theorem Dp.sames {K : PySem.W.Frag} {H H' : Hp} (s : SameS H H') : ∀ (d : PyData) {v : V}, calmD d = true → Dp K H v d → Dp K H' v d
  | .none, _, _, h => by cases h; exact .non
  | .bool b, _, _, h => by cases h; exact .bl b
  | .int i, _, _, h => by cases h; exact .int i
  | .str x, _, _, h => by cases h; exact .str x
  | .list ds, _, c, h => by
    cases h with
    | lst h1 h2 =>
      have c2 : calmAll ds = true := by
        unfold calmD at c
        exact (Bool.and_eq_true_iff.mp c).2
      exact .lst (s.lst (noInt_of h2 c) h1) (Dp.samesAll s ds c2 h2)
  | .tuple ds, _, c, h => by
    cases h with
    | tup h1 h2 => exact .tup (s.tup h1) (Dp.samesAll s ds (by unfold calmD at c; exact c) h2)
  | .dict _, _, _, h => by cases h
theorem Dp.samesAll {K : PySem.W.Frag} {H H' : Hp} (s : SameS H H') : ∀ (ds : List PyData) {xs : List V}, calmAll ds = true → DpAll K H xs ds → DpAll K H' xs ds
  | [], _, _, h => by cases h; exact .nil
  | d :: ds, _, c, h => by
    have c2 := Bool.and_eq_true_iff.mp (show (calmD d && calmAll ds) = true by unfold calmAll at c; exact c)
    cases h with
    | cons h1 h2 => exact .cons (Dp.sames s d c2.1 h1) (Dp.samesAll s ds c2.2 h2)
end
theorem DpAll.len {K : PySem.W.Frag} {H : Hp} : ∀ {ds : List PyData} {xs : List V}, DpAll K H xs ds → xs.length = ds.length
  | [], _, h => by cases h; rfl
  | d :: ds, _, h => by
    cases h with
    | cons h1 h2 => exact congrArg (· + 1) (DpAll.len h2)
theorem DpAll.at_ {K : PySem.W.Frag} {H : Hp} : ∀ {ds : List PyData} {xs : List V} {i : Nat} {d : PyData}, DpAll K H xs ds → ds[i]? = some d → ∃ v, xs[i]? = some v ∧ Dp K H v d
  | [], _, _, _, _, e => by simp at e
  | d :: ds, _, 0, _, h, e => by
    cases h with
    | cons h1 h2 =>
      cases (show some d = some _ from e)
      exact ⟨_, rfl, h1⟩
  | d :: ds, _, i + 1, _, h, e => by
    cases h with
    | cons h1 h2 => exact DpAll.at_ (i := i) h2 e
theorem DpAll.of_at {K : PySem.W.Frag} {H : Hp} : ∀ {ds : List PyData} {xs : List V} {i : Nat} {v : V}, DpAll K H xs ds → xs[i]? = some v → ∃ d, ds[i]? = some d ∧ Dp K H v d
  | [], _, _, _, h, e => by cases h; simp at e
  | d :: ds, _, 0, _, h, e => by
    cases h with
    | cons h1 h2 =>
      cases (Option.some.inj e)
      exact ⟨_, rfl, h1⟩
  | d :: ds, _, i + 1, _, h, e => by
    cases h with
    | cons h1 h2 => exact DpAll.of_at (i := i) h2 e
theorem DpAll.append {K : PySem.W.Frag} {H : Hp} : ∀ {ds es : List PyData} {xs ys : List V}, DpAll K H xs ds → DpAll K H ys es → DpAll K H (xs ++ ys) (ds ++ es)
  | [], _, _, _, h, g => by cases h; exact g
  | d :: ds, _, _, _, h, g => by
    cases h with
    | cons h1 h2 => exact .cons h1 (DpAll.append h2 g)
theorem DpAll.take {K : PySem.W.Frag} {H : Hp} : ∀ {ds : List PyData} {xs : List V} (n : Nat), DpAll K H xs ds → DpAll K H (xs.take n) (ds.take n)
  | [], _, n, h => by cases h; rw [List.take_nil, List.take_nil]; exact .nil
  | d :: ds, _, 0, h => by cases h; exact .nil
  | d :: ds, _, n + 1, h => by
    cases h with
    | cons h1 h2 => exact .cons h1 (DpAll.take n h2)
theorem DpAll.drop {K : PySem.W.Frag} {H : Hp} : ∀ {ds : List PyData} {xs : List V} (n : Nat), DpAll K H xs ds → DpAll K H (xs.drop n) (ds.drop n)
  | [], _, n, h => by cases h; rw [List.drop_nil, List.drop_nil]; exact .nil
  | d :: ds, _, 0, h => h
  | d :: ds, _, n + 1, h => by
    cases h with
    | cons h1 h2 => exact DpAll.drop n h2
theorem DpAll.set {K : PySem.W.Frag} {H : Hp} {v : V} {e : PyData} (r : Dp K H v e) : ∀ {ds : List PyData} {xs : List V} (n : Nat), DpAll K H xs ds → DpAll K H (xs.set n v) (ds.set n e)
  | [], _, n, h => by cases h; exact .nil
  | d :: ds, _, 0, h => by cases h with | cons h1 h2 => exact .cons r h2
  | d :: ds, _, n + 1, h => by
    cases h with
    | cons h1 h2 => exact .cons h1 (DpAll.set r n h2)
theorem DpAll.ints {K : PySem.W.Frag} {H : Hp} : ∀ (ns : List Int), DpAll K H (ns.map V.int) (ns.map PyData.int)
  | [] => .nil
  | n :: ns => .cons (.int n) (DpAll.ints ns)
theorem DpAll.ints_inv {K : PySem.W.Frag} {H : Hp} : ∀ {ns : List Int} {xs : List V}, DpAll K H xs (ns.map PyData.int) → xs = ns.map V.int
  | [], _, h => by cases h; rfl
  | n :: ns, _, h => by
    cases h with
    | cons h1 h2 =>
      cases h1
      rw [DpAll.ints_inv h2] <;> rfl
/-! ### comprehensions -/
/-- what is made of the first n turns: P which ones, R what of each -/
inductive Got (P : Nat → Bool) (R : Nat → V → Prop) : Nat → List V → Prop
  | zero : Got P R 0 []
  | keep {n : Nat} {ys : List V} {y : V} : Got P R n ys → P n = true → R n y → Got P R (n + 1) (ys ++ [y])
  | skip {n : Nat} {ys : List V} : Got P R n ys → P n = false → Got P R (n + 1) ys
theorem Got.mono {P : Nat → Bool} {R R' : Nat → V → Prop} (h : ∀ i y, R i y → R' i y) : ∀ {n : Nat} {ys : List V}, Got P R n ys → Got P R' n ys
  | _, _, .zero => .zero
  | _, _, .keep g p r => .keep (Got.mono h g) p (h _ _ r)
  | _, _, .skip g p => .skip (Got.mono h g) p
theorem Got.len {P : Nat → Bool} {R : Nat → V → Prop} : ∀ {n : Nat} {ys : List V}, Got P R n ys → ys.length ≤ n
  | _, _, .zero => Nat.le_refl _
  | _, _, .keep g _ _ => by
    have z := Got.len g
    rw [List.length_append, List.length_singleton]
    omega
  | _, _, .skip g _ => Nat.le_succ_of_le (Got.len g)
theorem Got.data {K : PySem.W.Frag} {H : Hp} {P : Nat → Bool} {f : Nat → PyData} : ∀ {n : Nat} {ys : List V}, Got P (fun i y => Dp K H y (f i)) n ys → DpAll K H ys (((List.range n).filter P).map f)
  | _, _, .zero => .nil
  | _, _, .keep (n := n) g p r => by
    rw [List.range_succ, List.filter_append, List.map_append]
    refine DpAll.append (Got.data g) ?_
    rw [List.filter_cons, if_pos p]
    exact .cons r .nil
  | _, _, .skip (n := n) g p => by
    rw [List.range_succ, List.filter_append, List.map_append, List.filter_cons, if_neg (by rw [p]; exact Bool.false_ne_true)]
    show DpAll K H _ (_ ++ [])
    rw [List.append_nil]
    exact Got.data g
theorem Got.all {P : Nat → Bool} {R : Nat → V → Prop} {ok : V → Prop} (h : ∀ i y, R i y → ok y) : ∀ {n : Nat} {ys : List V}, Got P R n ys → ∀ y ∈ ys, ok y
  | _, _, .zero, _, m => by cases m
  | _, _, .keep g _ r, y, m => by
    rcases List.mem_append.mp m with m | m
    · exact Got.all h g y m
    · rw [List.mem_singleton.mp m]
      exact h _ _ r
  | _, _, .skip g _, y, m => Got.all h g y m
section
variable {L : Hp → Hp → Prop} {ok : V → Prop} {J : It} {n : Nat} {G : Hp → Prop} {Y : Nat → Hp → V → Hp → Prop} {g : TG} {tt : TT} {te : TE} {vs : List Nat} {σ : L2.St} {H1 : Hp} {D : Addr} {Qd : Hp → Prop}
theorem lc_yes {te : TE} {σ : L2.St} {H : Hp} {C : V → Hp → Prop} {C0 : Hp → Prop} (h : te σ H C) : tYes σ H fun b H3 => if b = true then te σ H3 C else C0 H3 := by
  show if true = true then te σ H C else C0 H
  exact iteT h
/-- a comprehension over a walk: P tells which turns give, R what (it stays along L, and whatever becomes of the list at D) -/
theorem lc_gen (w : Way L ok) (wk : Walk J n G Y) (hD : H1 D = none) (hn : n ≤ 100000) (P : Nat → Bool) (R : Nat → V → Hp → Prop) (hR : ∀ i y H H', L H H' → R i y H → R i y H') (hc : ∀ i y H, R i y H → ok y) (hG : ∀ H, L H1 H → G H)
    (hs : ∀ acc i x H H' (C : V → Hp → Prop) (C0 : Hp → Prop), i < n → L H1 H → H D = some (.lst acc) → Y i H x H' → (∀ y H4, L H H4 → P i = true → (∀ o, R i y (upd H4 D o)) → C y H4) → (∀ H3, L H H3 → P i = false → C0 H3) →
      g x (wipe σ vs) H' fun σ2 H2 => wipe σ2 vs = wipe σ vs ∧ tt σ2 H2 fun b H3 => if b = true then te σ2 H3 C else C0 H3)
    (hd : ∀ H' ys, L H1 H' → H' D = some (.lst ys) → Got P (fun i y => R i y H') n ys → Qd H') :
    ∃ W : Nat → Nat → Hp → Prop, (∃ m, W 0 m (upd H1 D (.lst []))) ∧ ∀ i m H, W i m H →
      (J.stop i H ∧ Qd H) ∨ (J.go i H ∧ ∃ Nx : Hp → Prop, (∀ H', Nx H' → ∃ m', m' < m ∧ W (i + 1) m' H') ∧ ∀ x H', J.yld i H x H' → g x (wipe σ vs) H' fun σ2 H2 => wipe σ2 vs = wipe σ vs ∧ tt σ2 H2 fun b H3 =>
        if b = true then te σ2 H3 fun y H4 => ∃ acc, H4 D = some (.lst acc) ∧ acc.length < sizeLine ∧ Nx (upd H4 D (.lst (acc ++ [y]))) else Nx H3) := by
  refine lc_it wk (fun i H => ∃ ys, L H1 H ∧ H D = some (.lst ys) ∧ Got P (fun i y => ∀ o, R i y (upd H D o)) i ys) ⟨[], w.put (w.refl _) hD, upd_same, .zero⟩ (fun i H _ ⟨ys, l, _, _⟩ => hG H l) (fun i x H H' hi p y => ?_) (fun H ⟨ys, l, e, g⟩ => ?_)
  · obtain ⟨ys, l, e, gg⟩ := p
    have hall : ∀ y ∈ ys, ok y := Got.all (fun i y r => hc i y _ (r (.lst []))) gg
    have z := Got.len gg
    refine hs ys i x H H' _ _ hi l e y (fun y H4 l4 hp r => ?_) (fun H3 l3 hp => ?_)
    · refine ⟨ys, w.lst l4 e hall, Nat.lt_of_lt_of_le (show ys.length < 100001 by omega) (by decide), ys ++ [y], w.put (w.trans l l4) hD, upd_same, .keep (gg.mono fun i y r o => ?_) hp fun o => ?_⟩
      · rw [upd_upd]
        exact hR i y _ _ (w.upd l4) (r o)
      · rw [upd_upd]
        exact r o
    · exact ⟨ys, w.trans l l3, w.lst l3 e hall, .skip (gg.mono fun i y r o => hR i y _ _ (w.upd l3) (r o)) hp⟩
  · refine hd H ys l e (g.mono fun i y r => ?_)
    have z := r (.lst ys)
    rw [upd_self e] at z
    exact z
end
end L2

set_option maxHeartbeats 2000000
namespace L2
open PySem PySem.Spec PyProof.Rows He CT
section
variable {P : Program} {w : World} {K : PySem.W.Frag} {mg : Str → Option Value} {base : Heap} {x qual pv : Str} {params : Arguments} {body : List Stmt} {scope : Scope} {f : Addr} {fd : FuncData} {N ps : List Str} {k : Nat} {sp : Sp}
/-- a def without defaults -/
theorem plainR (F : FunD K x qual params body scope [] [] f fd) (S : FnScope N ps scope)
    (hb : ∀ (kV doc pm : Value) (an : Option Addr) (cdv ct : Value) (us : List Value), us.length = ps.length → bindArgs (PySem.W.fnOf x qual params body scope .none kV doc pm an cdv ct) ⟨us, []⟩ = pure (ps.zip us))
    (len : ∀ vs H Q E, sp vs H Q E → vs.length = ps.length)
    (hbody : ∀ (cdv : Value) (A : Around) (outer : List Env) (s : Shared) (H : Hp) (vs : List V) (Q : VK) (E : XK), Room k (A.deeper (envOfC qual scope s.heap.objs.size f cdv)) → sp vs H Q E →
      ∃ t, PSs (cxOf CX0 P w K mg base N qual scope f cdv A outer s H E).nox body t ∧ t { nx := fun _ H' => Q .non H', rt := Q } (start N vs) H) : FnR P w K mg base CX0 (k + 1) f sp := by
  have G : FnOk P w K mg base CX0 (k + 1) f fd ps sp := F.ok S len fun cdv A outer s H vs Q E hr h => by
    obtain ⟨t, h1, h2⟩ := hbody cdv A outer s H vs Q E hr h
    exact ⟨t, h1.nox, h2⟩
  refine (FnOk.raw G (F.bindsN hb) .nil).imp fun vs H Q E h => ?_
  rw [List.append_nil]
  exact h
/-- the promise of def f(a, .., *v) from that of its body -/
def spStar (n : Nat) (sp : Sp) : Sp := fun vs H Q E => ∃ ws rest, vs = ws ++ rest ∧ ws.length = n ∧ rest.length ≤ sizeLine ∧ ∀ (p : Addr), H p = none → sp (ws ++ [V.ref p]) (upd H p (.tup rest)) Q E
theorem starR (F : FunD K x qual params body scope [] [] f fd) (S : FnScope N (ps ++ [pv]) scope)
    (hb : ∀ (kV doc pm : Value) (an : Option Addr) (cdv ct : Value) (us rest : List Value), us.length = ps.length → bindArgs (PySem.W.fnOf x qual params body scope .none kV doc pm an cdv ct) ⟨us ++ rest, []⟩ = (newTuple rest >>= fun t => pure (ps.zip us ++ [(pv, t)])))
    (hbody : ∀ (cdv : Value) (A : Around) (outer : List Env) (s : Shared) (H : Hp) (vs : List V) (Q : VK) (E : XK), Room k (A.deeper (envOfC qual scope s.heap.objs.size f cdv)) → sp vs H Q E →
      ∃ t, PSs (cxOf CX0 P w K mg base N qual scope f cdv A outer s H E).nox body t ∧ t { nx := fun _ H' => Q .non H', rt := Q } (start N vs) H) : FnR P w K mg base CX0 (k + 1) f (spStar ps.length sp) := by
  obtain ⟨oc, od, dV, kV, doc, pm, an, cdv, ct, osl, rfl, lk, hcd, hd, _⟩ := F.ex
  have e : dV = Value.none := by
    rcases hd with ⟨_, e⟩ | ⟨n, _⟩
    · exact e
    · exact absurd rfl n
  subst e
  exact StX.fn_star lk hcd S StX.cxUp_none (hb kV doc pm an cdv ct) fun A outer s H vs Q E hr h => by
    obtain ⟨t, h1, h2⟩ := hbody cdv A outer s H vs Q E hr h
    exact ⟨t, h1.nox, h2⟩
end
section
variable {X : Cx} {CX : CXT} {k : Nat} {C p g a dx : Addr} {fs : List (Str × V)} {f : Str} {sp : Sp} {E : XK} {e : Expr} {pos : Pos} {ta : TE}
/-- e.f, a property -/
def tPropR (C : Addr) (sp : Sp) (E : XK) (ta : TE) : TE := fun σ H Q => ta σ H fun x H1 => ∃ a dx fs, x = .ref a ∧ H1 a = some (.ins C dx fs) ∧ sp [.ref a] H1 Q E
theorem pe_propR (he : PE X e ta) (c : Cls X.K C) (hp : PropOf X.K C f p g) (F : FnR X.prog X.w X.K X.mg X.base CX k g sp) (hr : Room (k + 1) X.A) (hx : Passes CX X.nox E)
    (hab : attributeBase e f X.env (eval e X.env) = eval e X.env := by rfl) : PE X (.Attribute e f pos) (tPropR C sp E ta) := by
  refine ⟨fun pins s σ H Q I h => ?_⟩
  refine attr_of hab (thn (he.run pins s σ H _ I h) fun u s1 ⟨x, H1, I1, rx, a, dx, fs, ex, ea, q⟩ => ?_)
  subst ex
  obtain rfl : u = Value.ref a := rx
  obtain ⟨mA, O, _, _, _, _⟩ := ins_get I1.hok ea
  obtain ⟨od, J, _⟩ := O.look
  obtain ⟨rest, hrec⟩ := hp.rec_
  have I2 := I1.tok (s1.toks + 1)
  have hc : (PySem.W.clsIn X.K C).isSome = true := by
    obtain ⟨cd, hc, _⟩ := PySem.W.any_some c.hd
    rw [hc]
    rfl
  refine PySem.W.get_bind I1.kIn J (PySem.W.plainGet_of (c.get f)).1 (PySem.W.findObj_data hc hp.at_ hp.get hp.tak) (PySem.W.plainGet_of (c.get f)).2 (wpAny_call (PySem.W.prop_get (s := { s1 with toks := s1.toks + 1 }) I1.kIn hrec ?_))
  refine codeAny_mono (F X.A.in1 X.stack { s1 with toks := s1.toks + 1 } H1 [.ref a] [.ref a] Q E hr.in1 I2.env0.in1 (.cons rfl .nil) q) fun r s' hq => ?_
  cases r with
  | error er => exact False.elim (hx pins σ H1 { s1 with toks := s1.toks + 1 } er s' (I2.wish _) hq)
  | ok fl =>
    cases fl with
    | ret u =>
      obtain ⟨v, H', I3, rv, q3⟩ := I2.after hq
      show wpAny _ _ (handedOut u) _ _ _
      rw [PySem.W.handedOut_of (handed_of rv)]
      exact wpAny_pure ⟨v, H', I3, rv, q3⟩
    | next => exact False.elim hq
    | brk => exact False.elim hq
    | cont => exact False.elim hq
end
section
variable {X : Cx}
theorem pe_globI {x : Str} {i : Int} {pos : Pos} (hg : Gl X x) (hm : ∃ t, X.mg x = some (.int i t)) (hd : (x == ("__debug__" : Str)) = false := by decide) : PE X (.Name x pos) (tC (.int i)) := by
  obtain ⟨t, e⟩ := hm
  exact pe_glob hg e ⟨t, rfl⟩ hd
theorem pe_globR {x : Str} {a : Addr} {pos : Pos} (hg : Gl X x) (hm : X.mg x = some (.ref a)) (hd : (x == ("__debug__" : Str)) = false := by decide) : PE X (.Name x pos) (tC (.ref a)) := pe_glob hg hm rfl hd
theorem room65 {A : Around} {k : Nat} (hr : Room k A) : A.units + 65 < cLine := by have := hr.un; omega
end
/-! ### small words for readings -/
theorem iteB {A B : Prop} {b : Bool} (h1 : b = true → A) (h2 : b = false → B) : if b = true then A else B := by
  cases b with
  | true => exact iteT (h1 rfl)
  | false => exact iteF (h2 rfl)
theorem Same.get {H H' : Hp} {a : Addr} {o : HO} (s : Same H H') (h : H a = some o) : H' a = some o := s a o h
theorem SameS.get {H H' : Hp} {a : Addr} {o : HO} (s : SameS H H') (c : Calm o) (h : H a = some o) : H' a = some o := s a o h c
theorem upd_get {H : Hp} {a p : Addr} {o u : HO} (n : H p = none) (h : H a = some o) : upd H p u a = some o := by
  rw [upd_ne (ne_of_none h n)]
  exact h
/-- as a star call hands its arguments on -/
theorem spStar.mk {sp : Sp} {ws rest : List V} {H : Hp} {Q : VK} {E : XK} (hz : rest.length ≤ 100000) (h : ∀ p H', H p = none → Same H H' → H' p = some (.tup rest) → H' = upd H p (.tup rest) → sp (ws ++ [V.ref p]) H' Q E) : spStar ws.length sp (ws ++ rest) H Q E :=
  ⟨ws, rest, rfl, rfl, Nat.le_trans hz (by decide), fun p hp => h p _ hp (Same.new hp) upd_same rfl⟩
end L2

set_option maxHeartbeats 2000000
namespace L2
open PySem PySem.Spec PyProof.Rows He CT
/-! ### values of known kind -/
def isI : V → Bool
  | .int _ => true
  | _ => false
/-- what the program's own test for ints sees -/
def Knd (K : PySem.W.Frag) (H : Hp) (x : V) : Prop := ∃ t b1 b2, TyX K H x t ∧ PySem.W.kitOne K t (.type "int") = some b1 ∧ PySem.W.kitOne K t (.type "bool") = some b2 ∧ (b1 && !b2) = isI x ∧ (b1 = true → ∀ q, x = .bl q → b2 = true)
theorem Knd.int {K : PySem.W.Frag} {H : Hp} (i : Int) : Knd K H (.int i) := ⟨_, true, false, .base (.int i), kit_ty (by decide +kernel), kit_ty (by decide +kernel), rfl, fun _ _ e => nomatch e⟩
/-! ### tickets, rows, desks -/
abbrev PI2 := Int × Int
def fTk (x y : Int) : List (Str × V) := [("foot", V.int x), ("head", V.int y)]
def IsTk (K : PySem.W.Frag) (H : Hp) (v : V) (p : PI2) : Prop := ∃ a dx, v = .ref a ∧ H a = some (.ins (ga K "Ticket") dx (fTk p.1 p.2))
def IsTks (K : PySem.W.Frag) (H : Hp) (vs : List V) (ps : List PI2) : Prop := Paired (IsTk K H) vs ps
def pr (p : PI2) : PyData := .tuple [.int p.1, .int p.2]
def prs (ps : List PI2) : List PyData := ps.map pr
/-- the climbs between one ticket and the next -/
def climb : List PI2 → Int
  | [] => 0
  | [_] => 0
  | p :: q :: r => (q.1 - p.2) + climb (q :: r)
def fRow (t u : Addr) (c : Int) : List (Str × V) := [("cards", V.ref t), ("pairs", V.ref u), ("steps", V.int c)]
structure RowAt (K : PySem.W.Frag) (H : Hp) (a : Addr) (ps : List PI2) (t : Addr) (vs : List V) (u : Addr) : Prop where
  ob : ∃ dx, H a = some (.ins (ga K "Row") dx (fRow t u (climb ps)))
  cs : H t = some (.tup vs)
  tk : IsTks K H vs ps
  us : ∃ ws, H u = some (.tup ws) ∧ DpAll K H ws (prs ps)
def IsRow (K : PySem.W.Frag) (H : Hp) (v : V) (ps : List PI2) : Prop := ∃ a t vs u, v = .ref a ∧ RowAt K H a ps t vs u
def fProf (t : Addr) : List (Str × V) := [("levels", V.ref t)]
def IsProf (K : PySem.W.Frag) (H : Hp) (v : V) (ns : List Int) : Prop := ∃ a dx t, v = .ref a ∧ H a = some (.ins (ga K "Profile") dx (fProf t)) ∧ H t = some (.tup (ns.map V.int))
/-- the excess, gap by gap -/
def upsAt (ps : List PI2) (g : Int) : Int := ((ps.filter fun p => decide (p.1 ≤ g ∧ g < p.2)).length : Int)
def downsAt (ps : List PI2) (g : Int) : Int := ((ps.filter fun p => decide (p.2 ≤ g ∧ g < p.1)).length : Int)
def exAt (ps : List PI2) (g : Nat) : Int := upsAt ps g - downsAt ps g
def excess (ps : List PI2) : List Int := (List.range 30).map (exAt ps)
def fDesk (t u : Addr) (f : V) : List (Str × V) := [("cards", V.ref t), ("pairs", V.ref u), ("profile", f)]
structure DeskAt (K : PySem.W.Frag) (H : Hp) (a : Addr) (ps : List PI2) (t : Addr) (vs : List V) (u : Addr) : Prop where
  ob : ∃ dx f, H a = some (.ins (ga K "Desk") dx (fDesk t u f)) ∧ IsProf K H f (excess ps)
  cs : H t = some (.tup vs)
  tk : IsTks K H vs ps
  us : ∃ ws ob, H u = some (.frz ob (.tup ws)) ∧ CT.PTup ob ∧ DpAll K H ws (prs ps)
def IsDesk (K : PySem.W.Frag) (H : Hp) (v : V) (ps : List PI2) : Prop := ∃ a t vs u, v = .ref a ∧ DeskAt K H a ps t vs u
/-! ### they stay -/
section
variable {K : PySem.W.Frag} {H H' : Hp} {v : V} {p : PI2} {ps : List PI2} {vs : List V} {ns : List Int} {a t u : Addr}
theorem calm_pr (p : PI2) : calmD (pr p) = true := rfl
theorem calm_prs : ∀ ps : List PI2, calmAll (prs ps) = true
  | [] => rfl
  | p :: ps => by
    show (calmD (pr p) && calmAll (prs ps)) = true
    rw [calm_prs ps] <;> rfl
theorem calm_lprs (ps : List PI2) : calmD (.list (prs ps)) = true := by
  cases ps with
  | nil => rfl
  | cons p ps =>
    show (true && calmAll (prs (p :: ps))) = true
    rw [calm_prs] <;> rfl
theorem IsTk.s (s : SameS H H') (h : IsTk K H v p) : IsTk K H' v p := by
  obtain ⟨a, dx, e, h⟩ := h
  exact ⟨a, dx, e, s _ _ h ⟨rfl, rfl⟩⟩
theorem IsTks.s (s : SameS H H') (h : IsTks K H vs ps) : IsTks K H' vs ps := Paired.mapP h fun _ _ z => z.s s
theorem Prs.s {ws : List V} (s : SameS H H') (h : DpAll K H ws (prs ps)) : DpAll K H' ws (prs ps) := Dp.samesAll s _ (calm_prs ps) h
theorem RowAt.s (s : SameS H H') (h : RowAt K H a ps t vs u) : RowAt K H' a ps t vs u := by
  obtain ⟨⟨dx, h1⟩, h2, h3, ws, h4, h5⟩ := h
  exact ⟨⟨dx, s _ _ h1 ⟨rfl, rfl⟩⟩, s _ _ h2 trivial, h3.s s, ws, s _ _ h4 trivial, Prs.s s h5⟩
theorem IsRow.s (s : SameS H H') (h : IsRow K H v ps) : IsRow K H' v ps := by
  obtain ⟨a, t, vs, u, e, h⟩ := h
  exact ⟨a, t, vs, u, e, h.s s⟩
theorem IsProf.s (s : SameS H H') (h : IsProf K H v ns) : IsProf K H' v ns := by
  obtain ⟨a, dx, t, e, h1, h2⟩ := h
  exact ⟨a, dx, t, e, s _ _ h1 ⟨rfl, rfl⟩, s _ _ h2 trivial⟩
theorem DeskAt.s (s : SameS H H') (h : DeskAt K H a ps t vs u) : DeskAt K H' a ps t vs u := by
  obtain ⟨⟨dx, f, h1, hf⟩, h2, h3, ws, ob, h4, h6, h5⟩ := h
  exact ⟨⟨dx, f, s _ _ h1 ⟨rfl, rfl⟩, hf.s s⟩, s _ _ h2 trivial, h3.s s, ws, ob, s _ _ h4 trivial, h6, Prs.s s h5⟩
theorem IsDesk.s (s : SameS H H') (h : IsDesk K H v ps) : IsDesk K H' v ps := by
  obtain ⟨a, t, vs, u, e, h⟩ := h
  exact ⟨a, t, vs, u, e, h.s s⟩
theorem IsTks.len (h : IsTks K H vs ps) : vs.length = ps.length := Paired.length h
theorem IsTks.at_ : ∀ {vs : List V} {ps : List PI2} {i : Nat} {v : V}, IsTks K H vs ps → vs[i]? = some v → ∃ p, ps[i]? = some p ∧ IsTk K H v p
  | _, _, _, _, .nil, e => by simp at e
  | _, _, 0, _, .cons r _, e => by
    cases (Option.some.inj e)
    exact ⟨_, rfl, r⟩
  | _, _, i + 1, v, .cons _ t, e => IsTks.at_ (i := i) t e
theorem IsTks.append {ws : List V} {qs : List PI2} : ∀ {vs : List V} {ps : List PI2}, IsTks K H vs ps → IsTks K H ws qs → IsTks K H (vs ++ ws) (ps ++ qs)
  | _, _, .nil, g => g
  | _, _, .cons r t, g => .cons r (IsTks.append t g)
theorem IsTks.take : ∀ {vs : List V} {ps : List PI2} (n : Nat), IsTks K H vs ps → IsTks K H (vs.take n) (ps.take n)
  | _, _, 0, _ => .nil
  | _, _, _ + 1, .nil => .nil
  | _, _, n + 1, .cons r t => .cons r (IsTks.take n t)
theorem IsTks.drop : ∀ {vs : List V} {ps : List PI2} (n : Nat), IsTks K H vs ps → IsTks K H (vs.drop n) (ps.drop n)
  | _, _, 0, r => r
  | _, _, _ + 1, .nil => .nil
  | _, _, n + 1, .cons _ t => IsTks.drop n t
theorem IsTk.one (h : IsTk K H v p) : IsTks K H [v] [p] := .cons h .nil
end
end L2

set_option maxHeartbeats 2000000
namespace L2
open PySem PySem.Spec PyProof.Rows He CT
/-! ### new instances -/
def SameX (a : Addr) (H H' : Hp) : Prop := ∀ b o, H b = some o → b ≠ a → H' b = some o
theorem SameX.refl (a : Addr) (H : Hp) : SameX a H H := fun _ _ h _ => h
theorem SameX.step {a : Addr} {H H1 H2 : Hp} (s : SameX a H H1) (t : SameX a H1 H2) : SameX a H H2 := fun b o h n => t b o (s b o h n) n
theorem SameX.upd (a : Addr) (H : Hp) (o : HO) : SameX a H (upd H a o) := fun b u h n => by
  rw [upd_ne n]
  exact h
theorem Same.x {a : Addr} {H H' : Hp} (s : Same H H') : SameX a H H' := fun b o h _ => s b o h
theorem made {H : Hp} {C x dx : Addr} {H' : Hp} (hx : H x = none) (hd : H dx = none) (hn : dx ≠ x) (s : SameX x (upd (upd H dx (.own x)) x (.ins C dx [])) H') : Same H H' := fun b o h => by
  have e1 : b ≠ x := ne_of_none h hx
  have e2 : b ≠ dx := ne_of_none h hd
  refine s b o ?_ e1
  rw [upd_ne e1, upd_ne e2]
  exact h
theorem made0 {H : Hp} {C x dx : Addr} (hx : H x = none) (hd : H dx = none) : Same H (upd (upd H dx (.own x)) x (.ins C dx [])) := fun b o h => by
  rw [upd_ne (ne_of_none h hx), upd_ne (ne_of_none h hd)]
  exact h
/-! ### slices -/
theorem sIx_to {n k : Nat} (h : k ≤ n) (d : Nat) : HT.sIx n d (some (k : Int)) = k := by
  rw [HT.sIx_nat]
  omega
theorem cutV_to {xs : List V} {k : Nat} (h : k ≤ xs.length) : cutV xs none (some (k : Int)) = xs.take k := by
  unfold cutV
  rw [sIx_to h]
  show (xs.drop 0).take (k - 0) = _
  rw [List.drop_zero, Nat.sub_zero]
theorem cutV_from {xs : List V} {k : Nat} (h : k ≤ xs.length) : cutV xs (some (k : Int)) none = xs.drop k := by
  unfold cutV
  rw [sIx_to h]
  show (xs.drop k).take (xs.length - k) = _
  exact List.take_of_length_le (by rw [List.length_drop]; omega)
theorem slA_any {K : PySem.W.Frag} {H : Hp} {Q : VK} {a : Addr} {xs : List V} {lo hi : Option Int} (h : H a = some (.tup xs)) (q : ∀ p H', Same H H' → H' p = some (.tup (cutV xs lo hi)) → Q (.ref p) H') : rSlA K (.ref a) lo hi H Q := by
  refine ⟨a, xs, rfl, SqT.of h, fun w => q a H (Same.refl H) ?_, fun _ p hp => q p _ (Same.new hp) upd_same⟩
  have e : cutV xs lo hi = xs := by
    unfold cutV
    rw [w.1, w.2, List.drop_zero, Nat.sub_zero, List.take_length]
  rw [e]
  exact h
theorem one_le_sl {n : Nat} : HT.sIx n 0 (some 1) = min 1 n := HT.sIx_nat n 0 1
end L2

set_option maxHeartbeats 2000000
namespace L2
open PySem PySem.Spec PyProof.Rows He CT
section
variable {K : PySem.W.Frag} {i j k : Nat} {σ : L2.St} {H H' : Hp} {v : V} {f g : Nat → Option V} {C : L2.St → Hp → Prop} {p : PI2} {ps : List PI2}
/-- for a, b in (a walk that gives new pairs) -/
theorem gpair (y : YPair f g k H v H') (h : ∀ T a b, f k = some a → g k = some b → H T = none → H' = upd H T (.tup [a, b]) → C ((σ.set i (some a)).set j (some b)) H') : gTup K 2 (gCons (gName i) (gCons (gName j) gNil)) v σ H' C := by
  obtain ⟨T, a, b, rfl, hT, rfl, ea, eb⟩ := y
  exact ⟨T, [a, b], rfl, SqT.of upd_same, rfl, a, [b], rfl, b, [], rfl, rfl, h T a b ea eb hT rfl⟩
theorem Dp.pr_inv (d : Dp K H v (pr p)) : ∃ t, v = .ref t ∧ SqT K H t [.int p.1, .int p.2] := by
  cases d with
  | tup h1 h2 =>
    cases h2 with
    | cons a b =>
      cases a
      cases b with
      | cons c d =>
        cases c
        cases d
        exact ⟨_, rfl, h1⟩
/-- for a, b in (a walk over pairs of ints) -/
theorem gpr (d : Dp K H v (pr p)) (h : C ((σ.set i (some (.int p.1))).set j (some (.int p.2))) H) : gTup K 2 (gCons (gName i) (gCons (gName j) gNil)) v σ H C := by
  obtain ⟨t, rfl, ht⟩ := d.pr_inv
  exact ⟨t, _, rfl, ht, rfl, _, _, rfl, _, _, rfl, rfl, h⟩
theorem Dp.mkpr {t : Addr} {a b : Int} (h : H t = some (.tup [.int a, .int b])) : Dp K H (.ref t) (pr (a, b)) := .tup (SqT.of h) (.cons (.int a) (.cons (.int b) .nil))
theorem Dp.mkprU {t D : Addr} {a b : Int} {xs : List V} (hD : H D = some (.lst xs)) (h : H t = some (.tup [.int a, .int b])) : ∀ o, Dp K (upd H D o) (.ref t) (pr (a, b)) := fun o => Dp.mkpr (by rw [upd_ne (ne_of h hD (by intro z; cases z))]; exact h)
theorem prs_at {ps : List PI2} {i : Nat} {d : PyData} (h : (prs ps)[i]? = some d) : ∃ p, ps[i]? = some p ∧ d = pr p := by
  unfold prs at h
  rw [List.getElem?_map] at h
  cases e : ps[i]? with
  | none => rw [e] at h; cases h
  | some p =>
    rw [e] at h
    exact ⟨p, rfl, (Option.some.inj h).symm⟩
theorem at_prs {ps : List PI2} {i : Nat} {p : PI2} (h : ps[i]? = some p) : (prs ps)[i]? = some (pr p) := by
  unfold prs
  rw [List.getElem?_map, h] <;> rfl
theorem Prs.of_at {xs : List V} (h : DpAll K H xs (prs ps)) (e : xs[i]? = some v) : ∃ p, ps[i]? = some p ∧ Dp K H v (pr p) := by
  obtain ⟨d, e2, hd⟩ := h.of_at e
  obtain ⟨p, e3, rfl⟩ := prs_at e2
  exact ⟨p, e3, hd⟩
theorem Prs.len {xs : List V} (h : DpAll K H xs (prs ps)) : xs.length = ps.length := by
  rw [h.len]
  exact List.length_map _
/-- all of a range kept: the data in order -/
theorem range_all {α : Type} (l : List α) (d : α) : ((List.range l.length).filter fun _ => true).map (fun i => l.getD i d) = l := by
  rw [List.filter_eq_self.mpr (fun _ _ => rfl)]
  apply List.ext_getElem?
  intro i
  rw [List.getElem?_map]
  by_cases h : i < l.length
  · rw [List.getElem?_range h, List.getElem?_eq_getElem h]
    simp [List.getD, h]
  · rw [List.getElem?_eq_none (by simpa using h), List.getElem?_eq_none (by simpa using h)] <;> rfl
theorem getD_of {α : Type} {l : List α} {i : Nat} {x d : α} (h : l[i]? = some x) : l.getD i d = x := by
  rw [List.getD_eq_getElem?_getD, h] <;> rfl
end
/-! ### rows: tickets in a row -/
def path (ps : List PI2) : Prop := ∀ i p q, ps[i]? = some p → ps[i + 1]? = some q → p.2 ≤ q.1
theorem path_take {ps : List PI2} (n : Nat) (h : path ps) : path (ps.take n) := fun i p q e1 e2 => by
  rw [List.getElem?_take] at e1 e2
  split at e1
  · split at e2
    · exact h i p q e1 e2
    · cases e2
  · cases e1
theorem path_drop {ps : List PI2} (n : Nat) (h : path ps) : path (ps.drop n) := fun i p q e1 e2 => by
  rw [List.getElem?_drop] at e1 e2
  exact h (n + i) p q e1 e2
theorem path_nil : path [] := fun i p q e _ => by simp at e
theorem path_one (p : PI2) : path [p] := fun i p q e1 e2 => by
  cases i with
  | zero => simp at e2
  | succ i => simp at e1
theorem shaped_pr (p : PI2) : SeqAt.shaped (pr p) = true := rfl
theorem lay_prs : ∀ ps : List PI2, PyData.canLayAll0 (prs ps) = true
  | [] => by simp [prs, PyData.canLayAll0]
  | p :: ps => by
    have z := lay_prs ps
    unfold prs at z ⊢
    simp [PyData.canLayAll0, z, pr, PyData.canLay0]
theorem depth_prs : ∀ ps : List PI2, PyData.depthAll (prs ps) ≤ 1
  | [] => by simp [prs, PyData.depthAll]
  | p :: ps => by
    have z := depth_prs ps
    unfold prs at z ⊢
    simp only [List.map_cons, PyData.depthAll, pr, PyData.depth]
    omega
theorem shaped_list {ds : List PyData} (h : PyData.canLayAll0 ds = true) (d : PyData.depthAll ds ≤ 60) : SeqAt.shaped (.list ds) = true := by
  have e : PyData.depth (.list ds) ≤ 64 := by simp only [PyData.depth]; omega
  show ((PyData.list ds).canLay0 && decide ((PyData.list ds).depth ≤ 64)) = true
  rw [Bool.and_eq_true]
  exact ⟨by simp only [PyData.canLay0]; exact h, decide_eq_true e⟩
theorem shaped_tup {ds : List PyData} (h : PyData.canLayAll0 ds = true) (d : PyData.depthAll ds ≤ 60) : SeqAt.shaped (.tuple ds) = true := by
  have e : PyData.depth (.tuple ds) ≤ 64 := by simp only [PyData.depth]; omega
  show ((PyData.tuple ds).canLay0 && decide ((PyData.tuple ds).depth ≤ 64)) = true
  rw [Bool.and_eq_true]
  exact ⟨by simp only [PyData.canLay0]; exact h, decide_eq_true e⟩
theorem shaped_lprs (ps : List PI2) : SeqAt.shaped (.list (prs ps)) = true := shaped_list (lay_prs ps) (Nat.le_trans (depth_prs ps) (by decide))
theorem shaped_tprs (ps : List PI2) : SeqAt.shaped (.tuple (prs ps)) = true := shaped_tup (lay_prs ps) (Nat.le_trans (depth_prs ps) (by decide))
theorem eqv_pr (p q : PI2) : PyData.eqv (pr p) (pr q) = decide (p = q) := by
  obtain ⟨a, b⟩ := p
  obtain ⟨c, d⟩ := q
  have e : PyData.eqv (pr (a, b)) (pr (c, d)) = ((a == c) && ((b == d) && true)) := by simp only [pr, PyData.eqv, PyData.eqvAll]
  rw [e]
  by_cases h1 : a = c
  · by_cases h2 : b = d
    · simp [h1, h2]
    · simp [h1, h2]
  · simp [h1]
theorem eqv_prs : ∀ (ps qs : List PI2), PyData.eqvAll (prs ps) (prs qs) = decide (ps = qs)
  | [], [] => by simp [prs, PyData.eqvAll]
  | [], q :: qs => by simp [prs, PyData.eqvAll]
  | p :: ps, [] => by simp [prs, PyData.eqvAll]
  | p :: ps, q :: qs => by
    have z := eqv_prs ps qs
    have y := eqv_pr p q
    unfold prs at z ⊢
    simp only [List.map_cons, PyData.eqvAll, z, y]
    by_cases h1 : p = q
    · by_cases h2 : ps = qs
      · simp [h1, h2]
      · simp [h1, h2]
    · simp [h1]
theorem alike_prs : ∀ (ps qs : List PI2), PySem.W.alikeAll (prs ps) (prs qs) = true
  | [], _ => by simp [prs, PySem.W.alikeAll]
  | _ :: _, [] => by simp [prs, PySem.W.alikeAll]
  | p :: ps, q :: qs => by
    have z := alike_prs ps qs
    unfold prs at z ⊢
    simp [PySem.W.alikeAll, z, pr, PySem.W.alike]
theorem alike_tprs (ps qs : List PI2) : PySem.W.alike (.tuple (prs ps)) (.tuple (prs qs)) = true := by
  simp only [PySem.W.alike]
  exact alike_prs ps qs
def ltPs (ps qs : List PI2) : Bool := PySem.W.dataLt (.tuple (prs ps)) (.tuple (prs qs))
theorem depth_tprs (ps : List PI2) : PyData.depth (.tuple (prs ps)) ≤ 64 := by
  have z := depth_prs ps
  simp only [PyData.depth]
  omega
theorem eqv_lprs (ps qs : List PI2) : PyData.eqv (.list (prs ps)) (.list (prs qs)) = decide (ps = qs) := by rw [← eqv_prs]; simp only [PyData.eqv]
theorem eqv_tprs (ps qs : List PI2) : PyData.eqv (.tuple (prs ps)) (.tuple (prs qs)) = decide (ps = qs) := by rw [← eqv_prs]; simp only [PyData.eqv]
end L2

set_option maxHeartbeats 2000000
namespace L2
open PySem PySem.Spec PyProof.Rows
/-! ### the order of rows -/
instance (p q : PI2) : Decidable (p.1 < q.1 ∨ (p.1 = q.1 ∧ p.2 < q.2)) := inferInstance
abbrev ltP2 (p q : PI2) : Prop := p.1 < q.1 ∨ (p.1 = q.1 ∧ p.2 < q.2)
theorem alike_pr (p q : PI2) : PySem.W.alike (pr p) (pr q) = true := by simp [pr, PySem.W.alike, PySem.W.alikeAll]
theorem lt_int1 (a b : Int) (xs ys : List PyData) : PySem.W.dataLt (.tuple (.int a :: xs)) (.tuple (.int b :: ys)) = (decide (a < b) || (decide (a = b) && PySem.W.dataLt (.tuple xs) (.tuple ys))) := by
  have ev : PyData.eqv (.int a) (.int b) = decide (a = b) := by
    simp only [PyData.eqv]
    by_cases h : a = b
    · simp [h]
    · simp [h]
  rw [PySem.W.dataLt_tuple, PySem.W.dataLt_tuple xs ys]
  by_cases e : a = b
  · rw [PySem.W.dataLt_all_yes (by simp [PySem.W.alike]) (by rw [ev, decide_eq_true e])]
    simp [e]
  · rw [PySem.W.dataLt_all_no (by simp [PySem.W.alike]) (by rw [ev, decide_eq_false e]), PySem.W.dataLt_int]
    simp [e]
theorem lt_pr (p q : PI2) : PySem.W.dataLt (pr p) (pr q) = decide (ltP2 p q) := by
  unfold pr
  rw [lt_int1, lt_int1, PySem.W.dataLt_self]
  by_cases h1 : p.1 < q.1
  · simp [h1]
  · by_cases h2 : p.1 = q.1
    · simp [h2]
    · simp [h1, h2]
theorem ltPs_cons (p q : PI2) (ps qs : List PI2) : ltPs (p :: ps) (q :: qs) = if p = q then ltPs ps qs else decide (ltP2 p q) := by
  unfold ltPs prs
  rw [PySem.W.dataLt_tuple, PySem.W.dataLt_tuple, List.map_cons, List.map_cons]
  by_cases e : p = q
  · rw [if_pos e, PySem.W.dataLt_all_yes (alike_pr _ _) (by rw [eqv_pr, decide_eq_true e])]
  · rw [if_neg e, PySem.W.dataLt_all_no (alike_pr _ _) (by rw [eqv_pr, decide_eq_false e]), lt_pr]
theorem ltPs_self (ps : List PI2) : ltPs ps ps = false := PySem.W.dataLt_self _
theorem ltP2_asymm {p q : PI2} (h : ltP2 p q) : ¬ ltP2 q p := by
  omega
/-- of two rows of one length that is less -/
theorem ltPs_asymm : ∀ {ps qs : List PI2}, ps.length = qs.length → ltPs ps qs = true → ltPs qs ps = false
  | [], [], _, h => ltPs_self []
  | [], _ :: _, e, _ => by cases e
  | _ :: _, [], e, _ => by cases e
  | p :: ps, q :: qs, e, h => by
    rw [ltPs_cons] at h ⊢
    by_cases z : p = q
    · rw [if_pos z] at h
      rw [if_pos z.symm]
      exact ltPs_asymm (Nat.succ.inj e) h
    · rw [if_neg z] at h
      rw [if_neg (fun y => z y.symm)]
      exact decide_eq_false (ltP2_asymm (of_decide_eq_true h))
/-! ### all the rows -/
def pick (rest : List PI2) (h : Int) (i : Nat) : Bool := decide (h ≤ (rest.getD i (0, 0)).1) && !decide (rest.getD i (0, 0) ∈ rest.take i)
def orders : Nat → List PI2 → Int → List (List PI2)
  | 0, _, _ => [[]]
  | n + 1, rest, h => ((List.range rest.length).filter (pick rest h)).flatMap fun i => (orders n (rest.eraseIdx i) (rest.getD i (0, 0)).2).map (rest.getD i (0, 0) :: ·)
def upTo (n : Nat) (rest : List PI2) (h : Int) (i : Nat) : List (List PI2) := ((List.range i).filter (pick rest h)).flatMap fun i => (orders n (rest.eraseIdx i) (rest.getD i (0, 0)).2).map (rest.getD i (0, 0) :: ·)
theorem upTo_succ (n : Nat) (rest : List PI2) (h : Int) (i : Nat) : upTo n rest h (i + 1) = upTo n rest h i ++ (if pick rest h i = true then (orders n (rest.eraseIdx i) (rest.getD i (0, 0)).2).map (rest.getD i (0, 0) :: ·) else []) := by
  unfold upTo
  rw [List.range_succ, List.filter_append, List.flatMap_append]
  congr 1
  by_cases e : pick rest h i = true
  · rw [if_pos e, List.filter_cons, if_pos e]
    simp
  · rw [if_neg e, List.filter_cons, if_neg e]
    rfl
def fct : Nat → Nat
  | 0 => 1
  | n + 1 => (n + 1) * fct n
theorem upTo_len {n : Nat} {rest : List PI2} {h : Int} {B : Nat} (hB : ∀ i, i < rest.length → (orders n (rest.eraseIdx i) (rest.getD i (0, 0)).2).length ≤ B) : ∀ i, i ≤ rest.length → (upTo n rest h i).length ≤ i * B
  | 0, _ => Nat.zero_le _
  | i + 1, hi => by
    rw [upTo_succ, List.length_append, Nat.succ_mul]
    have z := upTo_len (h := h) hB i (by omega)
    have y := hB i hi
    split
    · rw [List.length_map]
      omega
    · simp only [List.length_nil]
      omega
theorem fct_le (m : Nat) (h : m ≤ 7) : fct m ≤ 5040 := (by decide : ∀ m : Fin 8, fct m.val ≤ 5040) ⟨m, by omega⟩
theorem orders_len : ∀ (n : Nat) (rest : List PI2) (h : Int), rest.length ≤ n → (orders n rest h).length ≤ fct n
  | 0, _, _, _ => Nat.le_refl _
  | n + 1, rest, h, hn => by
    have z := upTo_len (n := n) (rest := rest) (h := h) (B := fct n) (fun i hi => orders_len n _ _ (by rw [List.length_eraseIdx]; split <;> omega)) rest.length (Nat.le_refl _)
    exact Nat.le_trans z (Nat.mul_le_mul_right _ hn)
theorem erase_perm {α : Type} (d : α) : ∀ (l : List α) (i : Nat), i < l.length → (l.getD i d :: l.eraseIdx i).Perm l
  | [], _, h => by cases h
  | a :: l, 0, _ => List.Perm.refl _
  | a :: l, i + 1, h => by
    show (l.getD i d :: a :: l.eraseIdx i).Perm (a :: l)
    exact (List.Perm.swap _ _ _).trans ((erase_perm d l i (Nat.lt_of_succ_lt_succ h)).cons a)
theorem orders_mem {n : Nat} {rest : List PI2} {h : Int} {q : List PI2} : q ∈ orders (n + 1) rest h ↔ ∃ i q', i < rest.length ∧ pick rest h i = true ∧ q' ∈ orders n (rest.eraseIdx i) (rest.getD i (0, 0)).2 ∧ q = rest.getD i (0, 0) :: q' := by
  show q ∈ List.flatMap _ _ ↔ _
  rw [List.mem_flatMap]
  constructor
  · rintro ⟨i, hi, hq⟩
    rw [List.mem_filter, List.mem_range] at hi
    obtain ⟨q', h1, rfl⟩ := List.mem_map.mp hq
    exact ⟨i, q', hi.1, hi.2, h1, rfl⟩
  · rintro ⟨i, q', h1, h2, h3, rfl⟩
    exact ⟨i, List.mem_filter.mpr ⟨List.mem_range.mpr h1, h2⟩, List.mem_map.mpr ⟨q', h3, rfl⟩⟩
theorem erase_len {rest : List PI2} {n i : Nat} (h : rest.length = n + 1) (hi : i < rest.length) : (rest.eraseIdx i).length = n := by
  rw [List.length_eraseIdx, if_pos hi]
  omega
theorem orders_perm : ∀ (n : Nat) (rest : List PI2) (h : Int) (q : List PI2), rest.length = n → q ∈ orders n rest h → q.Perm rest
  | 0, rest, h, q, e, m => by
    rw [List.mem_singleton.mp m, List.eq_nil_of_length_eq_zero e]
  | n + 1, rest, h, q, e, m => by
    obtain ⟨i, q', hi, _, hq, rfl⟩ := orders_mem.mp m
    exact ((orders_perm n _ _ q' (erase_len e hi) hq).cons _).trans (erase_perm _ rest i hi)
theorem path_cons {p : PI2} {q : List PI2} (h : path q) (g : ∀ r s, q = r :: s → p.2 ≤ r.1) : path (p :: q) := fun i a b e1 e2 => by
  cases i with
  | zero =>
    cases Option.some.inj e1
    cases q with
    | nil => simp at e2
    | cons r s =>
      cases Option.some.inj e2
      exact g _ _ rfl
  | succ i => exact h i a b e1 e2
theorem orders_path : ∀ (n : Nat) (rest : List PI2) (h : Int) (q : List PI2), q ∈ orders n rest h → path q ∧ ∀ r s, q = r :: s → h ≤ r.1
  | 0, rest, h, q, m => by
    rw [List.mem_singleton.mp m]
    exact ⟨path_nil, fun _ _ e => nomatch e⟩
  | n + 1, rest, h, q, m => by
    obtain ⟨i, q', hi, hp, hq, rfl⟩ := orders_mem.mp m
    have z := orders_path n _ _ q' hq
    refine ⟨path_cons z.1 z.2, fun r s e => ?_⟩
    cases e
    unfold pick at hp
    exact of_decide_eq_true (Bool.and_eq_true_iff.mp hp).1
def leP (p q : PI2) : Prop := ¬ ltP2 q p
theorem orders_asc : ∀ (n : Nat) (rest : List PI2) (h : Int), rest.length = n → rest.Pairwise leP → (orders n rest h).Pairwise fun a b => ltPs a b = true
  | 0, rest, h, _, _ => List.pairwise_singleton _ _
  | n + 1, rest, h, e, s => by
    refine List.pairwise_flatMap.mpr ⟨fun i hi => ?_, ?_⟩
    · rw [List.mem_filter, List.mem_range] at hi
      refine List.pairwise_map.mpr ((orders_asc n _ _ (erase_len e hi.1) (s.sublist (List.eraseIdx_sublist _ _))).imp fun {a b} z => ?_)
      rw [ltPs_cons, if_pos rfl]
      exact z
    · refine List.pairwise_filter.mpr (List.pairwise_lt_range.imp_of_mem fun {i j} mi mj lt pi pj x hx y hy => ?_)
      obtain ⟨a, _, rfl⟩ := List.mem_map.mp hx
      obtain ⟨b, _, rfl⟩ := List.mem_map.mp hy
      have hi := List.mem_range.mp mi
      have hj := List.mem_range.mp mj
      have gi : rest.getD i (0, 0) = rest[i] := by simp [List.getD, hi]
      have gj : rest.getD j (0, 0) = rest[j] := by simp [List.getD, hj]
      have ne : rest.getD i (0, 0) ≠ rest.getD j (0, 0) := fun z => by
        unfold pick at pj
        have w := (Bool.and_eq_true_iff.mp pj).2
        rw [← z, gi] at w
        have mm : rest[i] ∈ rest.take j := List.mem_take_iff_getElem.mpr ⟨i, by omega, rfl⟩
        rw [decide_eq_true mm] at w
        cases w
      have le : leP rest[i] rest[j] := List.pairwise_iff_getElem.mp s i j hi hj lt
      rw [ltPs_cons, if_neg ne]
      rw [gi, gj] at ne ⊢
      refine decide_eq_true ?_
      unfold leP ltP2 at le
      unfold ltP2
      by_cases h1 : rest[i].1 < rest[j].1
      · exact .inl h1
      · have h2 : rest[i].1 = rest[j].1 := by omega
        refine .inr ⟨h2, ?_⟩
        by_cases h3 : rest[i].2 = rest[j].2
        · exact absurd (Prod.ext h2 h3) ne
        · omega
/-! ### sorted tickets -/
def code (p : PI2) : Int := p.1 * 100 + p.2
def dec (c : Int) : PI2 := (c / 100, c % 100)
def hgt2 (p : PI2) : Prop := (0 ≤ p.1 ∧ p.1 ≤ 30) ∧ 0 ≤ p.2 ∧ p.2 ≤ 30
theorem dec_code {p : PI2} (h : hgt2 p) : dec (code p) = p := by
  unfold hgt2 at h
  refine Prod.ext ?_ ?_
  · show (p.1 * 100 + p.2) / 100 = p.1
    omega
  · show (p.1 * 100 + p.2) % 100 = p.2
    omega
def srtC (ps : List PI2) : List Int := (ps.map code).mergeSort fun a b => decide (a ≤ b)
def srt (ps : List PI2) : List PI2 := (srtC ps).map dec
theorem srtC_perm (ps : List PI2) : (srtC ps).Perm (ps.map code) := List.mergeSort_perm _ _
theorem srtC_sorted (ps : List PI2) : (srtC ps).Pairwise (· ≤ ·) := by
  have z := List.pairwise_mergeSort (le := fun a b : Int => decide (a ≤ b)) (fun a b c h1 h2 => decide_eq_true (Int.le_trans (of_decide_eq_true h1) (of_decide_eq_true h2))) (fun a b => by
    rw [Bool.or_eq_true]
    rcases Int.le_total a b with h | h
    · exact .inl (decide_eq_true h)
    · exact .inr (decide_eq_true h)) (ps.map code)
  exact z.imp fun h => of_decide_eq_true h
theorem srtC_uniq {ps : List PI2} {ns : List Int} (p : ns.Perm (ps.map code)) (s : ns.Pairwise (· ≤ ·)) : ns = srtC ps :=
  List.Perm.eq_of_pairwise (le := (· ≤ ·)) (fun a b _ _ h1 h2 => Int.le_antisymm h1 h2) s (srtC_sorted ps) (p.trans (srtC_perm ps).symm)
theorem srt_congr {ps qs : List PI2} (h : ps.Perm qs) : srt ps = srt qs := by
  unfold srt
  rw [srtC_uniq (ps := qs) (ns := srtC ps) ((srtC_perm ps).trans (h.map code)) (srtC_sorted ps)]
theorem srt_perm {ps : List PI2} (h : ∀ p ∈ ps, hgt2 p) : (srt ps).Perm ps := by
  have z := (srtC_perm ps).map dec
  rw [List.map_map, List.map_congr_left (f := dec ∘ code) (g := id) (fun p hp => dec_code (h p hp)), List.map_id] at z
  exact z
theorem srt_len (ps : List PI2) : (srt ps).length = ps.length := by
  unfold srt
  rw [List.length_map, (srtC_perm ps).length_eq, List.length_map]
theorem srt_sorted (ps : List PI2) : (srt ps).Pairwise leP := by
  unfold srt
  refine List.pairwise_map.mpr ((srtC_sorted ps).imp fun {a b} h => ?_)
  show ¬ (b / 100 < a / 100 ∨ (b / 100 = a / 100 ∧ b % 100 < a % 100))
  omega
/-- the single rows of the tickets, in order -/
def listing (ps : List PI2) : List (List PI2) := orders ps.length (srt ps) 0
theorem listing_congr {ps qs : List PI2} (h : ps.Perm qs) : listing ps = listing qs := by
  unfold listing
  rw [srt_congr h, h.length_eq]
theorem listing_perm {ps q : List PI2} (h : ∀ p ∈ ps, hgt2 p) (m : q ∈ listing ps) : q.Perm ps := (orders_perm _ _ _ q (srt_len ps) m).trans (srt_perm h)
theorem listing_path {ps q : List PI2} (m : q ∈ listing ps) : path q := (orders_path _ _ _ q m).1
theorem listing_asc (ps : List PI2) : (listing ps).Pairwise fun a b => ltPs a b = true := orders_asc _ _ _ (srt_len ps) (srt_sorted ps)
theorem listing_len {ps : List PI2} (h : ps.length ≤ 7) : (listing ps).length ≤ 5040 := Nat.le_trans (orders_len _ _ _ (by rw [srt_len] <;> exact Nat.le_refl _)) (fct_le _ h)
theorem listing_lt {ps : List PI2} {i j : Nat} {p q : List PI2} (ei : (listing ps)[i]? = some p) (ej : (listing ps)[j]? = some q) (h : ∀ p ∈ ps, hgt2 p) : ltPs p q = decide (i < j) := by
  have li := (List.getElem?_eq_some_iff.mp ei)
  have lj := (List.getElem?_eq_some_iff.mp ej)
  obtain ⟨hi, rfl⟩ := li
  obtain ⟨hj, rfl⟩ := lj
  have pw := List.pairwise_iff_getElem.mp (listing_asc ps)
  rcases Nat.lt_trichotomy i j with z | z | z
  · rw [decide_eq_true z]
    exact pw i j hi hj z
  · subst z
    rw [ltPs_self, decide_eq_false (Nat.lt_irrefl _)]
  · rw [decide_eq_false (by omega)]
    refine ltPs_asymm ?_ (pw j i hj hi z)
    have z1 := (listing_perm h (List.getElem_mem hi)).length_eq
    have z2 := (listing_perm h (List.getElem_mem hj)).length_eq
    omega
theorem listing_first {ps : List PI2} {i j : Nat} {p : List PI2} (ei : (listing ps)[i]? = some p) (ej : (listing ps)[j]? = some p) (h : ∀ p ∈ ps, hgt2 p) : i = j := by
  have z1 := listing_lt ei ej h
  have z2 := listing_lt ej ei h
  rw [ltPs_self] at z1 z2
  have y1 := of_decide_eq_false z1.symm
  have y2 := of_decide_eq_false z2.symm
  omega
end L2

set_option maxHeartbeats 2000000
namespace L2
open PySem PySem.Spec PyProof.Rows
/-! ### six and seven tickets -/
def down (n : Nat) : List PI2 := (List.range n).map fun k : Nat => ((9 : Int), Int.ofNat k)
theorem srt_down6 : srt (down 6) = down 6 := by
  unfold srt
  rw [← srtC_uniq (ps := down 6) (ns := (down 6).map code) (List.Perm.refl _) (by decide)]
  decide
theorem srt_down7 : srt (down 7) = down 7 := by
  unfold srt
  rw [← srtC_uniq (ps := down 7) (ns := (down 7).map code) (List.Perm.refl _) (by decide)]
  decide
theorem len_down7 : (listing (down 7)).length = 5040 := by
  unfold listing
  rw [srt_down7]
  decide +kernel
theorem last_down6 : (listing (down 6)).length = 720 ∧ ∃ r, (listing (down 6))[719]? = some ((9, 5) :: r) := by
  unfold listing
  rw [srt_down6]
  refine ⟨by decide +kernel, ?_⟩
  have z : ((orders 6 (down 6) 0)[719]?.bind List.head?) = some (9, 5) := by decide +kernel
  cases e : (orders 6 (down 6) 0)[719]? with
  | none => rw [e] at z; cases z
  | some q =>
    rw [e] at z
    cases q with
    | nil => cases z
    | cons p r =>
      cases Option.some.inj (show some p = some (9, 5) from z)
      exact ⟨r, e⟩
theorem last_down7 : ∃ r, (listing (down 7))[5039]? = some ((9, 6) :: r) := by
  unfold listing
  rw [srt_down7]
  have z : ((orders 7 (down 7) 0)[5039]?.bind List.head?) = some (9, 6) := by decide +kernel
  cases e : (orders 7 (down 7) 0)[5039]? with
  | none => rw [e] at z; cases z
  | some q =>
    rw [e] at z
    cases q with
    | nil => cases z
    | cons p r =>
      cases Option.some.inj (show some p = some (9, 6) from z)
      exact ⟨r, e⟩
end L2

set_option maxHeartbeats 2000000
namespace CT
open PySem PySem.Spec PyProof.Rows L2 He
/-! ### the rules with the written part named (within a comprehension the context is a bound one) -/
section
variable {X : Cx} (K : PySem.W.Frag) (hK : X.K = K)
theorem pe_fldK {e : Expr} {f : Str} {pos : Pos} {ta : TE} (he : PE X e ta) (hK : X.K = K := by rfl) (hb : attributeBase e f X.env (eval e X.env) = eval e X.env := by rfl) : PE X (.Attribute e f pos) (tFld K ta f) := hK ▸ pe_fld he hb
theorem pe_cvalK {e : Expr} {f : Str} {pos : Pos} {ta : TE} (he : PE X e ta) (hK : X.K = K := by rfl) (hb : attributeBase e f X.env (eval e X.env) = eval e X.env := by rfl) : PE X (.Attribute e f pos) (ClX.tCVal K ta f) := hK ▸ ClX.pe_cval he hb
theorem ix_listK (hK : X.K = K := by rfl) : IxR X (rIxL K) := hK ▸ ix_list
theorem ix_tupK (hK : X.K = K := by rfl) : IxR X (rIxT K) := hK ▸ ix_tup
theorem sl_listK (hK : X.K = K := by rfl) : SlR X (rSlL K) := hK ▸ sl_list
theorem sl_tupK (hK : X.K = K := by rfl) : SlR X (rSlA K) := hK ▸ sl_tupA
theorem op_eqDK (hu : X.A.units + 64 < cLine) (hK : X.K = K := by rfl) : OpR X (compareOp .Eq) (rEqD K) := hK ▸ op_eqD hu
theorem op_neDK (hu : X.A.units + 64 < cLine) (hK : X.K = K := by rfl) : OpR X (compareOp .NotEq) (rNeD K) := hK ▸ op_neD hu
theorem op_ltDK (hu : X.A.units + 64 < cLine) (hK : X.K = K := by rfl) : OpR X (compareOp .Lt) (rLtD K) := hK ▸ op_ltD hu
theorem op_inDK (hu : X.A.units + 65 < cLine) (hK : X.K = K := by rfl) : OpR X (compareOp .In) (rInD K) := hK ▸ op_inD hu
theorem op_notInDK (hu : X.A.units + 65 < cLine) (hK : X.K = K := by rfl) : OpR X (compareOp .NotIn) (rNotInD K) := hK ▸ op_notInD hu
theorem op_inTDK (hu : X.A.units + 65 < cLine) (hK : X.K = K := by rfl) : OpR X (compareOp .In) (rInTD K) := hK ▸ op_inTD hu
theorem op_notInTDK (hu : X.A.units + 65 < cLine) (hK : X.K = K := by rfl) : OpR X (compareOp .NotIn) (rNotInTD K) := hK ▸ op_notInTD hu
theorem mt_countDK (hu : X.A.units + 65 < cLine) (hK : X.K = K := by rfl) : MtR X "list.count" (rCntD K false) := hK ▸ mt_countD hu
theorem mt_tcountDK (hu : X.A.units + 65 < cLine) (hK : X.K = K := by rfl) : MtR X "tuple.count" (rCntD K true) := hK ▸ mt_tcountD hu
theorem mt_indexDK (hu : X.A.units + 65 < cLine) (hK : X.K = K := by rfl) : MtR X "list.index" (rIndexD K) := hK ▸ mt_indexD hu
theorem mt_extendTK (hK : X.K = K := by rfl) : MtR X "list.extend" (rExtT K) := hK ▸ mt_extendT
theorem call_isiK' (hK : X.K = K := by rfl) : CallR X (.builtin "isinstance") (rIsi K) := hK ▸ call_isi
theorem call_lenK (hK : X.K = K := by rfl) : CallR X (.builtin "len") (fun xs H Q => ∃ p ys, xs = [.ref p] ∧ (SqL K H p ys ∨ SqT K H p ys) ∧ Q (.int ys.length) H) := hK ▸ call_len_seq
theorem cr_sumK (hc : X.calm = true) (hK : X.K = K := by rfl) : CallR X (.builtin "sum") (rSum K) := hK ▸ cr_sum hc
theorem cr_sortedK (hK : X.K = K := by rfl) : CallR X (.builtin "sorted") (rSorted K) := hK ▸ cr_sorted
theorem call_list_ofK (hK : X.K = K := by rfl) : CallR X (.type "list") (fun xs H Q => ∃ p ys, xs = [.ref p] ∧ (SqL K H p ys ∨ SqT K H p ys) ∧ ∀ l, H l = none → Q (.ref l) (upd H l (.lst ys))) := hK ▸ call_list_of
theorem call_tuple_frzK (hK : X.K = K := by rfl) : CallR X (.type "tuple") (rTupF K) := hK ▸ call_tuple_frz
theorem call_tuple_ofK (hK : X.K = K := by rfl) : CallR X (.type "tuple") (fun xs H Q => ∃ p ys, xs = [.ref p] ∧ ((SqL K H p ys ∧ ∀ l, H l = none → Q (.ref l) (upd H l (.tup ys))) ∨ (SqT K H p ys ∧ Q (.ref p) H))) := hK ▸ call_tuple_of
theorem pg_tupK {es : List Expr} {k : Nat} {t : TGs} {pos : Pos} (n : Nat) (hc : X.calm = true) (h : PGs X es t) (hK : X.K = K := by rfl)
    (hn : (assignEach es X.env).length = n := by rfl) (hst : (assignEach es X.env).findIdx? (·.1) = none := by rfl) : PG X (.Tuple es k pos) (gTup K n t) := hK ▸ pg_tup hc h hn hst
section
variable {o e : Expr} {es : List Expr} {to : TE} {t : TA} {name : Str} {apos cpos : Pos} {T id : String} {r : V → List V → Hp → VK → Prop}
theorem pe_bm0K (pa : PlainAttrs T) (slot : Slot T name id) (hty : typeOf (.builtin id) = pure (.type "method_descriptor")) (hm : MtR X id r) (ho : PE X o to) (hK : X.K = K := by rfl)
    (hbase : attributeBase o name X.env (eval o X.env) = eval o X.env := by rfl) (hline : (apos.endLine == cpos.line) = true := by rfl) : PE X (.Call (.Attribute o name apos) [] [] cpos) (tBM0 K T r to) := hK ▸ pe_bm0 pa slot hty hm ho hbase hline
theorem pe_bmK (pa : PlainAttrs T) (slot : Slot T name id) (hty : typeOf (.builtin id) = pure (.type "method_descriptor")) (hm : MtR X id r) (ho : PE X o to) (ha : PA X (e :: es) t) (hK : X.K = K := by rfl)
    (hbase : attributeBase o name X.env (eval o X.env) = eval o X.env := by rfl)
    (hfew : ((backTo cpos (starEach (e :: es) X.env)).all (fun x => !x.1) && (backToKw cpos (keywordEach [] X.env)).all (fun x => x.1.isSome)
      && decide ((e :: es).length + ([] : List Keyword).length + (if ([] : List Keyword).isEmpty then 0 else 1) < 30)) = true := by rfl)
    (hline : (apos.endLine == cpos.line) = true := by rfl) (hs : starEach (e :: es) X.env = (false, eval e X.env) :: starEach es X.env := by rfl) (hplain : (backTo cpos (starEach es X.env)).any (·.1) = false := by rfl) :
    PE X (.Call (.Attribute o name apos) (e :: es) [] cpos) (tBM K T r to t) := hK ▸ pe_bm pa slot hty hm ho ha hbase hfew hline hs hplain
end
theorem pa_starK {e : Expr} {es : List Expr} {te : TE} {t : TA} {p : Pos} (he : PE X e te) (hr : PA X es t) (hK : X.K = K := by rfl) (hs : starEach (.Starred e p :: es) X.env = (true, eval e X.env) :: starEach es X.env := by rfl) : PA X (.Starred e p :: es) (StX.tStar K te t) := hK ▸ StX.pa_star he hr hs
end
end CT

set_option maxHeartbeats 4000000

namespace K41
open PySem PySem.Spec PyProof.Rows L2 CT
def top (i : Nat) : Stmt := PySem.Challenge.pw_climbtickets_k41_whole_ranks_of_rows.main.body.getD i (.Pass ⟨0, 0, 0, 0⟩)
abbrev s__law_mixed : Stmt := top 36
abbrev s__law_folded : Stmt := top 37
abbrev s__law_draw : Stmt := top 38
abbrev s__law_begun : Stmt := top 39
abbrev s__law_mixed_up : Stmt := top 40
abbrev s__law_pair : Stmt := top 41
abbrev s__law_path : Stmt := top 42
abbrev s__law_lone : Stmt := top 43
abbrev s__law_pairs : Stmt := top 44
abbrev s__law_desk : Stmt := top 45
abbrev s__law_written : Stmt := top 46
abbrev s__law_same : Stmt := top 47
abbrev s__law_is_path : Stmt := top 48
abbrev s__law_row_right : Stmt := top 49
abbrev s__law_right : Stmt := top 50
abbrev s_law : Stmt := top 51
abbrev s_Desk___init__ : Stmt := inClass (top 21) 1
abbrev s_Ticket___init__ : Stmt := inClass (top 14) 1
abbrev s_Desk___add__ : Stmt := inClass (top 21) 15
abbrev s_Row_tickets : Stmt := inClass (top 16) 1
abbrev s_Ticket_x : Stmt := inClass (top 14) 2
abbrev s_Ticket_y : Stmt := inClass (top 14) 3
abbrev s_row_by_rank : Stmt := top 33
abbrev s_Plan_is_plan : Stmt := inClass (top 24) 1
abbrev s_Row_cut : Stmt := inClass (top 16) 13
abbrev s_rank_of_row : Stmt := top 34
abbrev s_Row___add__ : Stmt := inClass (top 16) 12
abbrev s_Row___eq__ : Stmt := inClass (top 16) 7
abbrev s_count_rows : Stmt := top 32
abbrev s_Row___lt__ : Stmt := inClass (top 16) 8
abbrev s_Row___getitem__ : Stmt := inClass (top 16) 10
abbrev s_Ticket___eq__ : Stmt := inClass (top 14) 6
abbrev s_Row___init__ : Stmt := inClass (top 16) 0
abbrev s_Row___len__ : Stmt := inClass (top 16) 5
abbrev s_is_integer : Stmt := top 12
abbrev s_is_between : Stmt := top 13
abbrev s_first_break : Stmt := top 15
abbrev s_excess_numbers : Stmt := top 19
abbrev s_Profile___init__ : Stmt := inClass (top 18) 1
abbrev s_desk_break : Stmt := top 20
abbrev s_Desk___len__ : Stmt := inClass (top 21) 8
abbrev s_plan_problem : Stmt := top 23
abbrev s_check_listed : Stmt := top 28
abbrev s_orders_from : Stmt := top 29
abbrev s_listed : Stmt := top 30
abbrev s_row_of : Stmt := top 31
structure Txt (K : PySem.W.Frag) (mg : Str → Option Value) : Prop where
  f_range : mg "range" = none
  f_enumerate : mg "enumerate" = none
  f_len : mg "len" = none
  g__law_mixed : mg "_law_mixed" = some (.ref (He.ga K "_law_mixed"))
  k__law_mixed : PySem.W.keepIn K (.ref (He.ga K "_law_mixed")) = true
  g__law_folded : mg "_law_folded" = some (.ref (He.ga K "_law_folded"))
  k__law_folded : PySem.W.keepIn K (.ref (He.ga K "_law_folded")) = true
  f_list : mg "list" = none
  g__law_draw : mg "_law_draw" = some (.ref (He.ga K "_law_draw"))
  k__law_draw : PySem.W.keepIn K (.ref (He.ga K "_law_draw")) = true
  g__law_pair : mg "_law_pair" = some (.ref (He.ga K "_law_pair"))
  k__law_pair : PySem.W.keepIn K (.ref (He.ga K "_law_pair")) = true
  g__law_path : mg "_law_path" = some (.ref (He.ga K "_law_path"))
  k__law_path : PySem.W.keepIn K (.ref (He.ga K "_law_path")) = true
  g__law_lone : mg "_law_lone" = some (.ref (He.ga K "_law_lone"))
  k__law_lone : PySem.W.keepIn K (.ref (He.ga K "_law_lone")) = true
  g__law_mixed_up : mg "_law_mixed_up" = some (.ref (He.ga K "_law_mixed_up"))
  k__law_mixed_up : PySem.W.keepIn K (.ref (He.ga K "_law_mixed_up")) = true
  g_Desk : mg "Desk" = some (.ref (He.ga K "Desk"))
  mk_Desk : Mk K (He.ga K "Desk") (He.ma K (He.ga K "Desk") "__init__")
  g_Ticket : mg "Ticket" = some (.ref (He.ga K "Ticket"))
  mk_Ticket : Mk K (He.ga K "Ticket") (He.ma K (He.ga K "Ticket") "__init__")
  o_Desk_add : OwnM K (He.ga K "Desk") "__add__" (He.ma K (He.ga K "Desk") "__add__")
  s_Desk : PySem.W.selfFirst K (He.ga K "Desk") = true
  c_Row : Cls K (He.ga K "Row")
  p_Row_tickets : PropOf K (He.ga K "Row") "tickets" (CT.pa K "Row" "tickets") (CT.pg K "Row" "tickets")
  c_Ticket : Cls K (He.ga K "Ticket")
  p_Ticket_x : PropOf K (He.ga K "Ticket") "x" (CT.pa K "Ticket" "x") (CT.pg K "Ticket" "x")
  p_Ticket_y : PropOf K (He.ga K "Ticket") "y" (CT.pa K "Ticket" "y") (CT.pg K "Ticket" "y")
  g_row_by_rank : mg "row_by_rank" = some (.ref (He.ga K "row_by_rank"))
  k_row_by_rank : PySem.W.keepIn K (.ref (He.ga K "row_by_rank")) = true
  g__law_written : mg "_law_written" = some (.ref (He.ga K "_law_written"))
  k__law_written : PySem.W.keepIn K (.ref (He.ga K "_law_written")) = true
  g__law_is_path : mg "_law_is_path" = some (.ref (He.ga K "_law_is_path"))
  k__law_is_path : PySem.W.keepIn K (.ref (He.ga K "_law_is_path")) = true
  g__law_same : mg "_law_same" = some (.ref (He.ga K "_law_same"))
  k__law_same : PySem.W.keepIn K (.ref (He.ga K "_law_same")) = true
  sm_Plan_is_plan : ClX.CRead K (He.ga K "Plan") (.type "type") ∧ SMet K (He.ga K "Plan") (.type "type") "is_plan" (CT.pa K "Plan" "is_plan") (CT.sg K "Plan" "is_plan")
  g_Plan : mg "Plan" = some (.ref (He.ga K "Plan"))
  m_Row_cut : Meth K (He.ga K "Row") "cut" (He.ma K (He.ga K "Row") "cut")
  g__law_desk : mg "_law_desk" = some (.ref (He.ga K "_law_desk"))
  k__law_desk : PySem.W.keepIn K (.ref (He.ga K "_law_desk")) = true
  g_rank_of_row : mg "rank_of_row" = some (.ref (He.ga K "rank_of_row"))
  k_rank_of_row : PySem.W.keepIn K (.ref (He.ga K "rank_of_row")) = true
  o_Row_add : OwnM K (He.ga K "Row") "__add__" (He.ma K (He.ga K "Row") "__add__")
  s_Row : PySem.W.selfFirst K (He.ga K "Row") = true
  o_Row_eq : OwnM K (He.ga K "Row") "__eq__" (He.ma K (He.ga K "Row") "__eq__")
  g_count_rows : mg "count_rows" = some (.ref (He.ga K "count_rows"))
  k_count_rows : PySem.W.keepIn K (.ref (He.ga K "count_rows")) = true
  g__law_row_right : mg "_law_row_right" = some (.ref (He.ga K "_law_row_right"))
  k__law_row_right : PySem.W.keepIn K (.ref (He.ga K "_law_row_right")) = true
  o_Row_lt : OwnM K (He.ga K "Row") "__lt__" (He.ma K (He.ga K "Row") "__lt__")
  g__law_begun : mg "_law_begun" = some (.ref (He.ga K "_law_begun"))
  k__law_begun : PySem.W.keepIn K (.ref (He.ga K "_law_begun")) = true
  f_min : mg "min" = none
  g__law_right : mg "_law_right" = some (.ref (He.ga K "_law_right"))
  k__law_right : PySem.W.keepIn K (.ref (He.ga K "_law_right")) = true
  g__law_pairs : mg "_law_pairs" = some (.ref (He.ga K "_law_pairs"))
  k__law_pairs : PySem.W.keepIn K (.ref (He.ga K "_law_pairs")) = true
  o_Row_getitem : OwnM K (He.ga K "Row") "__getitem__" (He.ma K (He.ga K "Row") "__getitem__")
  o_Ticket_eq : OwnM K (He.ga K "Ticket") "__eq__" (He.ma K (He.ga K "Ticket") "__eq__")
  ne_Ticket : NeOwn K (He.ga K "Ticket") (He.ma K (He.ga K "Ticket") "__eq__")
  g_Row : mg "Row" = some (.ref (He.ga K "Row"))
  mk_Row : Mk K (He.ga K "Row") (He.ma K (He.ga K "Row") "__init__")
  o_Row_len : OwnM K (He.ga K "Row") "__len__" (He.ma K (He.ga K "Row") "__len__")
  f_isinstance : mg "isinstance" = none
  f_int : mg "int" = none
  f_bool : mg "bool" = none
  g_is_integer : mg "is_integer" = some (.ref (He.ga K "is_integer"))
  k_is_integer : PySem.W.keepIn K (.ref (He.ga K "is_integer")) = true
  g_is_between : mg "is_between" = some (.ref (He.ga K "is_between"))
  k_is_between : PySem.W.keepIn K (.ref (He.ga K "is_between")) = true
  v_Ticket_MAX_HEIGHT : ClX.CRead K (He.ga K "Ticket") (.type "type") ∧ ∃ t, ClX.CVal K (He.ga K "Ticket") (.type "type") "MAX_HEIGHT" (.int 30) (.int 30 t)
  n_Ticket_foot : NoAttr K (He.ga K "Ticket") "foot"
  n_Ticket_head : NoAttr K (He.ga K "Ticket") "head"
  t_Ticket : TyC K (He.ga K "Ticket")
  kit_Ticket_Ticket : PySem.W.kitOne K (.ref (He.ga K "Ticket")) (.ref (He.ga K "Ticket")) = some true
  g_first_break : mg "first_break" = some (.ref (He.ga K "first_break"))
  k_first_break : PySem.W.keepIn K (.ref (He.ga K "first_break")) = true
  n_Row_cards : NoAttr K (He.ga K "Row") "cards"
  n_Row_pairs : NoAttr K (He.ga K "Row") "pairs"
  f_tuple : mg "tuple" = none
  n_Row_steps : NoAttr K (He.ga K "Row") "steps"
  f_sum : mg "sum" = none
  f_zip : mg "zip" = none
  t_Row : TyC K (He.ga K "Row")
  kit_Row_Row : PySem.W.kitOne K (.ref (He.ga K "Row")) (.ref (He.ga K "Row")) = some true
  kit_Row_Ticket : PySem.W.kitOne K (.ref (He.ga K "Row")) (.ref (He.ga K "Ticket")) = some false
  g_Profile : mg "Profile" = some (.ref (He.ga K "Profile"))
  v_Profile_GAPS : ClX.CRead K (He.ga K "Profile") (.type "type") ∧ ∃ t, ClX.CVal K (He.ga K "Profile") (.type "type") "GAPS" (.int 30) (.int 30 t)
  c_Profile : Cls K (He.ga K "Profile")
  n_Profile_levels : NoAttr K (He.ga K "Profile") "levels"
  v_Desk_MAX_TICKETS : ClX.CRead K (He.ga K "Desk") (.type "type") ∧ ∃ t, ClX.CVal K (He.ga K "Desk") (.type "type") "MAX_TICKETS" (.int 40) (.int 40 t)
  g_desk_break : mg "desk_break" = some (.ref (He.ga K "desk_break"))
  k_desk_break : PySem.W.keepIn K (.ref (He.ga K "desk_break")) = true
  c_Desk : Cls K (He.ga K "Desk")
  n_Desk_cards : NoAttr K (He.ga K "Desk") "cards"
  n_Desk_pairs : NoAttr K (He.ga K "Desk") "pairs"
  g_excess_numbers : mg "excess_numbers" = some (.ref (He.ga K "excess_numbers"))
  k_excess_numbers : PySem.W.keepIn K (.ref (He.ga K "excess_numbers")) = true
  n_Desk_profile : NoAttr K (He.ga K "Desk") "profile"
  mk_Profile : Mk K (He.ga K "Profile") (He.ma K (He.ga K "Profile") "__init__")
  t_Desk : TyC K (He.ga K "Desk")
  kit_Desk_Ticket : PySem.W.kitOne K (.ref (He.ga K "Desk")) (.ref (He.ga K "Ticket")) = some false
  kit_Desk_Desk : PySem.W.kitOne K (.ref (He.ga K "Desk")) (.ref (He.ga K "Desk")) = some true
  g_plan_problem : mg "plan_problem" = some (.ref (He.ga K "plan_problem"))
  k_plan_problem : PySem.W.keepIn K (.ref (He.ga K "plan_problem")) = true
  o_Desk_len : OwnM K (He.ga K "Desk") "__len__" (He.ma K (He.ga K "Desk") "__len__")
  i_MAX_LISTED : ∃ t, mg "MAX_LISTED" = some (.int 7 t)
  g_orders_from : mg "orders_from" = some (.ref (He.ga K "orders_from"))
  k_orders_from : PySem.W.keepIn K (.ref (He.ga K "orders_from")) = true
  g_check_listed : mg "check_listed" = some (.ref (He.ga K "check_listed"))
  k_check_listed : PySem.W.keepIn K (.ref (He.ga K "check_listed")) = true
  f_sorted : mg "sorted" = none
  i_CODE : ∃ t, mg "CODE" = some (.int 100 t)
  g_listed : mg "listed" = some (.ref (He.ga K "listed"))
  k_listed : PySem.W.keepIn K (.ref (He.ga K "listed")) = true
  g_row_of : mg "row_of" = some (.ref (He.ga K "row_of"))
  k_row_of : PySem.W.keepIn K (.ref (He.ga K "row_of")) = true
  ns_Ticket_add : NoSlot K (He.ga K "Ticket") "add"
  nf_Row_Row : PySem.W.notFirst K (He.ga K "Row") (.ref (He.ga K "Row")) = true
  g_law : mg "law" = some (.ref (He.ga K "law"))
  nf_Ticket_Ticket : PySem.W.notFirst K (He.ga K "Ticket") (.ref (He.ga K "Ticket")) = true
  d__law_mixed : ∃ fd, FunD K "_law_mixed" "_law_mixed" (defArgs s__law_mixed) (defBody s__law_mixed) (defScope s__law_mixed) [] [] (He.ga K "_law_mixed") fd
  d__law_folded : ∃ fd, FunD K "_law_folded" "_law_folded" (defArgs s__law_folded) (defBody s__law_folded) (defScope s__law_folded) [] [] (He.ga K "_law_folded") fd
  d__law_draw : ∃ fd, FunD K "_law_draw" "_law_draw" (defArgs s__law_draw) (defBody s__law_draw) (defScope s__law_draw) [] [] (He.ga K "_law_draw") fd
  d__law_begun : ∃ fd, FunD K "_law_begun" "_law_begun" (defArgs s__law_begun) (defBody s__law_begun) (defScope s__law_begun) [] [] (He.ga K "_law_begun") fd
  d__law_mixed_up : ∃ fd, FunD K "_law_mixed_up" "_law_mixed_up" (defArgs s__law_mixed_up) (defBody s__law_mixed_up) (defScope s__law_mixed_up) [] [] (He.ga K "_law_mixed_up") fd
  d__law_pair : ∃ fd, FunD K "_law_pair" "_law_pair" (defArgs s__law_pair) (defBody s__law_pair) (defScope s__law_pair) [] [] (He.ga K "_law_pair") fd
  d__law_path : ∃ fd, FunD K "_law_path" "_law_path" (defArgs s__law_path) (defBody s__law_path) (defScope s__law_path) [] [] (He.ga K "_law_path") fd
  d__law_lone : ∃ fd, FunD K "_law_lone" "_law_lone" (defArgs s__law_lone) (defBody s__law_lone) (defScope s__law_lone) [] [] (He.ga K "_law_lone") fd
  d__law_pairs : ∃ fd, FunD K "_law_pairs" "_law_pairs" (defArgs s__law_pairs) (defBody s__law_pairs) (defScope s__law_pairs) [] [] (He.ga K "_law_pairs") fd
  d__law_desk : ∃ fd, FunD K "_law_desk" "_law_desk" (defArgs s__law_desk) (defBody s__law_desk) (defScope s__law_desk) [] [] (He.ga K "_law_desk") fd
  d__law_written : ∃ fd, FunD K "_law_written" "_law_written" (defArgs s__law_written) (defBody s__law_written) (defScope s__law_written) [] [] (He.ga K "_law_written") fd
  d__law_same : ∃ fd, FunD K "_law_same" "_law_same" (defArgs s__law_same) (defBody s__law_same) (defScope s__law_same) [] [] (He.ga K "_law_same") fd
  d__law_is_path : ∃ fd, FunD K "_law_is_path" "_law_is_path" (defArgs s__law_is_path) (defBody s__law_is_path) (defScope s__law_is_path) [] [] (He.ga K "_law_is_path") fd
  d__law_row_right : ∃ fd, FunD K "_law_row_right" "_law_row_right" (defArgs s__law_row_right) (defBody s__law_row_right) (defScope s__law_row_right) [] [] (He.ga K "_law_row_right") fd
  d__law_right : ∃ fd, FunD K "_law_right" "_law_right" (defArgs s__law_right) (defBody s__law_right) (defScope s__law_right) [] [] (He.ga K "_law_right") fd
  d_law : ∃ fd, FunD K "law" "law" (defArgs s_law) (defBody s_law) (defScope s_law) [] [] (He.ga K "law") fd
  d_Desk___init__ : ∃ fd, FunD K "__init__" "Desk.__init__" (defArgs s_Desk___init__) (defBody s_Desk___init__) (defScope s_Desk___init__) [] [] (He.ma K (He.ga K "Desk") "__init__") fd
  d_Ticket___init__ : ∃ fd, FunD K "__init__" "Ticket.__init__" (defArgs s_Ticket___init__) (defBody s_Ticket___init__) (defScope s_Ticket___init__) [] [] (He.ma K (He.ga K "Ticket") "__init__") fd
  d_Desk___add__ : ∃ fd, FunD K "__add__" "Desk.__add__" (defArgs s_Desk___add__) (defBody s_Desk___add__) (defScope s_Desk___add__) [] [] (He.ma K (He.ga K "Desk") "__add__") fd
  d_Row_tickets : ∃ fd, FunD K "tickets" "Row.tickets" (defArgs s_Row_tickets) (defBody s_Row_tickets) (defScope s_Row_tickets) [] [] (CT.pg K "Row" "tickets") fd
  d_Ticket_x : ∃ fd, FunD K "x" "Ticket.x" (defArgs s_Ticket_x) (defBody s_Ticket_x) (defScope s_Ticket_x) [] [] (CT.pg K "Ticket" "x") fd
  d_Ticket_y : ∃ fd, FunD K "y" "Ticket.y" (defArgs s_Ticket_y) (defBody s_Ticket_y) (defScope s_Ticket_y) [] [] (CT.pg K "Ticket" "y") fd
  d_row_by_rank : ∃ fd, FunD K "row_by_rank" "row_by_rank" (defArgs s_row_by_rank) (defBody s_row_by_rank) (defScope s_row_by_rank) [] [] (He.ga K "row_by_rank") fd
  d_Plan_is_plan : ∃ fd, FunD K "is_plan" "Plan.is_plan" (defArgs s_Plan_is_plan) (defBody s_Plan_is_plan) (defScope s_Plan_is_plan) [] [] (CT.sg K "Plan" "is_plan") fd
  d_Row_cut : ∃ fd, FunD K "cut" "Row.cut" (defArgs s_Row_cut) (defBody s_Row_cut) (defScope s_Row_cut) [] [] (He.ma K (He.ga K "Row") "cut") fd
  d_rank_of_row : ∃ fd, FunD K "rank_of_row" "rank_of_row" (defArgs s_rank_of_row) (defBody s_rank_of_row) (defScope s_rank_of_row) [] [] (He.ga K "rank_of_row") fd
  d_Row___add__ : ∃ fd, FunD K "__add__" "Row.__add__" (defArgs s_Row___add__) (defBody s_Row___add__) (defScope s_Row___add__) [] [] (He.ma K (He.ga K "Row") "__add__") fd
  d_Row___eq__ : ∃ fd, FunD K "__eq__" "Row.__eq__" (defArgs s_Row___eq__) (defBody s_Row___eq__) (defScope s_Row___eq__) [] [] (He.ma K (He.ga K "Row") "__eq__") fd
  d_count_rows : ∃ fd, FunD K "count_rows" "count_rows" (defArgs s_count_rows) (defBody s_count_rows) (defScope s_count_rows) [] [] (He.ga K "count_rows") fd
  d_Row___lt__ : ∃ fd, FunD K "__lt__" "Row.__lt__" (defArgs s_Row___lt__) (defBody s_Row___lt__) (defScope s_Row___lt__) [] [] (He.ma K (He.ga K "Row") "__lt__") fd
  d_Row___getitem__ : ∃ fd, FunD K "__getitem__" "Row.__getitem__" (defArgs s_Row___getitem__) (defBody s_Row___getitem__) (defScope s_Row___getitem__) [] [] (He.ma K (He.ga K "Row") "__getitem__") fd
  d_Ticket___eq__ : ∃ fd, FunD K "__eq__" "Ticket.__eq__" (defArgs s_Ticket___eq__) (defBody s_Ticket___eq__) (defScope s_Ticket___eq__) [] [] (He.ma K (He.ga K "Ticket") "__eq__") fd
  d_Row___init__ : ∃ fd, FunD K "__init__" "Row.__init__" (defArgs s_Row___init__) (defBody s_Row___init__) (defScope s_Row___init__) [] [] (He.ma K (He.ga K "Row") "__init__") fd
  d_Row___len__ : ∃ fd, FunD K "__len__" "Row.__len__" (defArgs s_Row___len__) (defBody s_Row___len__) (defScope s_Row___len__) [] [] (He.ma K (He.ga K "Row") "__len__") fd
  d_is_integer : ∃ fd, FunD K "is_integer" "is_integer" (defArgs s_is_integer) (defBody s_is_integer) (defScope s_is_integer) [] [] (He.ga K "is_integer") fd
  d_is_between : ∃ fd, FunD K "is_between" "is_between" (defArgs s_is_between) (defBody s_is_between) (defScope s_is_between) [] [] (He.ga K "is_between") fd
  d_first_break : ∃ fd, FunD K "first_break" "first_break" (defArgs s_first_break) (defBody s_first_break) (defScope s_first_break) [] [] (He.ga K "first_break") fd
  d_excess_numbers : ∃ fd, FunD K "excess_numbers" "excess_numbers" (defArgs s_excess_numbers) (defBody s_excess_numbers) (defScope s_excess_numbers) [] [] (He.ga K "excess_numbers") fd
  d_Profile___init__ : ∃ fd, FunD K "__init__" "Profile.__init__" (defArgs s_Profile___init__) (defBody s_Profile___init__) (defScope s_Profile___init__) [] [] (He.ma K (He.ga K "Profile") "__init__") fd
  d_desk_break : ∃ fd, FunD K "desk_break" "desk_break" (defArgs s_desk_break) (defBody s_desk_break) (defScope s_desk_break) [] [] (He.ga K "desk_break") fd
  d_Desk___len__ : ∃ fd, FunD K "__len__" "Desk.__len__" (defArgs s_Desk___len__) (defBody s_Desk___len__) (defScope s_Desk___len__) [] [] (He.ma K (He.ga K "Desk") "__len__") fd
  d_plan_problem : ∃ fd, FunD K "plan_problem" "plan_problem" (defArgs s_plan_problem) (defBody s_plan_problem) (defScope s_plan_problem) [] [] (He.ga K "plan_problem") fd
  d_check_listed : ∃ fd, FunD K "check_listed" "check_listed" (defArgs s_check_listed) (defBody s_check_listed) (defScope s_check_listed) [] [] (He.ga K "check_listed") fd
  d_orders_from : ∃ fd, FunD K "orders_from" "orders_from" (defArgs s_orders_from) (defBody s_orders_from) (defScope s_orders_from) [] [] (He.ga K "orders_from") fd
  d_listed : ∃ fd, FunD K "listed" "listed" (defArgs s_listed) (defBody s_listed) (defScope s_listed) [] [] (He.ga K "listed") fd
  d_row_of : ∃ fd, FunD K "row_of" "row_of" (defArgs s_row_of) (defBody s_row_of) (defScope s_row_of) [] [] (He.ga K "row_of") fd
def fa : List He.Fa := [.free "range", .free "enumerate", .free "len", .glo "_law_mixed", .keep "_law_mixed", .glo "_law_folded", .keep "_law_folded", .free "list", .glo "_law_draw", .keep "_law_draw", .glo "_law_pair", .keep "_law_pair", .glo "_law_path", .keep "_law_path", .glo "_law_lone", .keep "_law_lone", .glo "_law_mixed_up", .keep "_law_mixed_up", .glo "Desk", .mkr "Desk", .glo "Ticket", .mkr "Ticket", .cls "Row", .cls "Ticket", .glo "row_by_rank", .keep "row_by_rank", .glo "_law_written", .keep "_law_written", .glo "_law_is_path", .keep "_law_is_path", .glo "_law_same", .keep "_law_same", .glo "Plan", .meth "Row" "cut", .glo "_law_desk", .keep "_law_desk", .glo "rank_of_row", .keep "rank_of_row", .glo "count_rows", .keep "count_rows", .glo "_law_row_right", .keep "_law_row_right", .glo "_law_begun", .keep "_law_begun", .free "min", .glo "_law_right", .keep "_law_right", .glo "_law_pairs", .keep "_law_pairs", .glo "Row", .mkr "Row", .free "isinstance", .free "int", .free "bool", .glo "is_integer", .keep "is_integer", .glo "is_between", .keep "is_between", .noat "Ticket" "foot", .noat "Ticket" "head", .glo "first_break", .keep "first_break", .noat "Row" "cards", .noat "Row" "pairs", .free "tuple", .noat "Row" "steps", .free "sum", .free "zip", .glo "Profile", .cls "Profile", .noat "Profile" "levels", .glo "desk_break", .keep "desk_break", .cls "Desk", .noat "Desk" "cards", .noat "Desk" "pairs", .glo "excess_numbers", .keep "excess_numbers", .noat "Desk" "profile", .mkr "Profile", .glo "plan_problem", .keep "plan_problem", .int "MAX_LISTED" 7, .glo "orders_from", .keep "orders_from", .glo "check_listed", .keep "check_listed", .free "sorted", .int "CODE" 100, .glo "listed", .keep "listed", .glo "row_of", .keep "row_of", .glo "law"]
def fx : List CT.Fx := [.own "Desk" "__add__", .sfirst "Desk", .prop "Row" "tickets", .prop "Ticket" "x", .prop "Ticket" "y", .smet "Plan" "is_plan", .own "Row" "__add__", .sfirst "Row", .own "Row" "__eq__", .own "Row" "__lt__", .own "Row" "__getitem__", .own "Ticket" "__eq__", .neo "Ticket", .own "Row" "__len__", .cval "Ticket" "MAX_HEIGHT" 30, .tyc "Ticket", .kit "Ticket" "Ticket" true, .tyc "Row", .kit "Row" "Row" true, .kit "Row" "Ticket" false, .cval "Profile" "GAPS" 30, .cval "Desk" "MAX_TICKETS" 40, .tyc "Desk", .kit "Desk" "Ticket" false, .kit "Desk" "Desk" true, .own "Desk" "__len__", .noslot "Ticket" "add", .notf "Row" "Row", .notf "Ticket" "Ticket"]
def fn : List CT.DefA := [⟨fun K => (He.ga K "_law_mixed"), "_law_mixed", "_law_mixed", defArgs s__law_mixed, defBody s__law_mixed, defScope s__law_mixed, [], []⟩,
  ⟨fun K => (He.ga K "_law_folded"), "_law_folded", "_law_folded", defArgs s__law_folded, defBody s__law_folded, defScope s__law_folded, [], []⟩,
  ⟨fun K => (He.ga K "_law_draw"), "_law_draw", "_law_draw", defArgs s__law_draw, defBody s__law_draw, defScope s__law_draw, [], []⟩,
  ⟨fun K => (He.ga K "_law_begun"), "_law_begun", "_law_begun", defArgs s__law_begun, defBody s__law_begun, defScope s__law_begun, [], []⟩,
  ⟨fun K => (He.ga K "_law_mixed_up"), "_law_mixed_up", "_law_mixed_up", defArgs s__law_mixed_up, defBody s__law_mixed_up, defScope s__law_mixed_up, [], []⟩,
  ⟨fun K => (He.ga K "_law_pair"), "_law_pair", "_law_pair", defArgs s__law_pair, defBody s__law_pair, defScope s__law_pair, [], []⟩,
  ⟨fun K => (He.ga K "_law_path"), "_law_path", "_law_path", defArgs s__law_path, defBody s__law_path, defScope s__law_path, [], []⟩,
  ⟨fun K => (He.ga K "_law_lone"), "_law_lone", "_law_lone", defArgs s__law_lone, defBody s__law_lone, defScope s__law_lone, [], []⟩,
  ⟨fun K => (He.ga K "_law_pairs"), "_law_pairs", "_law_pairs", defArgs s__law_pairs, defBody s__law_pairs, defScope s__law_pairs, [], []⟩,
  ⟨fun K => (He.ga K "_law_desk"), "_law_desk", "_law_desk", defArgs s__law_desk, defBody s__law_desk, defScope s__law_desk, [], []⟩,
  ⟨fun K => (He.ga K "_law_written"), "_law_written", "_law_written", defArgs s__law_written, defBody s__law_written, defScope s__law_written, [], []⟩,
  ⟨fun K => (He.ga K "_law_same"), "_law_same", "_law_same", defArgs s__law_same, defBody s__law_same, defScope s__law_same, [], []⟩,
  ⟨fun K => (He.ga K "_law_is_path"), "_law_is_path", "_law_is_path", defArgs s__law_is_path, defBody s__law_is_path, defScope s__law_is_path, [], []⟩,
  ⟨fun K => (He.ga K "_law_row_right"), "_law_row_right", "_law_row_right", defArgs s__law_row_right, defBody s__law_row_right, defScope s__law_row_right, [], []⟩,
  ⟨fun K => (He.ga K "_law_right"), "_law_right", "_law_right", defArgs s__law_right, defBody s__law_right, defScope s__law_right, [], []⟩,
  ⟨fun K => (He.ga K "law"), "law", "law", defArgs s_law, defBody s_law, defScope s_law, [], []⟩,
  ⟨fun K => (He.ma K (He.ga K "Desk") "__init__"), "__init__", "Desk.__init__", defArgs s_Desk___init__, defBody s_Desk___init__, defScope s_Desk___init__, [], []⟩,
  ⟨fun K => (He.ma K (He.ga K "Ticket") "__init__"), "__init__", "Ticket.__init__", defArgs s_Ticket___init__, defBody s_Ticket___init__, defScope s_Ticket___init__, [], []⟩,
  ⟨fun K => (He.ma K (He.ga K "Desk") "__add__"), "__add__", "Desk.__add__", defArgs s_Desk___add__, defBody s_Desk___add__, defScope s_Desk___add__, [], []⟩,
  ⟨fun K => (CT.pg K "Row" "tickets"), "tickets", "Row.tickets", defArgs s_Row_tickets, defBody s_Row_tickets, defScope s_Row_tickets, [], []⟩,
  ⟨fun K => (CT.pg K "Ticket" "x"), "x", "Ticket.x", defArgs s_Ticket_x, defBody s_Ticket_x, defScope s_Ticket_x, [], []⟩,
  ⟨fun K => (CT.pg K "Ticket" "y"), "y", "Ticket.y", defArgs s_Ticket_y, defBody s_Ticket_y, defScope s_Ticket_y, [], []⟩,
  ⟨fun K => (He.ga K "row_by_rank"), "row_by_rank", "row_by_rank", defArgs s_row_by_rank, defBody s_row_by_rank, defScope s_row_by_rank, [], []⟩,
  ⟨fun K => (CT.sg K "Plan" "is_plan"), "is_plan", "Plan.is_plan", defArgs s_Plan_is_plan, defBody s_Plan_is_plan, defScope s_Plan_is_plan, [], []⟩,
  ⟨fun K => (He.ma K (He.ga K "Row") "cut"), "cut", "Row.cut", defArgs s_Row_cut, defBody s_Row_cut, defScope s_Row_cut, [], []⟩,
  ⟨fun K => (He.ga K "rank_of_row"), "rank_of_row", "rank_of_row", defArgs s_rank_of_row, defBody s_rank_of_row, defScope s_rank_of_row, [], []⟩,
  ⟨fun K => (He.ma K (He.ga K "Row") "__add__"), "__add__", "Row.__add__", defArgs s_Row___add__, defBody s_Row___add__, defScope s_Row___add__, [], []⟩,
  ⟨fun K => (He.ma K (He.ga K "Row") "__eq__"), "__eq__", "Row.__eq__", defArgs s_Row___eq__, defBody s_Row___eq__, defScope s_Row___eq__, [], []⟩,
  ⟨fun K => (He.ga K "count_rows"), "count_rows", "count_rows", defArgs s_count_rows, defBody s_count_rows, defScope s_count_rows, [], []⟩,
  ⟨fun K => (He.ma K (He.ga K "Row") "__lt__"), "__lt__", "Row.__lt__", defArgs s_Row___lt__, defBody s_Row___lt__, defScope s_Row___lt__, [], []⟩,
  ⟨fun K => (He.ma K (He.ga K "Row") "__getitem__"), "__getitem__", "Row.__getitem__", defArgs s_Row___getitem__, defBody s_Row___getitem__, defScope s_Row___getitem__, [], []⟩,
  ⟨fun K => (He.ma K (He.ga K "Ticket") "__eq__"), "__eq__", "Ticket.__eq__", defArgs s_Ticket___eq__, defBody s_Ticket___eq__, defScope s_Ticket___eq__, [], []⟩,
  ⟨fun K => (He.ma K (He.ga K "Row") "__init__"), "__init__", "Row.__init__", defArgs s_Row___init__, defBody s_Row___init__, defScope s_Row___init__, [], []⟩,
  ⟨fun K => (He.ma K (He.ga K "Row") "__len__"), "__len__", "Row.__len__", defArgs s_Row___len__, defBody s_Row___len__, defScope s_Row___len__, [], []⟩,
  ⟨fun K => (He.ga K "is_integer"), "is_integer", "is_integer", defArgs s_is_integer, defBody s_is_integer, defScope s_is_integer, [], []⟩,
  ⟨fun K => (He.ga K "is_between"), "is_between", "is_between", defArgs s_is_between, defBody s_is_between, defScope s_is_between, [], []⟩,
  ⟨fun K => (He.ga K "first_break"), "first_break", "first_break", defArgs s_first_break, defBody s_first_break, defScope s_first_break, [], []⟩,
  ⟨fun K => (He.ga K "excess_numbers"), "excess_numbers", "excess_numbers", defArgs s_excess_numbers, defBody s_excess_numbers, defScope s_excess_numbers, [], []⟩,
  ⟨fun K => (He.ma K (He.ga K "Profile") "__init__"), "__init__", "Profile.__init__", defArgs s_Profile___init__, defBody s_Profile___init__, defScope s_Profile___init__, [], []⟩,
  ⟨fun K => (He.ga K "desk_break"), "desk_break", "desk_break", defArgs s_desk_break, defBody s_desk_break, defScope s_desk_break, [], []⟩,
  ⟨fun K => (He.ma K (He.ga K "Desk") "__len__"), "__len__", "Desk.__len__", defArgs s_Desk___len__, defBody s_Desk___len__, defScope s_Desk___len__, [], []⟩,
  ⟨fun K => (He.ga K "plan_problem"), "plan_problem", "plan_problem", defArgs s_plan_problem, defBody s_plan_problem, defScope s_plan_problem, [], []⟩,
  ⟨fun K => (He.ga K "check_listed"), "check_listed", "check_listed", defArgs s_check_listed, defBody s_check_listed, defScope s_check_listed, [], []⟩,
  ⟨fun K => (He.ga K "orders_from"), "orders_from", "orders_from", defArgs s_orders_from, defBody s_orders_from, defScope s_orders_from, [], []⟩,
  ⟨fun K => (He.ga K "listed"), "listed", "listed", defArgs s_listed, defBody s_listed, defScope s_listed, [], []⟩,
  ⟨fun K => (He.ga K "row_of"), "row_of", "row_of", defArgs s_row_of, defBody s_row_of, defScope s_row_of, [], []⟩]
def more (K : PySem.W.Frag) : Bool := fx.all fun f => f.ok K
theorem mkTxt {K : PySem.W.Frag} {h : Heap} {mg : Str → Option Value} (XK : K.In h) (G : h.Ns mainGlobals mg) (c : CT.SaysM fa more fn K) : Txt K mg := by
  have fxAt : ∀ (i : Nat) {f : CT.Fx}, fx[i]? = some f → f.ok K = true := fun i f e => List.all_eq_true.mp c.ms f (List.mem_of_getElem? e)
  exact {
    f_range := He.free_ok XK G (c.fact 0 (f := .free "range") rfl)
    f_enumerate := He.free_ok XK G (c.fact 1 (f := .free "enumerate") rfl)
    f_len := He.free_ok XK G (c.fact 2 (f := .free "len") rfl)
    g__law_mixed := He.glo_ok XK G (c.fact 3 (f := .glo "_law_mixed") rfl)
    k__law_mixed := c.fact 4 (f := .keep "_law_mixed") rfl
    g__law_folded := He.glo_ok XK G (c.fact 5 (f := .glo "_law_folded") rfl)
    k__law_folded := c.fact 6 (f := .keep "_law_folded") rfl
    f_list := He.free_ok XK G (c.fact 7 (f := .free "list") rfl)
    g__law_draw := He.glo_ok XK G (c.fact 8 (f := .glo "_law_draw") rfl)
    k__law_draw := c.fact 9 (f := .keep "_law_draw") rfl
    g__law_pair := He.glo_ok XK G (c.fact 10 (f := .glo "_law_pair") rfl)
    k__law_pair := c.fact 11 (f := .keep "_law_pair") rfl
    g__law_path := He.glo_ok XK G (c.fact 12 (f := .glo "_law_path") rfl)
    k__law_path := c.fact 13 (f := .keep "_law_path") rfl
    g__law_lone := He.glo_ok XK G (c.fact 14 (f := .glo "_law_lone") rfl)
    k__law_lone := c.fact 15 (f := .keep "_law_lone") rfl
    g__law_mixed_up := He.glo_ok XK G (c.fact 16 (f := .glo "_law_mixed_up") rfl)
    k__law_mixed_up := c.fact 17 (f := .keep "_law_mixed_up") rfl
    g_Desk := He.glo_ok XK G (c.fact 18 (f := .glo "Desk") rfl)
    mk_Desk := He.mkr_ok (c.fact 19 (f := .mkr "Desk") rfl)
    g_Ticket := He.glo_ok XK G (c.fact 20 (f := .glo "Ticket") rfl)
    mk_Ticket := He.mkr_ok (c.fact 21 (f := .mkr "Ticket") rfl)
    o_Desk_add := own_fx (fxAt 0 (f := .own "Desk" "__add__") rfl)
    s_Desk := fxAt 1 (f := .sfirst "Desk") rfl
    c_Row := He.cls_ok (c.fact 22 (f := .cls "Row") rfl)
    p_Row_tickets := prop_fx (fxAt 2 (f := .prop "Row" "tickets") rfl)
    c_Ticket := He.cls_ok (c.fact 23 (f := .cls "Ticket") rfl)
    p_Ticket_x := prop_fx (fxAt 3 (f := .prop "Ticket" "x") rfl)
    p_Ticket_y := prop_fx (fxAt 4 (f := .prop "Ticket" "y") rfl)
    g_row_by_rank := He.glo_ok XK G (c.fact 24 (f := .glo "row_by_rank") rfl)
    k_row_by_rank := c.fact 25 (f := .keep "row_by_rank") rfl
    g__law_written := He.glo_ok XK G (c.fact 26 (f := .glo "_law_written") rfl)
    k__law_written := c.fact 27 (f := .keep "_law_written") rfl
    g__law_is_path := He.glo_ok XK G (c.fact 28 (f := .glo "_law_is_path") rfl)
    k__law_is_path := c.fact 29 (f := .keep "_law_is_path") rfl
    g__law_same := He.glo_ok XK G (c.fact 30 (f := .glo "_law_same") rfl)
    k__law_same := c.fact 31 (f := .keep "_law_same") rfl
    sm_Plan_is_plan := smet_fx (fxAt 5 (f := .smet "Plan" "is_plan") rfl)
    g_Plan := He.glo_ok XK G (c.fact 32 (f := .glo "Plan") rfl)
    m_Row_cut := He.meth_ok (c.fact 33 (f := .meth "Row" "cut") rfl)
    g__law_desk := He.glo_ok XK G (c.fact 34 (f := .glo "_law_desk") rfl)
    k__law_desk := c.fact 35 (f := .keep "_law_desk") rfl
    g_rank_of_row := He.glo_ok XK G (c.fact 36 (f := .glo "rank_of_row") rfl)
    k_rank_of_row := c.fact 37 (f := .keep "rank_of_row") rfl
    o_Row_add := own_fx (fxAt 6 (f := .own "Row" "__add__") rfl)
    s_Row := fxAt 7 (f := .sfirst "Row") rfl
    o_Row_eq := own_fx (fxAt 8 (f := .own "Row" "__eq__") rfl)
    g_count_rows := He.glo_ok XK G (c.fact 38 (f := .glo "count_rows") rfl)
    k_count_rows := c.fact 39 (f := .keep "count_rows") rfl
    g__law_row_right := He.glo_ok XK G (c.fact 40 (f := .glo "_law_row_right") rfl)
    k__law_row_right := c.fact 41 (f := .keep "_law_row_right") rfl
    o_Row_lt := own_fx (fxAt 9 (f := .own "Row" "__lt__") rfl)
    g__law_begun := He.glo_ok XK G (c.fact 42 (f := .glo "_law_begun") rfl)
    k__law_begun := c.fact 43 (f := .keep "_law_begun") rfl
    f_min := He.free_ok XK G (c.fact 44 (f := .free "min") rfl)
    g__law_right := He.glo_ok XK G (c.fact 45 (f := .glo "_law_right") rfl)
    k__law_right := c.fact 46 (f := .keep "_law_right") rfl
    g__law_pairs := He.glo_ok XK G (c.fact 47 (f := .glo "_law_pairs") rfl)
    k__law_pairs := c.fact 48 (f := .keep "_law_pairs") rfl
    o_Row_getitem := own_fx (fxAt 10 (f := .own "Row" "__getitem__") rfl)
    o_Ticket_eq := own_fx (fxAt 11 (f := .own "Ticket" "__eq__") rfl)
    ne_Ticket := neo_fx (fxAt 12 (f := .neo "Ticket") rfl) (own_fx (fxAt 11 (f := .own "Ticket" "__eq__") rfl))
    g_Row := He.glo_ok XK G (c.fact 49 (f := .glo "Row") rfl)
    mk_Row := He.mkr_ok (c.fact 50 (f := .mkr "Row") rfl)
    o_Row_len := own_fx (fxAt 13 (f := .own "Row" "__len__") rfl)
    f_isinstance := He.free_ok XK G (c.fact 51 (f := .free "isinstance") rfl)
    f_int := He.free_ok XK G (c.fact 52 (f := .free "int") rfl)
    f_bool := He.free_ok XK G (c.fact 53 (f := .free "bool") rfl)
    g_is_integer := He.glo_ok XK G (c.fact 54 (f := .glo "is_integer") rfl)
    k_is_integer := c.fact 55 (f := .keep "is_integer") rfl
    g_is_between := He.glo_ok XK G (c.fact 56 (f := .glo "is_between") rfl)
    k_is_between := c.fact 57 (f := .keep "is_between") rfl
    v_Ticket_MAX_HEIGHT := cval_fx (fxAt 14 (f := .cval "Ticket" "MAX_HEIGHT" 30) rfl)
    n_Ticket_foot := He.noat_ok (c.fact 58 (f := .noat "Ticket" "foot") rfl)
    n_Ticket_head := He.noat_ok (c.fact 59 (f := .noat "Ticket" "head") rfl)
    t_Ticket := tyc_fx (fxAt 15 (f := .tyc "Ticket") rfl)
    kit_Ticket_Ticket := of_decide_eq_true (fxAt 16 (f := .kit "Ticket" "Ticket" true) rfl)
    g_first_break := He.glo_ok XK G (c.fact 60 (f := .glo "first_break") rfl)
    k_first_break := c.fact 61 (f := .keep "first_break") rfl
    n_Row_cards := He.noat_ok (c.fact 62 (f := .noat "Row" "cards") rfl)
    n_Row_pairs := He.noat_ok (c.fact 63 (f := .noat "Row" "pairs") rfl)
    f_tuple := He.free_ok XK G (c.fact 64 (f := .free "tuple") rfl)
    n_Row_steps := He.noat_ok (c.fact 65 (f := .noat "Row" "steps") rfl)
    f_sum := He.free_ok XK G (c.fact 66 (f := .free "sum") rfl)
    f_zip := He.free_ok XK G (c.fact 67 (f := .free "zip") rfl)
    t_Row := tyc_fx (fxAt 17 (f := .tyc "Row") rfl)
    kit_Row_Row := of_decide_eq_true (fxAt 18 (f := .kit "Row" "Row" true) rfl)
    kit_Row_Ticket := of_decide_eq_true (fxAt 19 (f := .kit "Row" "Ticket" false) rfl)
    g_Profile := He.glo_ok XK G (c.fact 68 (f := .glo "Profile") rfl)
    v_Profile_GAPS := cval_fx (fxAt 20 (f := .cval "Profile" "GAPS" 30) rfl)
    c_Profile := He.cls_ok (c.fact 69 (f := .cls "Profile") rfl)
    n_Profile_levels := He.noat_ok (c.fact 70 (f := .noat "Profile" "levels") rfl)
    v_Desk_MAX_TICKETS := cval_fx (fxAt 21 (f := .cval "Desk" "MAX_TICKETS" 40) rfl)
    g_desk_break := He.glo_ok XK G (c.fact 71 (f := .glo "desk_break") rfl)
    k_desk_break := c.fact 72 (f := .keep "desk_break") rfl
    c_Desk := He.cls_ok (c.fact 73 (f := .cls "Desk") rfl)
    n_Desk_cards := He.noat_ok (c.fact 74 (f := .noat "Desk" "cards") rfl)
    n_Desk_pairs := He.noat_ok (c.fact 75 (f := .noat "Desk" "pairs") rfl)
    g_excess_numbers := He.glo_ok XK G (c.fact 76 (f := .glo "excess_numbers") rfl)
    k_excess_numbers := c.fact 77 (f := .keep "excess_numbers") rfl
    n_Desk_profile := He.noat_ok (c.fact 78 (f := .noat "Desk" "profile") rfl)
    mk_Profile := He.mkr_ok (c.fact 79 (f := .mkr "Profile") rfl)
    t_Desk := tyc_fx (fxAt 22 (f := .tyc "Desk") rfl)
    kit_Desk_Ticket := of_decide_eq_true (fxAt 23 (f := .kit "Desk" "Ticket" false) rfl)
    kit_Desk_Desk := of_decide_eq_true (fxAt 24 (f := .kit "Desk" "Desk" true) rfl)
    g_plan_problem := He.glo_ok XK G (c.fact 80 (f := .glo "plan_problem") rfl)
    k_plan_problem := c.fact 81 (f := .keep "plan_problem") rfl
    o_Desk_len := own_fx (fxAt 25 (f := .own "Desk" "__len__") rfl)
    i_MAX_LISTED := He.int_ok XK G (c.fact 82 (f := .int "MAX_LISTED" 7) rfl)
    g_orders_from := He.glo_ok XK G (c.fact 83 (f := .glo "orders_from") rfl)
    k_orders_from := c.fact 84 (f := .keep "orders_from") rfl
    g_check_listed := He.glo_ok XK G (c.fact 85 (f := .glo "check_listed") rfl)
    k_check_listed := c.fact 86 (f := .keep "check_listed") rfl
    f_sorted := He.free_ok XK G (c.fact 87 (f := .free "sorted") rfl)
    i_CODE := He.int_ok XK G (c.fact 88 (f := .int "CODE" 100) rfl)
    g_listed := He.glo_ok XK G (c.fact 89 (f := .glo "listed") rfl)
    k_listed := c.fact 90 (f := .keep "listed") rfl
    g_row_of := He.glo_ok XK G (c.fact 91 (f := .glo "row_of") rfl)
    k_row_of := c.fact 92 (f := .keep "row_of") rfl
    ns_Ticket_add := noslot_fx (fxAt 26 (f := .noslot "Ticket" "add") rfl)
    nf_Row_Row := fxAt 27 (f := .notf "Row" "Row") rfl
    g_law := He.glo_ok XK G (c.fact 93 (f := .glo "law") rfl)
    nf_Ticket_Ticket := fxAt 28 (f := .notf "Ticket" "Ticket") rfl
    d__law_mixed := c.def_ 0 rfl
    d__law_folded := c.def_ 1 rfl
    d__law_draw := c.def_ 2 rfl
    d__law_begun := c.def_ 3 rfl
    d__law_mixed_up := c.def_ 4 rfl
    d__law_pair := c.def_ 5 rfl
    d__law_path := c.def_ 6 rfl
    d__law_lone := c.def_ 7 rfl
    d__law_pairs := c.def_ 8 rfl
    d__law_desk := c.def_ 9 rfl
    d__law_written := c.def_ 10 rfl
    d__law_same := c.def_ 11 rfl
    d__law_is_path := c.def_ 12 rfl
    d__law_row_right := c.def_ 13 rfl
    d__law_right := c.def_ 14 rfl
    d_law := c.def_ 15 rfl
    d_Desk___init__ := c.def_ 16 rfl
    d_Ticket___init__ := c.def_ 17 rfl
    d_Desk___add__ := c.def_ 18 rfl
    d_Row_tickets := c.def_ 19 rfl
    d_Ticket_x := c.def_ 20 rfl
    d_Ticket_y := c.def_ 21 rfl
    d_row_by_rank := c.def_ 22 rfl
    d_Plan_is_plan := c.def_ 23 rfl
    d_Row_cut := c.def_ 24 rfl
    d_rank_of_row := c.def_ 25 rfl
    d_Row___add__ := c.def_ 26 rfl
    d_Row___eq__ := c.def_ 27 rfl
    d_count_rows := c.def_ 28 rfl
    d_Row___lt__ := c.def_ 29 rfl
    d_Row___getitem__ := c.def_ 30 rfl
    d_Ticket___eq__ := c.def_ 31 rfl
    d_Row___init__ := c.def_ 32 rfl
    d_Row___len__ := c.def_ 33 rfl
    d_is_integer := c.def_ 34 rfl
    d_is_between := c.def_ 35 rfl
    d_first_break := c.def_ 36 rfl
    d_excess_numbers := c.def_ 37 rfl
    d_Profile___init__ := c.def_ 38 rfl
    d_desk_break := c.def_ 39 rfl
    d_Desk___len__ := c.def_ 40 rfl
    d_plan_problem := c.def_ 41 rfl
    d_check_listed := c.def_ 42 rfl
    d_orders_from := c.def_ 43 rfl
    d_listed := c.def_ 44 rfl
    d_row_of := c.def_ 45 rfl
  }
end K41

set_option maxHeartbeats 4000000
namespace K41
open PySem PySem.Spec PyProof.Rows L2 CT
local macro_rules | `(tactic| walk_at "room") => `(tactic| first | assumption | exact Room.mono (by assumption) (by decide))
local macro_rules | `(tactic| walk_at "room64") => `(tactic| exact Room.units (by assumption))
local macro_rules | `(tactic| walk_at "room65") => `(tactic| exact room65 (by assumption))
local macro_rules | `(tactic| walk_at "hu") => `(tactic| exact hu_of (by assumption))
local macro_rules | `(tactic| walk_at "loc") => `(tactic| first | exact Or.inl rfl | exact Or.inr rfl)
local macro_rules | `(tactic| walk_at "hp") => `(tactic| first
  | assumption
  | exact upd_same
  | (refine upd_get (by assumption) ?_; walk_at "hp")
  | (refine Same.get (by assumption) ?_; walk_at "hp")
  | (refine SameS.get (by assumption) (by first | trivial | exact ⟨rfl, rfl⟩) ?_; walk_at "hp"))
local macro_rules | `(tactic| walk_at "same") => `(tactic| first
  | assumption
  | exact Same.refl _
  | (refine Same.trans ?_ (Same.new (by assumption)); walk_at "same")
  | (refine Same.trans ?_ (by assumption); walk_at "same"))
section
variable {P : Program} {w : World} {K : PySem.W.Frag} {mg : Str → Option Value} {base : Heap}
/-! ### ints, tickets -/
abbrev N_is_integer : List Str := ["value"]
theorem sc_is_integer : FnScope N_is_integer ["value"] (defScope s_is_integer) := ⟨rfl, rfl, rfl, by decide +kernel, rfl, by decide +kernel, by decide +kernel⟩
def sp_is_integer (K : PySem.W.Frag) : Sp := fun vs H Q _ => ∃ x, vs = [x] ∧ Knd K H x ∧ Q (.bl (isI x)) H
theorem ok_is_integer (T : Txt K mg) : FnR P w K mg base CX0 1 (He.ga K "is_integer") (sp_is_integer K) := by
  obtain ⟨fd, F⟩ := T.d_is_integer
  refine plainR F sc_is_integer (fun _ _ _ _ _ _ us hl => match us, hl with | [_], _ => rfl) (fun vs H Q E h => ?_) (fun cdv A outer s H vs Q E hr h => ?_)
  · obtain ⟨i, rfl, _⟩ := h
    rfl
  · obtain ⟨x, rfl, ⟨t, b1, b2, ty, k1, k2, e, _⟩, k⟩ := h
    refine ⟨_, (pss_one (ps_ret (pe_and (pe_callB (call_isiK' K) (by rfl) T.f_isinstance boot_isinstance (pa_cons (pv 0) (pa_cons (pe_bltn (v := .ty "int") (by rfl) T.f_int boot_int rfl) pa_nil))) (pe_one (pe_not (pe_callB (call_isiK' K) (by rfl) T.f_isinstance boot_isinstance (pa_cons (pv 0) (pa_cons (pe_bltn (v := .ty "bool") (by rfl) T.f_bool boot_bool rfl) pa_nil)))))))), ?_⟩
    refine ⟨_, rfl, _, _, t, _, b1, rfl, .ty _, ty, k1, b1, rfl, iteB (fun e1 => ?_) (fun e1 => ?_)⟩
    · refine ⟨_, rfl, _, _, t, _, b2, rfl, .ty _, ty, k2, b2, rfl, ?_⟩
      rw [e1] at e
      show Q (.bl (!b2)) H
      rw [show (!b2) = isI x from e]
      exact k
    · rw [e1] at e
      show Q (.bl false) H
      rw [show false = isI x from e]
      exact k
abbrev N_is_between : List Str := ["value", "low", "high"]
theorem sc_is_between : FnScope N_is_between ["value", "low", "high"] (defScope s_is_between) := ⟨rfl, rfl, rfl, by decide +kernel, rfl, by decide +kernel, by decide +kernel⟩
def btw (x : V) (lo hi : Int) : Bool := match x with
  | .int i => decide (lo ≤ i ∧ i ≤ hi)
  | _ => false
def sp_is_between (K : PySem.W.Frag) : Sp := fun vs H Q _ => ∃ x lo hi, vs = [x, .int lo, .int hi] ∧ Knd K H x ∧ Q (.bl (btw x lo hi)) H
theorem ok_is_between (T : Txt K mg) : FnR P w K mg base CX0 2 (He.ga K "is_between") (sp_is_between K) := by
  obtain ⟨fd, F⟩ := T.d_is_between
  refine plainR F sc_is_between (fun _ _ _ _ _ _ us hl => match us, hl with | [_, _, _], _ => rfl) (fun vs H Q E h => ?_) (fun cdv A outer s H vs Q E hr h => ?_)
  · obtain ⟨x, lo, hi, rfl, _⟩ := h
    rfl
  · obtain ⟨x, lo, hi, rfl, kn, k⟩ := h
    refine ⟨_, (pss_one (ps_ret (pe_and (pe_callR (ok_is_integer T) (by walk_at "room") (by rfl) T.g_is_integer T.k_is_integer pass0 (pa_cons (pv 0) pa_nil)) (pe_one (pe_chain op_le op_le (pv 1) (pv 0) (pv 2)))))), ?_⟩
    refine ⟨_, rfl, _, rfl, kn, _, rfl, iteB (fun e => ?_) (fun e => ?_)⟩
    · cases x with
      | int i =>
        refine ⟨_, rfl, _, rfl, _, _, rfl, rfl, _, rfl, iteB (fun e1 => ?_) (fun e1 => ?_)⟩
        · refine ⟨_, rfl, _, _, rfl, rfl, ?_⟩
          have z : btw (.int i) lo hi = decide (i ≤ hi) := by
            have h1 : lo ≤ i := of_decide_eq_true e1
            simp [btw, h1]
          show Q (.bl (decide (i ≤ hi))) H
          rw [← z]
          exact k
        · have z : btw (.int i) lo hi = false := by
            have h1 : ¬ lo ≤ i := of_decide_eq_false e1
            simp [btw, h1]
          show Q (.bl false) H
          rw [← z]
          exact k
      | _ => cases e
    · have z : btw x lo hi = false := by
        cases x with
        | int i => cases e
        | _ => rfl
      show Q (.bl false) H
      rw [← z]
      exact k
abbrev N_Ticket___init__ : List Str := ["self", "x", "y"]
theorem sc_Ticket___init__ : FnScope N_Ticket___init__ ["self", "x", "y"] (defScope s_Ticket___init__) := ⟨rfl, rfl, rfl, by decide +kernel, rfl, by decide +kernel, by decide +kernel⟩
def hgt (i : Int) : Prop := 0 ≤ i ∧ i ≤ 30
def sp_Ticket_init (K : PySem.W.Frag) : Sp := fun vs H Q _ => ∃ a dx x y, vs = [.ref a, .int x, .int y] ∧ H a = some (.ins (He.ga K "Ticket") dx []) ∧ hgt x ∧ hgt y ∧ ∀ H', SameX a H H' → H' a = some (.ins (He.ga K "Ticket") dx (fTk x y)) → Q .non H'
theorem btw_yes {i lo hi : Int} (h : lo ≤ i ∧ i ≤ hi) : btw (.int i) lo hi = true := decide_eq_true h
theorem ok_Ticket___init__ (T : Txt K mg) : FnR P w K mg base CX0 3 (He.ma K (He.ga K "Ticket") "__init__") (sp_Ticket_init K) := by
  obtain ⟨fd, F⟩ := T.d_Ticket___init__
  refine plainR F sc_Ticket___init__ (fun _ _ _ _ _ _ us hl => match us, hl with | [_, _, _], _ => rfl) (fun vs H Q E h => ?_) (fun cdv A outer s H vs Q E hr h => ?_)
  · obtain ⟨a, dx, x, y, rfl, _⟩ := h
    rfl
  · obtain ⟨a, dx, x, y, rfl, ha, hx, hy, k⟩ := h
    obtain ⟨r1, tk, c1⟩ := T.v_Ticket_MAX_HEIGHT
    refine ⟨_, (pss_cons (ps_if (pt_not (pt_val (pe_callR (ok_is_between T) (by walk_at "room") (by rfl) T.g_is_between T.k_is_between pass0 (pa_cons (pv 1) (pa_cons pe_int (pa_cons (pe_cvalK K (pe_globR (by rfl) T.g_Ticket)) pa_nil)))))) (pss_never) pss_nil)
      (pss_cons (ps_if (pt_not (pt_val (pe_callR (ok_is_between T) (by walk_at "room") (by rfl) T.g_is_between T.k_is_between pass0 (pa_cons (pv 2) (pa_cons pe_int (pa_cons (pe_cvalK K (pe_globR (by rfl) T.g_Ticket)) pa_nil)))))) (pss_never) pss_nil)
      (pss_one (ps_asg (pe_tup (pa_cons (pv 1) (pa_cons (pv 2) pa_nil))) (pg_tupK K 2 rfl (pgs_cons (pg_fld (pv 0)) (pgs_cons (pg_fld (pv 0)) pgs_nil))))))), ?_⟩
    refine ⟨_, rfl, _, _, _, _, rfl, r1, c1, _, _, _, rfl, Knd.int _, _, rfl, ?_⟩
    rw [btw_yes hx]
    refine iteF ?_
    refine ⟨_, rfl, _, _, _, _, rfl, r1, c1, _, _, _, rfl, Knd.int _, _, rfl, ?_⟩
    rw [btw_yes hy]
    refine iteF ?_
    refine ⟨_, rfl, _, rfl, by show 2 ≤ sizeLine; decide, fun p np => ?_⟩
    have h1 : upd H p (.tup [.int x, .int y]) a = some (.ins (He.ga K "Ticket") dx []) := upd_get np ha
    refine ⟨_, _, rfl, SqT.of upd_same, rfl, _, _, rfl, ⟨_, rfl, _, _, dx, _, rfl, h1, T.c_Ticket, T.n_Ticket_foot, (by show 0 < 1000; decide), _, _, rfl, ⟨_, rfl, _, _, dx, _, rfl, upd_same, T.c_Ticket, T.n_Ticket_head, (by show 1 < 1000; decide), rfl, ?_⟩⟩⟩
    exact k _ (((Same.x (Same.new np)).step (SameX.upd a _ _)).step (SameX.upd a _ _)) upd_same
/-- Ticket(x, y) -/
theorem use_Ticket {H : Hp} {x y : Int} {a dx : Addr} {Qd : Hp → Prop} {E : XK} (h1 : H a = none) (h2 : H dx = none) (h3 : dx ≠ a) (hx : hgt x) (hy : hgt y) (q : ∀ H', Same H H' → IsTk K H' (.ref a) (x, y) → Qd H') :
    sp_Ticket_init K [.ref a, .int x, .int y] (upd (upd H dx (.own a)) a (.ins (He.ga K "Ticket") dx [])) (fun v H2 => v = .non ∧ Qd H2) E :=
  ⟨a, dx, x, y, rfl, upd_same, hx, hy, fun H' s e => ⟨rfl, q _ (made h1 h2 h3 s) ⟨a, dx, rfl, e⟩⟩⟩

end
end K41

set_option maxHeartbeats 4000000
namespace K41
open PySem PySem.Spec PyProof.Rows L2 CT
local macro_rules | `(tactic| walk_at "room") => `(tactic| first | assumption | exact Room.mono (by assumption) (by decide))
local macro_rules | `(tactic| walk_at "room64") => `(tactic| exact Room.units (by assumption))
local macro_rules | `(tactic| walk_at "room65") => `(tactic| exact room65 (by assumption))
local macro_rules | `(tactic| walk_at "hu") => `(tactic| exact hu_of (by assumption))
local macro_rules | `(tactic| walk_at "loc") => `(tactic| first | exact Or.inl rfl | exact Or.inr rfl)
local macro_rules | `(tactic| walk_at "hp") => `(tactic| first
  | assumption
  | exact upd_same
  | (refine upd_get (by assumption) ?_; walk_at "hp")
  | (refine Same.get (by assumption) ?_; walk_at "hp")
  | (refine SameS.get (by assumption) (by first | trivial | exact ⟨rfl, rfl⟩) ?_; walk_at "hp"))
local macro_rules | `(tactic| walk_at "same") => `(tactic| first
  | assumption
  | exact Same.refl _
  | (refine Same.trans ?_ (Same.new (by assumption)); walk_at "same")
  | (refine Same.trans ?_ (by assumption); walk_at "same"))
section
variable {P : Program} {w : World} {K : PySem.W.Frag} {mg : Str → Option Value} {base : Heap}
/-! ### tickets and rows -/
abbrev N_Ticket_x : List Str := ["self"]
theorem sc_Ticket_x : FnScope N_Ticket_x ["self"] (defScope s_Ticket_x) := ⟨rfl, rfl, rfl, by decide +kernel, rfl, by decide +kernel, by decide +kernel⟩
def sp_Ticket_x (K : PySem.W.Frag) : Sp := fun vs H Q _ => ∃ v p, vs = [v] ∧ IsTk K H v p ∧ Q (.int p.1) H
theorem ok_Ticket_x (T : Txt K mg) : FnR P w K mg base CX0 1 (CT.pg K "Ticket" "x") (sp_Ticket_x K) := by
  obtain ⟨fd, F⟩ := T.d_Ticket_x
  refine plainR F sc_Ticket_x (fun _ _ _ _ _ _ us hl => match us, hl with | [_], _ => rfl) (fun vs H Q E h => ?_) (fun cdv A outer s H vs Q E hr h => ?_)
  · obtain ⟨v, p, rfl, _⟩ := h
    rfl
  · obtain ⟨v, p, rfl, ⟨a, dx, rfl, ha⟩, k⟩ := h
    refine ⟨_, (pss_one (ps_ret (pe_fldK K (pv 0)))), ?_⟩
    exact ⟨_, rfl, _, _, dx, _, _, rfl, ha, T.c_Ticket, T.n_Ticket_foot, rfl, k⟩
abbrev N_Ticket_y : List Str := ["self"]
theorem sc_Ticket_y : FnScope N_Ticket_y ["self"] (defScope s_Ticket_y) := ⟨rfl, rfl, rfl, by decide +kernel, rfl, by decide +kernel, by decide +kernel⟩
def sp_Ticket_y (K : PySem.W.Frag) : Sp := fun vs H Q _ => ∃ v p, vs = [v] ∧ IsTk K H v p ∧ Q (.int p.2) H
theorem ok_Ticket_y (T : Txt K mg) : FnR P w K mg base CX0 1 (CT.pg K "Ticket" "y") (sp_Ticket_y K) := by
  obtain ⟨fd, F⟩ := T.d_Ticket_y
  refine plainR F sc_Ticket_y (fun _ _ _ _ _ _ us hl => match us, hl with | [_], _ => rfl) (fun vs H Q E h => ?_) (fun cdv A outer s H vs Q E hr h => ?_)
  · obtain ⟨v, p, rfl, _⟩ := h
    rfl
  · obtain ⟨v, p, rfl, ⟨a, dx, rfl, ha⟩, k⟩ := h
    refine ⟨_, (pss_one (ps_ret (pe_fldK K (pv 0)))), ?_⟩
    exact ⟨_, rfl, _, _, dx, _, _, rfl, ha, T.c_Ticket, T.n_Ticket_head, rfl, k⟩
abbrev N_Ticket___eq__ : List Str := ["self", "other"]
theorem sc_Ticket___eq__ : FnScope N_Ticket___eq__ ["self", "other"] (defScope s_Ticket___eq__) := ⟨rfl, rfl, rfl, by decide +kernel, rfl, by decide +kernel, by decide +kernel⟩
def sp_Ticket_eq (K : PySem.W.Frag) : Sp := fun vs H Q _ => ∃ v u p q, vs = [v, u] ∧ IsTk K H v p ∧ IsTk K H u q ∧ Q (.bl (decide (p = q))) H
theorem ok_Ticket___eq__ (T : Txt K mg) : FnR P w K mg base CX0 1 (He.ma K (He.ga K "Ticket") "__eq__") (sp_Ticket_eq K) := by
  obtain ⟨fd, F⟩ := T.d_Ticket___eq__
  refine plainR F sc_Ticket___eq__ (fun _ _ _ _ _ _ us hl => match us, hl with | [_, _], _ => rfl) (fun vs H Q E h => ?_) (fun cdv A outer s H vs Q E hr h => ?_)
  · obtain ⟨v, u, p, q, rfl, _⟩ := h
    rfl
  · obtain ⟨v, u, ⟨p1, p2⟩, ⟨q1, q2⟩, rfl, ⟨a, dx, rfl, ha⟩, ⟨b, dy, rfl, hb⟩, k⟩ := h
    refine ⟨_, (pss_one (ps_ret (pe_and (pe_callB (call_isiK' K) (by rfl) T.f_isinstance boot_isinstance (pa_cons (pv 1) (pa_cons (pe_globR (by rfl) T.g_Ticket) pa_nil))) (pe_and (pe_cmpR op_eq (pe_fldK K (pv 0)) (pe_fldK K (pv 1)) (nomark _)) (pe_one (pe_cmpR op_eq (pe_fldK K (pv 0)) (pe_fldK K (pv 1)) (nomark _))))))), ?_⟩
    refine ⟨_, rfl, _, _, _, _, true, rfl, .own _, T.t_Ticket.of T.c_Ticket hb, T.kit_Ticket_Ticket, true, rfl, iteT ?_⟩
    refine ⟨_, rfl, _, _, dx, _, _, rfl, ha, T.c_Ticket, T.n_Ticket_foot, rfl, _, rfl, _, _, dy, _, _, rfl, hb, T.c_Ticket, T.n_Ticket_foot, rfl, rfl, _, rfl, iteB (fun e => ?_) (fun e => ?_)⟩
    · refine ⟨_, rfl, _, _, dx, _, _, rfl, ha, T.c_Ticket, T.n_Ticket_head, rfl, _, rfl, _, _, dy, _, _, rfl, hb, T.c_Ticket, T.n_Ticket_head, rfl, rfl, ?_⟩
      have e1 : p1 = q1 := V.int.inj (of_decide_eq_true e)
      have z : decide (V.int p2 = V.int q2) = decide ((p1, p2) = (q1, q2)) := by simp [e1]
      show Q (.bl (decide (V.int p2 = V.int q2))) H
      rw [z]
      exact k
    · have e1 : ¬ V.int p1 = V.int q1 := of_decide_eq_false e
      have z : false = decide ((p1, p2) = (q1, q2)) := by
        refine (decide_eq_false fun y => e1 ?_).symm
        cases y
        rfl
      show Q (.bl false) H
      rw [z]
      exact k
abbrev N_first_break : List Str := ["cards", "spot", "card"]
theorem sc_first_break : FnScope N_first_break ["cards"] (defScope s_first_break) := ⟨rfl, rfl, rfl, by decide +kernel, rfl, by decide +kernel, by decide +kernel⟩
def sp_first_break (K : PySem.W.Frag) : Sp := fun vs H Q _ => ∃ t us ps, vs = [.ref t] ∧ H t = some (.tup us) ∧ IsTks K H us ps ∧ path ps ∧ ∀ H', Same H H' → Q .non H'
theorem ok_first_break (T : Txt K mg) : FnR P w K mg base CX0 1 (He.ga K "first_break") (sp_first_break K) := by
  obtain ⟨fd, F⟩ := T.d_first_break
  refine plainR F sc_first_break (fun _ _ _ _ _ _ us hl => match us, hl with | [_], _ => rfl) (fun vs H Q E h => ?_) (fun cdv A outer s H vs Q E hr h => ?_)
  · obtain ⟨t, us, ps, rfl, _⟩ := h
    rfl
  · obtain ⟨t, us, ps, rfl, ht, tk, pa, k⟩ := h
    refine ⟨_, (pss_cons (ps_for PassesOwn.never rfl (pi_enumT (by rfl) T.f_enumerate (pa_cons (pv 0) pa_nil)) (pg_tupK K 2 rfl (pgs_cons (pg_name (i := 1) sc_first_break.nd rfl (by walk_at "loc")) (pgs_cons (pg_name (i := 2) sc_first_break.nd rfl (by walk_at "loc")) pgs_nil)))
      (pss_one (ps_if (PW.pt (pw_or (pt_not (pt_val (pe_callB (call_isiK' K) (by rfl) T.f_isinstance boot_isinstance (pa_cons (pv 2) (pa_cons (pe_globR (by rfl) T.g_Ticket) pa_nil))))) (pw_or1 (PW.pt (pw_and (pt_cmpR op_gt (pv 1) pe_int (nomark _)) (pw_and1 (pt_cmpR op_lt (pe_fldK K (pv 2)) (pe_fldK K (pe_ix (ix_tupK K) (pv 0) (pe_op op_sub (pv 1) pe_int) (fun _ _ => rfl))) (nomark _)))))))) (pss_one (ps_ret (pv 1))) pss_nil)))
      (pss_one (ps_ret pe_non))), ?_⟩
    refine ⟨_, rfl, t, us, rfl, SqT.of ht, for_it walk_enumT (fun i σ H' => Same H H' ∧ ∃ a b, σ = [some (.ref t), a, b]) ⟨Same.refl H, _, _, rfl⟩ (fun i σ H' _ q => q.1.tup (SqT.of ht)) ?_ ?_⟩
    · rintro i x σ H1 H2 hi ⟨s1, a, b, rfl⟩ y
      refine gpair y fun T0 c d ec ed nT eH => ?_
      cases ec
      obtain ⟨p, ep, tp⟩ := tk.at_ ed
      have s2 : Same H H2 := by rw [eH]; exact s1.trans (Same.new nT)
      obtain ⟨a1, dx, rfl, ha⟩ := tp.s s2.s
      refine ⟨_, rfl, _, _, _, _, true, rfl, .own _, T.t_Ticket.of T.c_Ticket ha, T.kit_Ticket_Ticket, true, rfl, iteF ?_⟩
      refine ⟨_, rfl, _, _, rfl, rfl, _, rfl, iteB (fun e => ?_) (fun e => iteF ⟨s2, _, _, rfl⟩)⟩
      cases i with
      | zero => cases e
      | succ i =>
        have hlt : i < us.length := Nat.lt_of_succ_lt hi
        obtain ⟨q, eq, tq⟩ := tk.at_ (List.getElem?_eq_getElem hlt)
        obtain ⟨b1, dy, eb, hb⟩ := tq.s s2.s
        have e2 : ((i + 1 : Nat) : Int) - 1 = (i : Int) := by omega
        refine ⟨_, rfl, _, _, dx, _, _, rfl, ha, T.c_Ticket, T.n_Ticket_foot, rfl, _, rfl, _, rfl, _, _, rfl, rfl, t, us, _, _, rfl, rfl, s2.tup (SqT.of ht), at_of e2 (List.getElem?_eq_getElem hlt), b1, _, dy, _, _, eb, hb, T.c_Ticket, T.n_Ticket_head, rfl, _, _, rfl, rfl, _, rfl, ?_⟩
        have le : q.2 ≤ p.1 := pa i q p eq ep
        have e3 : decide (p.1 < q.2) = false := decide_eq_false (by omega)
        show if decide (p.1 < q.2) = true then _ else _
        rw [e3]
        exact iteF ⟨s2, _, _, rfl⟩
    · rintro σ H1 ⟨s1, _⟩
      exact k H1 s1

end
end K41

set_option maxHeartbeats 4000000
namespace K41
open PySem PySem.Spec PyProof.Rows L2 CT
local macro_rules | `(tactic| walk_at "room") => `(tactic| first | assumption | exact Room.mono (by assumption) (by decide))
local macro_rules | `(tactic| walk_at "room64") => `(tactic| exact Room.units (by assumption))
local macro_rules | `(tactic| walk_at "room65") => `(tactic| exact room65 (by assumption))
local macro_rules | `(tactic| walk_at "hu") => `(tactic| exact hu_of (by assumption))
local macro_rules | `(tactic| walk_at "loc") => `(tactic| first | exact Or.inl rfl | exact Or.inr rfl)
local macro_rules | `(tactic| walk_at "hp") => `(tactic| first
  | assumption
  | exact upd_same
  | (refine upd_get (by assumption) ?_; walk_at "hp")
  | (refine Same.get (by assumption) ?_; walk_at "hp")
  | (refine SameS.get (by assumption) (by first | trivial | exact ⟨rfl, rfl⟩) ?_; walk_at "hp"))
local macro_rules | `(tactic| walk_at "same") => `(tactic| first
  | assumption
  | exact Same.refl _
  | (refine Same.trans ?_ (Same.new (by assumption)); walk_at "same")
  | (refine Same.trans ?_ (by assumption); walk_at "same"))
section
variable {P : Program} {w : World} {K : PySem.W.Frag} {mg : Str → Option Value} {base : Heap}
/-! ### rows -/
/-- a comprehension (x.foot, x.head) over tickets -/
theorem isTk_x {a : Addr} {C dx : Addr} {H H' : Hp} {v : V} {p : PI2} (s : SameX a H H') (ha : H a = some (.ins C dx [])) (h : IsTk K H v p) : IsTk K H' v p := by
  obtain ⟨b, dy, rfl, hb⟩ := h
  exact ⟨b, dy, rfl, s _ _ hb (ne_of hb ha (by intro z; cases z))⟩
theorem isTks_x {a : Addr} {C dx : Addr} {H H' : Hp} {vs : List V} {ps : List PI2} (s : SameX a H H') (ha : H a = some (.ins C dx [])) (h : IsTks K H vs ps) : IsTks K H' vs ps := Paired.mapP h fun _ _ z => isTk_x s ha z
theorem SameX.s {a : Addr} {H H1 H2 : Hp} (s : SameX a H H1) (t : Same H1 H2) : SameX a H H2 := s.step t.x
theorem prs_upd {H : Hp} {a C dx : Addr} {fs : List (Str × V)} {o : HO} : ∀ {ps : List PI2} {ws : List V}, H a = some (.ins C dx fs) → DpAll K H ws (prs ps) → DpAll K (upd H a o) ws (prs ps)
  | [], _, _, h => by cases h; exact .nil
  | p :: ps, _, ha, h => by
    cases h with
    | cons h1 h2 =>
      refine .cons ?_ (prs_upd ha h2)
      cases h1 with
      | @tup b xs _ h3 h4 =>
        have h5 : SqT K (upd H a o) b xs := by
          rcases h3 with (h3 | ⟨u, h3⟩) | h3
          · exact .inl (.inl (by rw [upd_ne (ne_of h3 ha (by intro z; cases z))]; exact h3))
          · exact .inl (.inr ⟨u, by rw [upd_ne (ne_of h3 ha (by intro z; cases z))]; exact h3⟩)
          · exact .inr h3
        refine .tup h5 ?_
        cases h4 with
        | cons a1 b1 =>
          cases a1
          cases b1 with
          | cons c1 d1 =>
            cases c1
            cases d1
            exact .cons (.int _) (.cons (.int _) .nil)
/-- the climbs, turn by turn -/
theorem climb_sum : ∀ ps : List PI2, ((List.range (ps.length - 1)).map fun i => (ps.getD (i + 1) (0, 0)).1 - (ps.getD i (0, 0)).2).sum = climb ps
  | [] => rfl
  | [_] => rfl
  | p :: q :: r => by
    have ih := climb_sum (q :: r)
    show ((List.range (r.length + 1)).map _).sum = (q.1 - p.2) + climb (q :: r)
    rw [← ih, List.range_succ_eq_map, List.map_cons, List.sum_cons, List.map_map]
    rfl
abbrev N_Row___init__ : List Str := ["self", "tickets", "spot", "card", "one", "other"]
theorem sc_Row___init__ : FnScope N_Row___init__ ["self", "tickets"] (defScope s_Row___init__) := ⟨rfl, rfl, rfl, by decide +kernel, rfl, by decide +kernel, by decide +kernel⟩
def sp_Row_init (K : PySem.W.Frag) : Sp := fun vs H Q _ => ∃ a dx t us ps, vs = [.ref a, .ref t] ∧ H a = some (.ins (He.ga K "Row") dx []) ∧ H t = some (.tup us) ∧ IsTks K H us ps ∧ path ps ∧ us.length ≤ 1000 ∧
  ∀ H' u, SameX a H H' → RowAt K H' a ps t us u → Q .non H'
theorem ok_Row___init__ (T : Txt K mg) : FnR P w K mg base CX0 3 (He.ma K (He.ga K "Row") "__init__") (spStar 1 (sp_Row_init K)) := by
  obtain ⟨fd, F⟩ := T.d_Row___init__
  refine starR (ps := ["self"]) (pv := "tickets") F sc_Row___init__ (fun _ _ _ _ _ _ => StX.bind_star1 (B := fun us => bindArgs _ ⟨us, []⟩) (fun _ => rfl) (fun _ _ _ => rfl)) (fun cdv A outer s H vs Q E hr h => ?_)
  obtain ⟨a, dx, t, us, ps, rfl, ha, ht, tk, pa, hz, k⟩ := h
  have hlen := tk.len
  refine ⟨_, (pss_cons (ps_set (i := 2) sc_Row___init__.nd rfl (by walk_at "loc") (pe_callR (ok_first_break T) (by walk_at "room") (by rfl) T.g_first_break T.k_first_break pass0 (pa_cons (pv 1) pa_nil)))
      (pss_cons (ps_if (pt_cmpR op_notN (pv 2) pe_non (nomark _)) (pss_never) pss_nil)
      (pss_cons (ps_fld (pv 0) (pv 1) rfl)
      (pss_cons (ps_fld (pv 0) (pe_callTy (call_tuple_ofK K) (by rfl) T.f_tuple boot_tuple (pa_cons (pe_lc (own := [("card", 3)]) rfl sc_Row___init__.nd (pi_tup (pv 1)) (blkOk_by (own := [("card", 3)]) (N := N_Row___init__) (sc := defScope s_Row___init__) (by decide +kernel)) (fun _ _ _ _ _ => (pg_name (i := 3) sc_Row___init__.nd rfl (by walk_at "loc"))) (fun _ _ _ _ _ => pts_nil) (fun _ _ _ _ _ => (pe_tup (pa_cons (pe_fldK K (pv 3)) (pa_cons (pe_fldK K (pv 3)) pa_nil))))) pa_nil)) rfl)
      (pss_one (ps_fld (pv 0) (pe_callB (cr_sumK K rfl) (by rfl) T.f_sum boot_sum (pa_cons (pe_lc (own := [("one", 4), ("other", 5)]) rfl sc_Row___init__.nd (RZ.pi_zipA (by rfl) T.f_zip (pa_cons (pe_fldK K (pv 0)) (pa_cons (pe_slice (sl_tupK K) (pe_fldK K (pv 0)) (po_some pe_int) po_none) pa_nil))) (blkOk_by (own := [("one", 4), ("other", 5)]) (N := N_Row___init__) (sc := defScope s_Row___init__) (by decide +kernel)) (fun _ _ _ _ _ => (pg_tupK K 2 rfl (pgs_cons (pg_name (i := 4) sc_Row___init__.nd rfl (by walk_at "loc")) (pgs_cons (pg_name (i := 5) sc_Row___init__.nd rfl (by walk_at "loc")) pgs_nil)))) (fun _ _ _ _ _ => pts_nil) (fun _ _ _ _ _ => (pe_op op_sub (pe_ix (ix_tupK K) (pv 5) pe_int (fun _ _ => rfl)) (pe_ix (ix_tupK K) (pv 4) pe_int (fun _ _ => rfl))))) pa_nil)) rfl)))))), ?_⟩
  -- spot = first_break(tickets)
  refine ⟨_, rfl, t, us, ps, rfl, ht, tk, pa, fun H1 s1 => ?_⟩
  refine ⟨_, rfl, rfl, _, rfl, iteNS rfl ?_⟩
  -- self.cards
  refine ⟨_, rfl, _, rfl, a, _, dx, _, rfl, s1 _ _ ha, T.c_Row, T.n_Row_cards, (by show 0 < 1000; decide), ?_⟩
  have x1 : SameX a H (upd H1 a (.ins (He.ga K "Row") dx (putF "cards" (.ref t) []))) := (s1.x).step (SameX.upd a _ _)
  generalize e1 : upd H1 a (.ins (He.ga K "Row") dx (putF "cards" (.ref t) [])) = H2 at x1
  have a2 : H2 a = some (.ins (He.ga K "Row") dx (putF "cards" (.ref t) [])) := by rw [← e1]; exact upd_same
  have t2 : H2 t = some (.tup us) := x1 _ _ ht (ne_of ht ha (by intro z; cases z))
  have tk2 := isTks_x x1 ha tk
  -- self.pairs
  refine ⟨_, rfl, t, rfl, ⟨us, SqT.of t2⟩, fun D hD => lc_gen wSame walk_tup hD (by omega) (fun _ => true) (fun i y H => Dp K H y (pr (ps.getD i (0, 0)))) (fun i y H H' s d => d.same s) (fun _ _ _ _ => trivial) (fun H s => s.tup (SqT.of t2)) ?_ ?_⟩
  · rintro acc i x H3 H4 C C0 hi s3 hDl ⟨rfl, ex⟩ kC kC0
    obtain ⟨p, ep, tp⟩ := tk2.at_ ex
    obtain ⟨b, dy, rfl, hb⟩ := tp.s s3.s
    refine ⟨rfl, lc_yes ?_⟩
    refine ⟨_, rfl, _, _, dy, _, _, rfl, hb, T.c_Ticket, T.n_Ticket_foot, rfl, _, rfl, _, _, dy, _, _, rfl, hb, T.c_Ticket, T.n_Ticket_head, rfl, by show 2 ≤ sizeLine; decide, fun q nq => ?_⟩
    refine kC _ _ (Same.new nq) rfl ?_
    rw [getD_of ep]
    exact Dp.mkprU (upd_get nq hDl) upd_same
  · intro H3 ys s3 hDl got
    have dys : DpAll K H3 ys (prs ps) := by
      have z := got.data
      have e : (((List.range us.length).filter fun _ => true).map fun i => pr (ps.getD i (0, 0))) = prs ps := by
        rw [hlen]
        have y := congrArg (List.map pr) (range_all ps (0, 0))
        rw [List.map_map] at y
        exact y
      rw [e] at z
      exact z
    refine ⟨D, ys, rfl, .inl ⟨SqL.of hDl, fun u nu => ?_⟩⟩
    have s4 : Same H2 (upd H3 u (.tup ys)) := s3.trans (Same.new nu)
    have d4 : DpAll K (upd H3 u (.tup ys)) ys (prs ps) := Dp.sameAll (Same.new nu) _ dys
    generalize e4 : upd H3 u (.tup ys) = H4 at s4 d4
    have u4 : H4 u = some (.tup ys) := by rw [← e4]; exact upd_same
    refine ⟨_, rfl, a, _, dx, _, rfl, s4 _ _ a2, T.c_Row, T.n_Row_pairs, (by show 1 < 1000; decide), ?_⟩
    have f5 : putF "pairs" (.ref u) (putF "cards" (.ref t) []) = ([("cards", V.ref t), ("pairs", V.ref u)] : List (Str × V)) := rfl
    rw [f5]
    have x5 : SameX a H2 (upd H4 a (.ins (He.ga K "Row") dx ([("cards", V.ref t), ("pairs", V.ref u)] : List (Str × V)))) := (s4.x).step (SameX.upd a _ _)
    have ya : u ≠ a := ne_of u4 (s4 _ _ a2) (by intro z; cases z)
    have d5 : DpAll K (upd H4 a (.ins (He.ga K "Row") dx ([("cards", V.ref t), ("pairs", V.ref u)] : List (Str × V)))) ys (prs ps) := prs_upd (s4 _ _ a2) d4
    generalize e5 : upd H4 a (.ins (He.ga K "Row") dx ([("cards", V.ref t), ("pairs", V.ref u)] : List (Str × V))) = H5 at x5 d5
    have a5 : H5 a = some (.ins (He.ga K "Row") dx ([("cards", V.ref t), ("pairs", V.ref u)] : List (Str × V))) := by rw [← e5]; exact upd_same
    have u5 : H5 u = some (.tup ys) := by rw [← e5, upd_ne ya]; exact u4
    have ly : ys.length = ps.length := Prs.len d5
    -- self.steps
    refine ⟨_, rfl, _, _, dx, _, _, rfl, a5, T.c_Row, T.n_Row_pairs, rfl, ?_⟩
    refine ⟨_, rfl, _, _, dx, _, _, rfl, a5, T.c_Row, T.n_Row_pairs, rfl, 1, rfl, ?_⟩
    dsimp only [tNoPart]
    refine slA_any u5 fun z H6 s6 hz6 => ?_
    have ez : cutV ys (some 1) none = ys.drop 1 := by
      unfold cutV
      rw [one_le_sl]
      show (ys.drop (min 1 ys.length)).take (ys.length - min 1 ys.length) = _
      rw [List.take_of_length_le (by rw [List.length_drop]; omega)]
      cases ys <;> rfl
    rw [ez] at hz6
    have u6 := s6 _ _ u5
    refine ⟨u, z, ys, ys.drop 1, rfl, .inr ⟨SqT.of u6, SqT.of hz6, fun D2 hD2 => ?_⟩⟩
    have hmin : ps.length - 1 = min ys.length (ys.drop 1).length := by rw [List.length_drop]; omega
    refine lc_gen wSame (walk_zipT hmin) hD2 (by omega) (fun _ => true) (fun i y H => y = .int ((ps.getD (i + 1) (0, 0)).1 - (ps.getD i (0, 0)).2)) (fun i y H H' s d => d) (fun _ _ _ _ => trivial) (fun H s => ⟨s.tup (SqT.of u6), s.tup (SqT.of hz6)⟩) ?_ ?_
    · rintro acc i x H7 H8 C C0 hi s7 hDl2 y kC kC0
      refine gpair y fun T0 c d ec ed nT eH => ⟨rfl, lc_yes ?_⟩
      rw [List.getElem?_drop, Nat.add_comm] at ed
      have s8 : Same H5 H8 := by rw [eH]; exact (s6.trans s7).trans (Same.new nT)
      obtain ⟨p, ep, dp⟩ := Prs.of_at (Dp.sameAll s8 _ d5) ec
      obtain ⟨q, eq, dq⟩ := Prs.of_at (Dp.sameAll s8 _ d5) ed
      obtain ⟨pt, rfl, hp⟩ := dp.pr_inv
      obtain ⟨qt, rfl, hq⟩ := dq.pr_inv
      refine ⟨_, rfl, qt, _, 0, _, rfl, rfl, hq, at_of (j := 0) rfl rfl, _, rfl, pt, _, 1, _, rfl, rfl, hp, at_of (j := 1) rfl rfl, _, _, rfl, rfl, kC _ _ (by rw [eH]; exact Same.new nT) rfl fun o => ?_⟩
      rw [getD_of ep, getD_of eq]
    · intro H7 zs s7 hDl2 got2
      have ez2 : zs = ((List.range (ps.length - 1)).map fun i => (ps.getD (i + 1) (0, 0)).1 - (ps.getD i (0, 0)).2).map V.int := by
        have z1 := (got2.mono fun i y (r : y = .int ((ps.getD (i + 1) (0, 0)).1 - (ps.getD i (0, 0)).2)) => (show Dp K H7 y (.int ((ps.getD (i + 1) (0, 0)).1 - (ps.getD i (0, 0)).2)) by rw [r]; exact .int _)).data
        rw [List.filter_eq_self.mpr (fun _ _ => rfl)] at z1
        refine DpAll.ints_inv (K := K) (H := H7) ?_
        rw [List.map_map]
        exact z1
      rw [ez2] at hDl2
      refine ⟨D2, _, rfl, SqL.of hDl2, ?_⟩
      rw [climb_sum]
      have s9 : Same H5 H7 := s6.trans s7
      refine ⟨_, rfl, a, _, dx, _, rfl, s9 _ _ a5, T.c_Row, T.n_Row_steps, (by show 2 < 1000; decide), ?_⟩
      have f6 : putF "steps" (.int (climb ps)) ([("cards", V.ref t), ("pairs", V.ref u)] : List (Str × V)) = fRow t u (climb ps) := rfl
      rw [f6]
      have xN : SameX a H (upd H7 a (.ins (He.ga K "Row") dx (fRow t u (climb ps)))) := ((x1.step x5).step s9.x).step (SameX.upd a _ _)
      refine k _ u xN ⟨⟨dx, upd_same⟩, xN _ _ ht (ne_of ht ha (by intro z; cases z)), isTks_x xN ha tk, ys, ?_, ?_⟩
      · rw [upd_ne ya]
        exact s9 _ _ u5
      · exact prs_upd (s9 _ _ a5) (Dp.sameAll s9 _ d5)

end
end K41

set_option maxHeartbeats 4000000
namespace K41
open PySem PySem.Spec PyProof.Rows L2 CT
local macro_rules | `(tactic| walk_at "room") => `(tactic| first | assumption | exact Room.mono (by assumption) (by decide))
local macro_rules | `(tactic| walk_at "room64") => `(tactic| exact Room.units (by assumption))
local macro_rules | `(tactic| walk_at "room65") => `(tactic| exact room65 (by assumption))
local macro_rules | `(tactic| walk_at "hu") => `(tactic| exact hu_of (by assumption))
local macro_rules | `(tactic| walk_at "loc") => `(tactic| first | exact Or.inl rfl | exact Or.inr rfl)
local macro_rules | `(tactic| walk_at "hp") => `(tactic| first
  | assumption
  | exact upd_same
  | (refine upd_get (by assumption) ?_; walk_at "hp")
  | (refine Same.get (by assumption) ?_; walk_at "hp")
  | (refine SameS.get (by assumption) (by first | trivial | exact ⟨rfl, rfl⟩) ?_; walk_at "hp"))
local macro_rules | `(tactic| walk_at "same") => `(tactic| first
  | assumption
  | exact Same.refl _
  | (refine Same.trans ?_ (Same.new (by assumption)); walk_at "same")
  | (refine Same.trans ?_ (by assumption); walk_at "same"))
section
variable {P : Program} {w : World} {K : PySem.W.Frag} {mg : Str → Option Value} {base : Heap}
/-- Row(.., *..) -/
theorem use_Row {H : Hp} {us : List V} {ps : List PI2} {a dx : Addr} {Qd : Hp → Prop} {E : XK} (h1 : H a = none) (h2 : H dx = none) (h3 : dx ≠ a) (tk : IsTks K H us ps) (pa : path ps) (hz : us.length ≤ 1000) (q : ∀ H', Same H H' → IsRow K H' (.ref a) ps → Qd H') :
    spStar 1 (sp_Row_init K) (.ref a :: us) (upd (upd H dx (.own a)) a (.ins (He.ga K "Row") dx [])) (fun v H2 => v = .non ∧ Qd H2) E := by
  refine spStar.mk (ws := [.ref a]) (by omega) fun t H1 nt s1 ht _ => ?_
  refine ⟨a, dx, t, us, ps, rfl, s1 _ _ upd_same, ht, tk.s ((made0 h1 h2).trans s1).s, pa, hz, fun H2 u x r => ⟨rfl, q _ ?_ ⟨a, t, us, u, rfl, r⟩⟩⟩
  exact made h1 h2 h3 ((s1.x).step x)
abbrev N_Row_tickets : List Str := ["self"]
theorem sc_Row_tickets : FnScope N_Row_tickets ["self"] (defScope s_Row_tickets) := ⟨rfl, rfl, rfl, by decide +kernel, rfl, by decide +kernel, by decide +kernel⟩
def sp_Row_tickets (K : PySem.W.Frag) : Sp := fun vs H Q _ => ∃ v ps, vs = [v] ∧ IsRow K H v ps ∧ ∀ t us, H t = some (.tup us) → IsTks K H us ps → Q (.ref t) H
theorem ok_Row_tickets (T : Txt K mg) : FnR P w K mg base CX0 1 (CT.pg K "Row" "tickets") (sp_Row_tickets K) := by
  obtain ⟨fd, F⟩ := T.d_Row_tickets
  refine plainR F sc_Row_tickets (fun _ _ _ _ _ _ us hl => match us, hl with | [_], _ => rfl) (fun vs H Q E h => ?_) (fun cdv A outer s H vs Q E hr h => ?_)
  · obtain ⟨v, ps, rfl, _⟩ := h
    rfl
  · obtain ⟨v, ps, rfl, ⟨a, t, us, u, rfl, ⟨dx, ha⟩, ht, tk, _⟩, k⟩ := h
    refine ⟨_, (pss_one (ps_ret (pe_fldK K (pv 0)))), ?_⟩
    exact ⟨_, rfl, _, _, dx, _, _, rfl, ha, T.c_Row, T.n_Row_cards, rfl, k t us ht tk⟩
abbrev N_Row___len__ : List Str := ["self"]
theorem sc_Row___len__ : FnScope N_Row___len__ ["self"] (defScope s_Row___len__) := ⟨rfl, rfl, rfl, by decide +kernel, rfl, by decide +kernel, by decide +kernel⟩
def sp_Row_len (K : PySem.W.Frag) : Sp := fun vs H Q _ => ∃ v ps, vs = [v] ∧ IsRow K H v ps ∧ Q (.int (ps.length : Nat)) H
theorem ok_Row___len__ (T : Txt K mg) : FnR P w K mg base CX0 1 (He.ma K (He.ga K "Row") "__len__") (sp_Row_len K) := by
  obtain ⟨fd, F⟩ := T.d_Row___len__
  refine plainR F sc_Row___len__ (fun _ _ _ _ _ _ us hl => match us, hl with | [_], _ => rfl) (fun vs H Q E h => ?_) (fun cdv A outer s H vs Q E hr h => ?_)
  · obtain ⟨v, ps, rfl, _⟩ := h
    rfl
  · obtain ⟨v, ps, rfl, ⟨a, t, us, u, rfl, ⟨dx, ha⟩, ht, tk, _⟩, k⟩ := h
    refine ⟨_, (pss_one (ps_ret (pe_callB (call_lenK K) (by rfl) T.f_len boot_len (pa_cons (pe_fldK K (pv 0)) pa_nil)))), ?_⟩
    refine ⟨_, rfl, _, _, dx, _, _, rfl, ha, T.c_Row, T.n_Row_cards, rfl, t, us, rfl, .inr (SqT.of ht), ?_⟩
    rw [tk.len]
    exact k
abbrev N_Row___eq__ : List Str := ["self", "other"]
theorem sc_Row___eq__ : FnScope N_Row___eq__ ["self", "other"] (defScope s_Row___eq__) := ⟨rfl, rfl, rfl, by decide +kernel, rfl, by decide +kernel, by decide +kernel⟩
def sp_Row_eq (K : PySem.W.Frag) : Sp := fun vs H Q _ => ∃ v u ps qs, vs = [v, u] ∧ IsRow K H v ps ∧ IsRow K H u qs ∧ Q (.bl (decide (ps = qs))) H
theorem ok_Row___eq__ (T : Txt K mg) : FnR P w K mg base CX0 1 (He.ma K (He.ga K "Row") "__eq__") (sp_Row_eq K) := by
  obtain ⟨fd, F⟩ := T.d_Row___eq__
  refine plainR F sc_Row___eq__ (fun _ _ _ _ _ _ us hl => match us, hl with | [_, _], _ => rfl) (fun vs H Q E h => ?_) (fun cdv A outer s H vs Q E hr h => ?_)
  · obtain ⟨v, u, ps, qs, rfl, _⟩ := h
    rfl
  · obtain ⟨v, u, ps, qs, rfl, ⟨a, t, us, z, rfl, ⟨dx, ha⟩, _, _, ws, hz, dz⟩, ⟨b, t2, us2, z2, rfl, ⟨dy, hb⟩, _, _, ws2, hz2, dz2⟩, k⟩ := h
    refine ⟨_, (pss_one (ps_ret (pe_and (pe_callB (call_isiK' K) (by rfl) T.f_isinstance boot_isinstance (pa_cons (pv 1) (pa_cons (pe_globR (by rfl) T.g_Row) pa_nil))) (pe_one (pe_cmpR (op_eqDK K (by walk_at "room64")) (pe_fldK K (pv 0)) (pe_fldK K (pv 1)) (nomark _)))))), ?_⟩
    refine ⟨_, rfl, _, _, _, _, true, rfl, .own _, T.t_Row.of T.c_Row hb, T.kit_Row_Row, true, rfl, iteT ?_⟩
    refine ⟨_, rfl, _, _, dx, _, _, rfl, ha, T.c_Row, T.n_Row_pairs, rfl, _, rfl, _, _, dy, _, _, rfl, hb, T.c_Row, T.n_Row_pairs, rfl, _, _, .tup (SqT.of hz) dz, .tup (SqT.of hz2) dz2, shaped_tprs _, shaped_tprs _, ?_⟩
    rw [eqv_tprs]
    exact k
abbrev N_Row___lt__ : List Str := ["self", "other"]
theorem sc_Row___lt__ : FnScope N_Row___lt__ ["self", "other"] (defScope s_Row___lt__) := ⟨rfl, rfl, rfl, by decide +kernel, rfl, by decide +kernel, by decide +kernel⟩
def sp_Row_lt (K : PySem.W.Frag) : Sp := fun vs H Q _ => ∃ v u ps qs, vs = [v, u] ∧ IsRow K H v ps ∧ IsRow K H u qs ∧ Q (.bl (ltPs ps qs)) H
theorem ok_Row___lt__ (T : Txt K mg) : FnR P w K mg base CX0 1 (He.ma K (He.ga K "Row") "__lt__") (sp_Row_lt K) := by
  obtain ⟨fd, F⟩ := T.d_Row___lt__
  refine plainR F sc_Row___lt__ (fun _ _ _ _ _ _ us hl => match us, hl with | [_, _], _ => rfl) (fun vs H Q E h => ?_) (fun cdv A outer s H vs Q E hr h => ?_)
  · obtain ⟨v, u, ps, qs, rfl, _⟩ := h
    rfl
  · obtain ⟨v, u, ps, qs, rfl, ⟨a, t, us, z, rfl, ⟨dx, ha⟩, _, _, ws, hz, dz⟩, ⟨b, t2, us2, z2, rfl, ⟨dy, hb⟩, _, _, ws2, hz2, dz2⟩, k⟩ := h
    refine ⟨_, (pss_cons (ps_if (pt_not (pt_val (pe_callB (call_isiK' K) (by rfl) T.f_isinstance boot_isinstance (pa_cons (pv 1) (pa_cons (pe_globR (by rfl) T.g_Row) pa_nil))))) (pss_one ps_never) pss_nil)
      (pss_one (ps_ret (pe_cmpR (op_ltDK K (by walk_at "room64")) (pe_fldK K (pv 0)) (pe_fldK K (pv 1)) (nomark _))))), ?_⟩
    refine ⟨_, rfl, _, _, _, _, true, rfl, .own _, T.t_Row.of T.c_Row hb, T.kit_Row_Row, true, rfl, iteF ?_⟩
    exact ⟨_, rfl, _, _, dx, _, _, rfl, ha, T.c_Row, T.n_Row_pairs, rfl, _, rfl, _, _, dy, _, _, rfl, hb, T.c_Row, T.n_Row_pairs, rfl, _, _, .tup (SqT.of hz) dz, .tup (SqT.of hz2) dz2, alike_tprs _ _, (fun z => nomatch z), depth_tprs _, k⟩
abbrev N_Row___getitem__ : List Str := ["self", "at"]
theorem sc_Row___getitem__ : FnScope N_Row___getitem__ ["self", "at"] (defScope s_Row___getitem__) := ⟨rfl, rfl, rfl, by decide +kernel, rfl, by decide +kernel, by decide +kernel⟩
def sp_Row_getitem (K : PySem.W.Frag) : Sp := fun vs H Q _ => ∃ v ps i p, vs = [v, .int ((i : Nat) : Int)] ∧ IsRow K H v ps ∧ ps[i]? = some p ∧ ∀ u, IsTk K H u p → Q u H
theorem ok_Row___getitem__ (T : Txt K mg) : FnR P w K mg base CX0 3 (He.ma K (He.ga K "Row") "__getitem__") (sp_Row_getitem K) := by
  obtain ⟨fd, F⟩ := T.d_Row___getitem__
  refine plainR F sc_Row___getitem__ (fun _ _ _ _ _ _ us hl => match us, hl with | [_, _], _ => rfl) (fun vs H Q E h => ?_) (fun cdv A outer s H vs Q E hr h => ?_)
  · obtain ⟨v, ps, i, p, rfl, _⟩ := h
    rfl
  · obtain ⟨v, ps, i, p, rfl, ⟨a, t, us, u, rfl, ⟨dx, ha⟩, ht, tk, _⟩, ep, k⟩ := h
    refine ⟨_, (pss_cons (ps_if (pt_not (pt_val (pe_callR (ok_is_between T) (by walk_at "room") (by rfl) T.g_is_between T.k_is_between pass0 (pa_cons (pv 1) (pa_cons pe_int (pa_cons (pe_op op_sub (pe_callB (call_lenK K) (by rfl) T.f_len boot_len (pa_cons (pe_fldK K (pv 0)) pa_nil)) pe_int) pa_nil)))))) (pss_never) pss_nil)
      (pss_one (ps_ret (pe_ix (ix_tupK K) (pe_fldK K (pv 0)) (pv 1) (fun _ _ => rfl))))), ?_⟩
    have hi : i < ps.length := (List.getElem?_eq_some_iff.mp ep).1
    refine ⟨_, rfl, _, rfl, _, _, dx, _, _, rfl, ha, T.c_Row, T.n_Row_cards, rfl, t, us, rfl, .inr (SqT.of ht), _, _, rfl, rfl, _, _, _, rfl, Knd.int _, _, rfl, ?_⟩
    rw [tk.len, btw_yes (by omega)]
    refine iteF ?_
    have hu : i < us.length := by rw [tk.len]; exact hi
    obtain ⟨p', ep', tp⟩ := tk.at_ (List.getElem?_eq_getElem hu)
    cases ep.symm.trans ep'
    exact ⟨_, rfl, _, _, dx, _, _, rfl, ha, T.c_Row, T.n_Row_cards, rfl, _, rfl, t, us, _, _, rfl, rfl, SqT.of ht, atI_nat (List.getElem?_eq_getElem hu), k _ tp⟩
abbrev N_Row___add__ : List Str := ["self", "other"]
theorem sc_Row___add__ : FnScope N_Row___add__ ["self", "other"] (defScope s_Row___add__) := ⟨rfl, rfl, rfl, by decide +kernel, rfl, by decide +kernel, by decide +kernel⟩
def sp_Row_add (K : PySem.W.Frag) : Sp := fun vs H Q _ => ∃ v u ps qs, vs = [v, u] ∧ IsRow K H v ps ∧ ((∃ q, qs = [q] ∧ IsTk K H u q) ∨ IsRow K H u qs) ∧ path (ps ++ qs) ∧ (ps ++ qs).length ≤ 1000 ∧ ∀ r H', Same H H' → IsRow K H' r (ps ++ qs) → Q r H'
theorem ok_Row___add__ (T : Txt K mg) : FnR P w K mg base CX0 5 (He.ma K (He.ga K "Row") "__add__") (sp_Row_add K) := by
  obtain ⟨fd, F⟩ := T.d_Row___add__
  refine plainR F sc_Row___add__ (fun _ _ _ _ _ _ us hl => match us, hl with | [_, _], _ => rfl) (fun vs H Q E h => ?_) (fun cdv A outer s H vs Q E hr h => ?_)
  · obtain ⟨v, u, ps, qs, rfl, _⟩ := h
    rfl
  · obtain ⟨v, u, ps, qs, rfl, ⟨a, t, us, z, rfl, ⟨dx, ha⟩, ht, tk, _⟩, hq, pa, hl, k⟩ := h
    refine ⟨_, (pss_cons (ps_if (pt_val (pe_callB (call_isiK' K) (by rfl) T.f_isinstance boot_isinstance (pa_cons (pv 1) (pa_cons (pe_globR (by rfl) T.g_Ticket) pa_nil)))) (pss_one (ps_ret (pe_makeS2 T.mk_Row (ok_Row___init__ T) (by walk_at "room") (by rfl) T.g_Row pass0 (pa_starK K (pe_fldK K (pv 0)) (pa_cons (pv 1) pa_nil))))) pss_nil)
      (pss_cons (ps_if (pt_val (pe_callB (call_isiK' K) (by rfl) T.f_isinstance boot_isinstance (pa_cons (pv 1) (pa_cons (pe_globR (by rfl) T.g_Row) pa_nil)))) (pss_one (ps_ret (pe_makeS2 T.mk_Row (ok_Row___init__ T) (by walk_at "room") (by rfl) T.g_Row pass0 (pa_starK K (pe_fldK K (pv 0)) (pa_starK K (pe_fldK K (pv 1)) pa_nil))))) pss_nil)
      (pss_one ps_never))), ?_⟩
    rcases hq with ⟨q, rfl, tq⟩ | ⟨b, t2, us2, z2, rfl, ⟨dy, hb⟩, ht2, tk2, _⟩
    · obtain ⟨b, dy, rfl, hb⟩ := id tq
      refine ⟨_, rfl, _, _, _, _, true, rfl, .own _, T.t_Ticket.of T.c_Ticket hb, T.kit_Ticket_Ticket, true, rfl, iteT ?_⟩
      refine ⟨_, rfl, _, _, dx, _, _, rfl, ha, T.c_Row, T.n_Row_cards, rfl, t, us, rfl, .inl (SqT.of ht), _, rfl, fun r rx h1 h2 h3 => ?_⟩
      have tk3 := IsTks.append tk tq.one
      exact use_Row h1 h2 h3 tk3 pa (by rw [tk3.len]; exact hl) fun H' s' r' => k _ _ s' r'
    · refine ⟨_, rfl, _, _, _, _, false, rfl, .own _, T.t_Row.of T.c_Row hb, T.kit_Row_Ticket, false, rfl, iteF ?_⟩
      refine ⟨_, rfl, _, _, _, _, true, rfl, .own _, T.t_Row.of T.c_Row hb, T.kit_Row_Row, true, rfl, iteT ?_⟩
      refine ⟨_, rfl, _, _, dx, _, _, rfl, ha, T.c_Row, T.n_Row_cards, rfl, t, us, rfl, .inl (SqT.of ht), _, rfl, _, _, dy, _, _, rfl, hb, T.c_Row, T.n_Row_cards, rfl, t2, us2, rfl, .inl (SqT.of ht2), fun r rx h1 h2 h3 => ?_⟩
      have tk3 := IsTks.append tk tk2
      rw [List.append_nil]
      exact use_Row h1 h2 h3 tk3 pa (by rw [tk3.len]; exact hl) fun H' s' r' => k _ _ s' r'
abbrev N_Row_cut : List Str := ["self", "number", "first", "second"]
theorem sc_Row_cut : FnScope N_Row_cut ["self", "number"] (defScope s_Row_cut) := ⟨rfl, rfl, rfl, by decide +kernel, rfl, by decide +kernel, by decide +kernel⟩
def sp_Row_cut (K : PySem.W.Frag) : Sp := fun vs H Q _ => ∃ v ps n, vs = [v, .int ((n : Nat) : Int)] ∧ IsRow K H v ps ∧ path ps ∧ n ≤ ps.length ∧ ps.length ≤ 1000 ∧
  ∀ t x y H', Same H H' → H' t = some (.tup [x, y]) → IsRow K H' x (ps.take n) → IsRow K H' y (ps.drop n) → Q (.ref t) H'
theorem ok_Row_cut (T : Txt K mg) : FnR P w K mg base CX0 5 (He.ma K (He.ga K "Row") "cut") (sp_Row_cut K) := by
  obtain ⟨fd, F⟩ := T.d_Row_cut
  refine plainR F sc_Row_cut (fun _ _ _ _ _ _ us hl => match us, hl with | [_, _], _ => rfl) (fun vs H Q E h => ?_) (fun cdv A outer s H vs Q E hr h => ?_)
  · obtain ⟨v, ps, n, rfl, _⟩ := h
    rfl
  · obtain ⟨v, ps, n, rfl, ⟨a, t, us, u, rfl, ⟨dx, ha⟩, ht, tk, _⟩, pa, hn, hl, k⟩ := h
    have hul := tk.len
    refine ⟨_, (pss_cons (ps_if (pt_not (pt_val (pe_callR (ok_is_between T) (by walk_at "room") (by rfl) T.g_is_between T.k_is_between pass0 (pa_cons (pv 1) (pa_cons pe_int (pa_cons (pe_callB (call_lenK K) (by rfl) T.f_len boot_len (pa_cons (pe_fldK K (pv 0)) pa_nil)) pa_nil)))))) (pss_never) pss_nil)
      (pss_cons (ps_par (i := 2) (j := 3) (by rfl) sc_Row_cut.nd rfl rfl (by decide) rfl rfl (pa_cons (pe_slice (sl_tupK K) (pe_fldK K (pv 0)) po_none (po_some (pv 1))) (pa_cons (pe_slice (sl_tupK K) (pe_fldK K (pv 0)) (po_some (pv 1)) po_none) pa_nil)) (by rfl))
      (pss_one (ps_ret (pe_tup (pa_cons (pe_makeS1 T.mk_Row (ok_Row___init__ T) (by walk_at "room") (by rfl) T.g_Row pass0 (pv 2)) (pa_cons (pe_makeS1 T.mk_Row (ok_Row___init__ T) (by walk_at "room") (by rfl) T.g_Row pass0 (pv 3)) pa_nil))))))), ?_⟩
    refine ⟨_, rfl, _, rfl, _, _, dx, _, _, rfl, ha, T.c_Row, T.n_Row_cards, rfl, t, us, rfl, .inr (SqT.of ht), _, _, _, rfl, Knd.int _, _, rfl, ?_⟩
    rw [btw_yes (by omega)]
    refine iteF ?_
    refine ⟨_, rfl, _, _, dx, _, _, rfl, ha, T.c_Row, T.n_Row_cards, rfl, ?_⟩
    dsimp only [tNoPart]
    refine ⟨_, rfl, _, rfl, ?_⟩
    refine slA_any ht fun z1 H1 s1 hz1 => ?_
    refine ⟨_, rfl, _, _, dx, _, _, rfl, s1 _ _ ha, T.c_Row, T.n_Row_cards, rfl, _, rfl, _, rfl, ?_⟩
    dsimp only [tNoPart]
    refine slA_any (s1 _ _ ht) fun z2 H2 s2 hz2 => ?_
    rw [cutV_to (by omega)] at hz1
    rw [cutV_from (by omega)] at hz2
    have s3 := s1.trans s2
    refine ⟨_, _, rfl, ?_⟩
    refine ⟨_, rfl, z1, _, rfl, .inl (SqT.of (s2 _ _ hz1)), fun r rx h1 h2 h3 => ?_⟩
    rw [List.append_nil]
    refine use_Row h1 h2 h3 ((tk.s s3.s).take n) (path_take n pa) (by rw [List.length_take]; omega) fun H4 s4 r4 => ?_
    refine ⟨_, rfl, z2, _, rfl, .inl (SqT.of (s4 _ _ hz2)), fun r2 rx2 h12 h22 h32 => ?_⟩
    rw [List.append_nil]
    refine use_Row h12 h22 h32 ((tk.s (s3.trans s4).s).drop n) (path_drop n pa) (by rw [List.length_drop]; omega) fun H5 s5 r5 => ?_
    refine ⟨by show 2 ≤ sizeLine; decide, fun p np => ?_⟩
    have sN := Same.new np (o := .tup [V.ref r, V.ref r2])
    exact k p _ _ _ (((s3.trans s4).trans s5).trans sN) upd_same (r4.s (s5.trans sN).s) (r5.s sN.s)

end
end K41

set_option maxHeartbeats 4000000
namespace K41
open PySem PySem.Spec PyProof.Rows L2 CT
local macro_rules | `(tactic| walk_at "room") => `(tactic| first | assumption | exact Room.mono (by assumption) (by decide))
local macro_rules | `(tactic| walk_at "room64") => `(tactic| exact Room.units (by assumption))
local macro_rules | `(tactic| walk_at "room65") => `(tactic| exact room65 (by assumption))
local macro_rules | `(tactic| walk_at "hu") => `(tactic| exact hu_of (by assumption))
local macro_rules | `(tactic| walk_at "loc") => `(tactic| first | exact Or.inl rfl | exact Or.inr rfl)
local macro_rules | `(tactic| walk_at "hp") => `(tactic| first
  | assumption
  | exact upd_same
  | (refine upd_get (by assumption) ?_; walk_at "hp")
  | (refine Same.get (by assumption) ?_; walk_at "hp")
  | (refine SameS.get (by assumption) (by first | trivial | exact ⟨rfl, rfl⟩) ?_; walk_at "hp"))
local macro_rules | `(tactic| walk_at "same") => `(tactic| first
  | assumption
  | exact Same.refl _
  | (refine Same.trans ?_ (Same.new (by assumption)); walk_at "same")
  | (refine Same.trans ?_ (by assumption); walk_at "same"))
section
variable {P : Program} {w : World} {K : PySem.W.Frag} {mg : Str → Option Value} {base : Heap}
/-! ### desks -/
theorem filt_map {α : Type} (l : List α) (d : α) (f : α → Bool) : ((List.range l.length).filter fun i => f (l.getD i d)).map (fun i => l.getD i d) = l.filter f := by
  have h := range_all l d
  rw [List.filter_eq_self.mpr (fun _ _ => rfl)] at h
  have z : ((List.range l.length).map (fun i => l.getD i d)).filter f = ((List.range l.length).filter fun i => f (l.getD i d)).map (fun i => l.getD i d) := by rw [List.filter_map] <;> rfl
  rw [← z, h]
theorem filt_len {α : Type} (l : List α) (d : α) (f : α → Bool) : ((List.range l.length).filter fun i => f (l.getD i d)).length = (l.filter f).length := by
  rw [← filt_map l d f, List.length_map]
theorem noneR {H H' : Hp} {a : Addr} (s : Same H H') (h : H' a = none) : H a = none := by
  cases q : H a with
  | none => rfl
  | some o =>
    rw [s _ _ q] at h
    cases h
abbrev N_excess_numbers : List Str := ["pairs", "found", "gap", "ups", "x", "y", "downs"]
theorem sc_excess_numbers : FnScope N_excess_numbers ["pairs"] (defScope s_excess_numbers) := ⟨rfl, rfl, rfl, by decide +kernel, rfl, by decide +kernel, by decide +kernel⟩
def sp_excess (K : PySem.W.Frag) : Sp := fun vs H Q _ => ∃ t ws ps, vs = [.ref t] ∧ SqT K H t ws ∧ DpAll K H ws (prs ps) ∧ ps.length ≤ 1000 ∧ ∀ r H', Same H H' → H' r = some (.lst ((excess ps).map V.int)) → Q (.ref r) H'
/-- the comprehension in it -/
theorem ex_cnt {K : PySem.W.Frag} {H H1 H3 : Hp} {D t : Addr} {ws ys : List V} {ps : List PI2} {P : PI2 → Bool} {n : Nat} (hn : n = ps.length) (hD : H3 D = some (.lst ys)) (got : Got (fun i => P (ps.getD i (0, 0))) (fun i y => y = .int 1) n ys) : ys.length = (ps.filter P).length := by
  subst hn
  have z := (got.mono (R' := fun i y => Dp K H3 y ((fun _ => .int 1) i)) fun i y r => by rw [r]; exact .int 1).data.len
  rw [List.length_map, filt_len] at z
  exact z
theorem ok_excess_numbers (T : Txt K mg) : FnR P w K mg base CX0 1 (He.ga K "excess_numbers") (sp_excess K) := by
  obtain ⟨fd, F⟩ := T.d_excess_numbers
  refine plainR F sc_excess_numbers (fun _ _ _ _ _ _ us hl => match us, hl with | [_], _ => rfl) (fun vs H Q E h => ?_) (fun cdv A outer s H vs Q E hr h => ?_)
  · obtain ⟨t, ws, ps, rfl, _⟩ := h
    rfl
  · obtain ⟨t, ws, ps, rfl, ht, dp, hz, k⟩ := h
    have hws := Prs.len dp
    obtain ⟨r1, tk, c1⟩ := T.v_Profile_GAPS
    refine ⟨_, (pss_cons (ps_set (i := 1) sc_excess_numbers.nd rfl (by walk_at "loc") (pe_lst pa_nil))
      (pss_cons (ps_for PassesOwn.never rfl (pi_range1 (by rfl) T.f_range (pa_cons (pe_cvalK K (pe_globR (by rfl) T.g_Profile)) pa_nil)) (pg_name (i := 2) sc_excess_numbers.nd rfl (by walk_at "loc"))
      (pss_cons (ps_set (i := 3) sc_excess_numbers.nd rfl (by walk_at "loc") (pe_callB (call_lenK K) (by rfl) T.f_len boot_len (pa_cons (pe_lc (own := [("x", 4), ("y", 5)]) rfl sc_excess_numbers.nd (pi_tup (pv 0)) (blkOk_by (own := [("x", 4), ("y", 5)]) (N := N_excess_numbers) (sc := defScope s_excess_numbers) (by decide +kernel)) (fun _ _ _ _ _ => (pg_tupK K 2 rfl (pgs_cons (pg_name (i := 4) sc_excess_numbers.nd rfl (by walk_at "loc")) (pgs_cons (pg_name (i := 5) sc_excess_numbers.nd rfl (by walk_at "loc")) pgs_nil)))) (fun _ _ _ _ _ => (pts_one (pt_chain op_le op_lt (pv 4) (pv 2) (pv 5)))) (fun _ _ _ _ _ => pe_int)) pa_nil)))
      (pss_cons (ps_set (i := 6) sc_excess_numbers.nd rfl (by walk_at "loc") (pe_callB (call_lenK K) (by rfl) T.f_len boot_len (pa_cons (pe_lc (own := [("x", 4), ("y", 5)]) rfl sc_excess_numbers.nd (pi_tup (pv 0)) (blkOk_by (own := [("x", 4), ("y", 5)]) (N := N_excess_numbers) (sc := defScope s_excess_numbers) (by decide +kernel)) (fun _ _ _ _ _ => (pg_tupK K 2 rfl (pgs_cons (pg_name (i := 4) sc_excess_numbers.nd rfl (by walk_at "loc")) (pgs_cons (pg_name (i := 5) sc_excess_numbers.nd rfl (by walk_at "loc")) pgs_nil)))) (fun _ _ _ _ _ => (pts_one (pt_chain op_le op_lt (pv 5) (pv 2) (pv 4)))) (fun _ _ _ _ _ => pe_int)) pa_nil)))
      (pss_one (ps_expr (pe_bmK K PySem.F.plainAttrs_list PySem.F.slot_list_append PySem.F.type_list_append mt_append (pv 1) (pa_cons (pe_op op_sub (pv 3) (pv 6)) pa_nil)))))))
      (pss_one (ps_ret (pv 1))))), ?_⟩
    refine ⟨Nat.zero_le _, fun r nr => ?_⟩
    refine ⟨_, _, _, _, rfl, r1, c1, 30, rfl, by decide, by decide, for_it walk_range (fun i σ H' => Same H H' ∧ H' r = some (.lst (((List.range i).map (exAt ps)).map V.int)) ∧ ∃ a b c d e, σ = [some (.ref t), some (.ref r), a, b, c, d, e]) ⟨Same.new nr, upd_same, _, _, _, _, _, rfl⟩ (fun _ _ _ _ _ => trivial) ?_ ?_⟩
    · rintro g x σ H1 H2 hg ⟨s1, hr1, a, b, c, d, e, rfl⟩ ⟨rfl, rfl⟩
      refine ⟨_, rfl, t, rfl, ⟨ws, s1.tup ht⟩, fun D hD => lc_gen wSame walk_tup hD (by omega) (fun i => (fun p : PI2 => decide (p.1 ≤ (0 + (g : Int)) ∧ (0 + (g : Int)) < p.2)) (ps.getD i (0, 0))) (fun i y H => y = .int 1) (fun i y H H' s d => d) (fun _ _ _ _ => trivial) (fun H s => (s1.trans s).tup ht) ?_ ?_⟩
      · rintro acc i x H3 H4 C C0 hi s3 hDl ⟨rfl, ex⟩ kC kC0
        obtain ⟨p, ep, tp⟩ := Prs.of_at (Dp.sameAll (s1.trans s3) _ dp) ex
        refine gpr tp ⟨rfl, ?_⟩
        refine ⟨_, rfl, _, rfl, _, _, rfl, rfl, _, rfl, iteB (fun e1 => ?_) (fun e1 => ?_)⟩
        · refine ⟨_, rfl, _, _, rfl, rfl, _, rfl, iteB (fun e2 => ?_) (fun e2 => ?_)⟩
          · refine kC _ _ (Same.refl _) ?_ fun o => rfl
            rw [getD_of ep]
            exact decide_eq_true ⟨of_decide_eq_true e1, of_decide_eq_true e2⟩
          · refine kC0 _ (Same.refl _) ?_
            rw [getD_of ep]
            exact decide_eq_false fun z => of_decide_eq_false e2 z.2
        · refine ⟨_, rfl, iteF ?_⟩
          refine kC0 _ (Same.refl _) ?_
          rw [getD_of ep]
          exact decide_eq_false fun z => of_decide_eq_false e1 z.1
      · intro H3 ys s3 hDl got
        have c1 := ex_cnt (K := K) (H := H) (H1 := H) (t := t) (ws := ws) (ps := ps) (P := fun p : PI2 => decide (p.1 ≤ (0 + (g : Int)) ∧ (0 + (g : Int)) < p.2)) hws hDl got
        refine ⟨D, ys, rfl, .inl (SqL.of hDl), ?_⟩
        have s3' := s1.trans s3
        refine ⟨_, rfl, t, rfl, ⟨ws, s3'.tup ht⟩, fun D2 hD2 => lc_gen wSame walk_tup hD2 (by omega) (fun i => (fun p : PI2 => decide (p.2 ≤ (0 + (g : Int)) ∧ (0 + (g : Int)) < p.1)) (ps.getD i (0, 0))) (fun i y H => y = .int 1) (fun i y H H' s d => d) (fun _ _ _ _ => trivial) (fun H s => (s3'.trans s).tup ht) ?_ ?_⟩
        · rintro acc i x H5 H6 C C0 hi s5 hDl2 ⟨rfl, ex⟩ kC kC0
          obtain ⟨p, ep, tp⟩ := Prs.of_at (Dp.sameAll (s3'.trans s5) _ dp) ex
          refine gpr tp ⟨rfl, ?_⟩
          refine ⟨_, rfl, _, rfl, _, _, rfl, rfl, _, rfl, iteB (fun e1 => ?_) (fun e1 => ?_)⟩
          · refine ⟨_, rfl, _, _, rfl, rfl, _, rfl, iteB (fun e2 => ?_) (fun e2 => ?_)⟩
            · refine kC _ _ (Same.refl _) ?_ fun o => rfl
              rw [getD_of ep]
              exact decide_eq_true ⟨of_decide_eq_true e1, of_decide_eq_true e2⟩
            · refine kC0 _ (Same.refl _) ?_
              rw [getD_of ep]
              exact decide_eq_false fun z => of_decide_eq_false e2 z.2
          · refine ⟨_, rfl, iteF ?_⟩
            refine kC0 _ (Same.refl _) ?_
            rw [getD_of ep]
            exact decide_eq_false fun z => of_decide_eq_false e1 z.1
        · intro H5 zs s5 hDl2 got2
          have c2 := ex_cnt (K := K) (H := H) (H1 := H) (t := t) (ws := ws) (ps := ps) (P := fun p : PI2 => decide (p.2 ≤ (0 + (g : Int)) ∧ (0 + (g : Int)) < p.1)) hws hDl2 got2
          refine ⟨D2, zs, rfl, .inl (SqL.of hDl2), ?_⟩
          have s5' := s3.trans s5
          refine ⟨_, rfl, .inl ⟨rfl, _, SqL.of (s5' _ _ hr1)⟩, _, rfl, _, rfl, _, _, rfl, rfl, r, _, _, rfl, rfl, s5' _ _ hr1, ?_, ?_, ?_, _, _, _, _, _, rfl⟩
          · rw [List.length_map, List.length_map, List.length_range]
            exact Nat.lt_of_lt_of_le (Nat.lt_of_lt_of_le hg (by decide)) (show 30 ≤ sizeLine by decide)
          · exact Same.put (s1.trans s5') nr
          · rw [upd_same, List.range_succ, List.map_append, List.map_append]
            show some (HO.lst (_ ++ [V.int ((ys.length : Int) - (zs.length : Int))])) = some (HO.lst (_ ++ [V.int (exAt ps g)]))
            have e : ((ys.length : Int) - (zs.length : Int)) = exAt ps g := by
              rw [c1, c2, Int.zero_add] <;> rfl
            rw [e]
    · rintro σ H1 ⟨s1, hr1, a, b, c, d, e, rfl⟩
      exact ⟨_, rfl, k r H1 s1 hr1⟩

end
end K41

set_option maxHeartbeats 4000000
namespace K41
open PySem PySem.Spec PyProof.Rows L2 CT
local macro_rules | `(tactic| walk_at "room") => `(tactic| first | assumption | exact Room.mono (by assumption) (by decide))
local macro_rules | `(tactic| walk_at "room64") => `(tactic| exact Room.units (by assumption))
local macro_rules | `(tactic| walk_at "room65") => `(tactic| exact room65 (by assumption))
local macro_rules | `(tactic| walk_at "hu") => `(tactic| exact hu_of (by assumption))
local macro_rules | `(tactic| walk_at "loc") => `(tactic| first | exact Or.inl rfl | exact Or.inr rfl)
local macro_rules | `(tactic| walk_at "hp") => `(tactic| first
  | assumption
  | exact upd_same
  | (refine upd_get (by assumption) ?_; walk_at "hp")
  | (refine Same.get (by assumption) ?_; walk_at "hp")
  | (refine SameS.get (by assumption) (by first | trivial | exact ⟨rfl, rfl⟩) ?_; walk_at "hp"))
local macro_rules | `(tactic| walk_at "same") => `(tactic| first
  | assumption
  | exact Same.refl _
  | (refine Same.trans ?_ (Same.new (by assumption)); walk_at "same")
  | (refine Same.trans ?_ (by assumption); walk_at "same"))
section
variable {P : Program} {w : World} {K : PySem.W.Frag} {mg : Str → Option Value} {base : Heap}
abbrev N_Profile___init__ : List Str := ["self", "numbers", "spot", "number"]
theorem sc_Profile___init__ : FnScope N_Profile___init__ ["self", "numbers"] (defScope s_Profile___init__) := ⟨rfl, rfl, rfl, by decide +kernel, rfl, by decide +kernel, by decide +kernel⟩
def sp_Profile_init (K : PySem.W.Frag) : Sp := fun vs H Q _ => ∃ a dx t, ∃ ns : List Int, vs = [.ref a, .ref t] ∧ H a = some (.ins (He.ga K "Profile") dx []) ∧ H t = some (.tup (ns.map V.int)) ∧ ns.length = 30 ∧
  ∀ H', SameX a H H' → H' a = some (.ins (He.ga K "Profile") dx (fProf t)) → Q .non H'
theorem ok_Profile___init__ (T : Txt K mg) : FnR P w K mg base CX0 3 (He.ma K (He.ga K "Profile") "__init__") (spStar 1 (sp_Profile_init K)) := by
  obtain ⟨fd, F⟩ := T.d_Profile___init__
  refine starR (ps := ["self"]) (pv := "numbers") F sc_Profile___init__ (fun _ _ _ _ _ _ => StX.bind_star1 (B := fun us => bindArgs _ ⟨us, []⟩) (fun _ => rfl) (fun _ _ _ => rfl)) (fun cdv A outer s H vs Q E hr h => ?_)
  obtain ⟨a, dx, t, ns, rfl, ha, ht, hn, k⟩ := h
  obtain ⟨r1, tk, c1⟩ := T.v_Profile_GAPS
  have hl : (ns.map V.int).length = 30 := by rw [List.length_map]; exact hn
  refine ⟨_, (pss_cons (ps_if (pt_cmpR op_ne (pe_callB (call_lenK K) (by rfl) T.f_len boot_len (pa_cons (pv 1) pa_nil)) (pe_cvalK K (pe_globR (by rfl) T.g_Profile)) (nomark _)) (pss_never) pss_nil)
      (pss_cons (ps_for PassesOwn.never rfl (pi_enumT (by rfl) T.f_enumerate (pa_cons (pv 1) pa_nil)) (pg_tupK K 2 rfl (pgs_cons (pg_name (i := 2) sc_Profile___init__.nd rfl (by walk_at "loc")) (pgs_cons (pg_name (i := 3) sc_Profile___init__.nd rfl (by walk_at "loc")) pgs_nil)))
      (pss_one (ps_if (pt_not (pt_val (pe_callR (ok_is_integer T) (by walk_at "room") (by rfl) T.g_is_integer T.k_is_integer pass0 (pa_cons (pv 3) pa_nil)))) (pss_never) pss_nil)))
      (pss_one (ps_fld (pv 0) (pv 1) rfl)))), ?_⟩
  refine ⟨_, rfl, t, _, rfl, .inr (SqT.of ht), _, _, _, _, rfl, r1, c1, rfl, _, rfl, ?_⟩
  rw [hl]
  refine iteF ?_
  refine ⟨_, rfl, t, _, rfl, SqT.of ht, for_it walk_enumT (fun i σ H' => Same H H' ∧ ∃ x y, σ = [some (.ref a), some (.ref t), x, y]) ⟨Same.refl H, _, _, rfl⟩ (fun i σ H' _ q => q.1.tup (SqT.of ht)) ?_ ?_⟩
  · rintro i x σ H1 H2 hi ⟨s1, x1, y1, rfl⟩ y
    refine gpair y fun T0 c d ec ed nT eH => ?_
    have s2 : Same H H2 := by rw [eH]; exact s1.trans (Same.new nT)
    rw [List.getElem?_map] at ed
    cases e : ns[i]? with
    | none => rw [e] at ed; cases ed
    | some n =>
      rw [e] at ed
      cases ed
      exact ⟨_, rfl, _, rfl, Knd.int n, true, rfl, iteF ⟨s2, _, _, rfl⟩⟩
  · rintro σ H1 ⟨s1, x1, y1, rfl⟩
    exact ⟨_, rfl, _, rfl, a, _, dx, _, rfl, s1 _ _ ha, T.c_Profile, T.n_Profile_levels, (by show 0 < 1000; decide), k _ ((s1.x).step (SameX.upd a _ _)) upd_same⟩
abbrev N_desk_break : List Str := ["cards", "spot", "card"]
theorem sc_desk_break : FnScope N_desk_break ["cards"] (defScope s_desk_break) := ⟨rfl, rfl, rfl, by decide +kernel, rfl, by decide +kernel, by decide +kernel⟩
def sp_desk_break (K : PySem.W.Frag) : Sp := fun vs H Q _ => ∃ t us ps, vs = [.ref t] ∧ H t = some (.tup us) ∧ IsTks K H us ps ∧ ps.length ≤ 40 ∧ ∀ H', Same H H' → Q .non H'
theorem ok_desk_break (T : Txt K mg) : FnR P w K mg base CX0 1 (He.ga K "desk_break") (sp_desk_break K) := by
  obtain ⟨fd, F⟩ := T.d_desk_break
  refine plainR F sc_desk_break (fun _ _ _ _ _ _ us hl => match us, hl with | [_], _ => rfl) (fun vs H Q E h => ?_) (fun cdv A outer s H vs Q E hr h => ?_)
  · obtain ⟨t, us, ps, rfl, _⟩ := h
    rfl
  · obtain ⟨t, us, ps, rfl, ht, tk, hz, k⟩ := h
    obtain ⟨r1, tk1, c1⟩ := T.v_Desk_MAX_TICKETS
    have hl := tk.len
    refine ⟨_, (pss_cons (ps_if (pt_cmpR op_gt (pe_callB (call_lenK K) (by rfl) T.f_len boot_len (pa_cons (pv 0) pa_nil)) (pe_cvalK K (pe_globR (by rfl) T.g_Desk)) (nomark _)) (pss_one (ps_ret (pe_un un_neg pe_int))) pss_nil)
      (pss_cons (ps_for PassesOwn.never rfl (pi_enumT (by rfl) T.f_enumerate (pa_cons (pv 0) pa_nil)) (pg_tupK K 2 rfl (pgs_cons (pg_name (i := 1) sc_desk_break.nd rfl (by walk_at "loc")) (pgs_cons (pg_name (i := 2) sc_desk_break.nd rfl (by walk_at "loc")) pgs_nil)))
      (pss_one (ps_if (pt_not (pt_val (pe_callB (call_isiK' K) (by rfl) T.f_isinstance boot_isinstance (pa_cons (pv 2) (pa_cons (pe_globR (by rfl) T.g_Ticket) pa_nil))))) (pss_one (ps_ret (pv 1))) pss_nil)))
      (pss_one (ps_ret pe_non)))), ?_⟩
    refine ⟨_, rfl, t, us, rfl, .inr (SqT.of ht), _, _, _, _, rfl, r1, c1, _, _, rfl, rfl, _, rfl, ?_⟩
    rw [decide_eq_false (show ¬ (40 : Int) < (us.length : Int) by omega)]
    refine iteF ?_
    refine ⟨_, rfl, t, us, rfl, SqT.of ht, for_it walk_enumT (fun i σ H' => Same H H' ∧ ∃ a b, σ = [some (.ref t), a, b]) ⟨Same.refl H, _, _, rfl⟩ (fun i σ H' _ q => q.1.tup (SqT.of ht)) ?_ ?_⟩
    · rintro i x σ H1 H2 hi ⟨s1, a, b, rfl⟩ y
      refine gpair y fun T0 c d ec ed nT eH => ?_
      obtain ⟨p, ep, tp⟩ := tk.at_ ed
      have s2 : Same H H2 := by rw [eH]; exact s1.trans (Same.new nT)
      obtain ⟨a1, dx, rfl, ha⟩ := tp.s s2.s
      exact ⟨_, rfl, _, _, _, _, true, rfl, .own _, T.t_Ticket.of T.c_Ticket ha, T.kit_Ticket_Ticket, true, rfl, iteF ⟨s2, _, _, rfl⟩⟩
    · rintro σ H1 ⟨s1, _⟩
      exact k H1 s1

end
end K41

set_option maxHeartbeats 4000000
namespace K41
open PySem PySem.Spec PyProof.Rows L2 CT
local macro_rules | `(tactic| walk_at "room") => `(tactic| first | assumption | exact Room.mono (by assumption) (by decide))
local macro_rules | `(tactic| walk_at "room64") => `(tactic| exact Room.units (by assumption))
local macro_rules | `(tactic| walk_at "room65") => `(tactic| exact room65 (by assumption))
local macro_rules | `(tactic| walk_at "hu") => `(tactic| exact hu_of (by assumption))
local macro_rules | `(tactic| walk_at "loc") => `(tactic| first | exact Or.inl rfl | exact Or.inr rfl)
local macro_rules | `(tactic| walk_at "hp") => `(tactic| first
  | assumption
  | exact upd_same
  | (refine upd_get (by assumption) ?_; walk_at "hp")
  | (refine Same.get (by assumption) ?_; walk_at "hp")
  | (refine SameS.get (by assumption) (by first | trivial | exact ⟨rfl, rfl⟩) ?_; walk_at "hp"))
local macro_rules | `(tactic| walk_at "same") => `(tactic| first
  | assumption
  | exact Same.refl _
  | (refine Same.trans ?_ (Same.new (by assumption)); walk_at "same")
  | (refine Same.trans ?_ (by assumption); walk_at "same"))
section
variable {P : Program} {w : World} {K : PySem.W.Frag} {mg : Str → Option Value} {base : Heap}
theorem excess_len (ps : List PI2) : (excess ps).length = 30 := by
  unfold excess
  rw [List.length_map, List.length_range]
theorem isProf_x {K : PySem.W.Frag} {a C dx : Addr} {H H' : Hp} {v : V} {fs : List (Str × V)} {ns : List Int} (s : SameX a H H') (ha : H a = some (.ins C dx fs)) (hv : v ≠ .ref a) (h : IsProf K H v ns) : IsProf K H' v ns := by
  obtain ⟨b, dy, t, rfl, hb, ht⟩ := h
  exact ⟨b, dy, t, rfl, s _ _ hb (fun z => hv (by rw [z])), s _ _ ht (ne_of ht ha (by intro z; cases z))⟩
/-- Profile(*..) -/
theorem use_Prof {K : PySem.W.Frag} {H : Hp} {ns : List Int} {a dx : Addr} {Qd : Hp → Prop} {E : XK} (h1 : H a = none) (h2 : H dx = none) (h3 : dx ≠ a) (hz : ns.length = 30) (q : ∀ H', Same H H' → IsProf K H' (.ref a) ns → Qd H') :
    spStar 1 (sp_Profile_init K) (.ref a :: ns.map V.int) (upd (upd H dx (.own a)) a (.ins (He.ga K "Profile") dx [])) (fun v H2 => v = .non ∧ Qd H2) E := by
  refine spStar.mk (ws := [.ref a]) (by rw [List.length_map, hz]; decide) fun t H1 nt s1 ht _ => ?_
  refine ⟨a, dx, t, ns, rfl, s1 _ _ upd_same, ht, hz, fun H2 x r => ⟨rfl, q _ (made h1 h2 h3 ((s1.x).step x)) ⟨a, dx, t, rfl, r, x _ _ ht (ne_of ht (s1 _ _ upd_same) (by intro z; cases z))⟩⟩⟩
abbrev N_Desk___init__ : List Str := ["self", "tickets", "spot", "card", "numbers"]
theorem sc_Desk___init__ : FnScope N_Desk___init__ ["self", "tickets"] (defScope s_Desk___init__) := ⟨rfl, rfl, rfl, by decide +kernel, rfl, by decide +kernel, by decide +kernel⟩
def sp_Desk_init (K : PySem.W.Frag) : Sp := fun vs H Q _ => ∃ a dx t us ps, vs = [.ref a, .ref t] ∧ H a = some (.ins (He.ga K "Desk") dx []) ∧ H t = some (.tup us) ∧ IsTks K H us ps ∧ ps.length ≤ 40 ∧
  ∀ H' u, SameX a H H' → DeskAt K H' a ps t us u → Q .non H'
theorem ok_Desk___init__ (T : Txt K mg) : FnR P w K mg base CX0 5 (He.ma K (He.ga K "Desk") "__init__") (spStar 1 (sp_Desk_init K)) := by
  obtain ⟨fd, F⟩ := T.d_Desk___init__
  refine starR (ps := ["self"]) (pv := "tickets") F sc_Desk___init__ (fun _ _ _ _ _ _ => StX.bind_star1 (B := fun us => bindArgs _ ⟨us, []⟩) (fun _ => rfl) (fun _ _ _ => rfl)) (fun cdv A outer s H vs Q E hr h => ?_)
  obtain ⟨a, dx, t, us, ps, rfl, ha, ht, tk, hz, k⟩ := h
  have hlen := tk.len
  refine ⟨_, (pss_cons (ps_set (i := 2) sc_Desk___init__.nd rfl (by walk_at "loc") (pe_callR (ok_desk_break T) (by walk_at "room") (by rfl) T.g_desk_break T.k_desk_break pass0 (pa_cons (pv 1) pa_nil)))
      (pss_cons (ps_if (pt_cmpR op_notN (pv 2) pe_non (nomark _)) (pss_never) pss_nil)
      (pss_cons (ps_fld (pv 0) (pv 1) rfl)
      (pss_cons (ps_fld (pv 0) (pe_callTy (call_tuple_frzK K) (by rfl) T.f_tuple boot_tuple (pa_cons (pe_lc (own := [("card", 3)]) rfl sc_Desk___init__.nd (pi_tup (pv 1)) (blkOk_by (own := [("card", 3)]) (N := N_Desk___init__) (sc := defScope s_Desk___init__) (by decide +kernel)) (fun _ _ _ _ _ => (pg_name (i := 3) sc_Desk___init__.nd rfl (by walk_at "loc"))) (fun _ _ _ _ _ => pts_nil) (fun _ _ _ _ _ => (pe_tup (pa_cons (pe_fldK K (pv 3)) (pa_cons (pe_fldK K (pv 3)) pa_nil))))) pa_nil)) rfl)
      (pss_cons (ps_set (i := 4) sc_Desk___init__.nd rfl (by walk_at "loc") (pe_callR (ok_excess_numbers T) (by walk_at "room") (by rfl) T.g_excess_numbers T.k_excess_numbers pass0 (pa_cons (pe_fldK K (pv 0)) pa_nil)))
      (pss_one (ps_fld (pv 0) (pe_makeS1 T.mk_Profile (ok_Profile___init__ T) (by walk_at "room") (by rfl) T.g_Profile pass0 (pv 4)) rfl))))))), ?_⟩
  refine ⟨_, rfl, t, us, ps, rfl, ht, tk, hz, fun H1 s1 => ?_⟩
  refine ⟨_, rfl, rfl, _, rfl, iteNS rfl ?_⟩
  -- self.cards
  refine ⟨_, rfl, _, rfl, a, _, dx, _, rfl, s1 _ _ ha, T.c_Desk, T.n_Desk_cards, (by show 0 < 1000; decide), ?_⟩
  have x1 : SameX a H (upd H1 a (.ins (He.ga K "Desk") dx (putF "cards" (.ref t) []))) := (s1.x).step (SameX.upd a _ _)
  generalize e1 : upd H1 a (.ins (He.ga K "Desk") dx (putF "cards" (.ref t) [])) = H2 at x1
  have a2 : H2 a = some (.ins (He.ga K "Desk") dx (putF "cards" (.ref t) [])) := by rw [← e1]; exact upd_same
  have t2 : H2 t = some (.tup us) := x1 _ _ ht (ne_of ht ha (by intro z; cases z))
  have tk2 := isTks_x x1 ha tk
  -- self.pairs
  refine ⟨_, rfl, t, rfl, ⟨us, SqT.of t2⟩, fun D hD => lc_gen wSame walk_tup hD (by omega) (fun _ => true) (fun i y H => Dp K H y (pr (ps.getD i (0, 0)))) (fun i y H H' s d => d.same s) (fun _ _ _ _ => trivial) (fun H s => s.tup (SqT.of t2)) ?_ ?_⟩
  · rintro acc i x H3 H4 C C0 hi s3 hDl ⟨rfl, ex⟩ kC kC0
    obtain ⟨p, ep, tp⟩ := tk2.at_ ex
    obtain ⟨b, dy, rfl, hb⟩ := tp.s s3.s
    refine ⟨rfl, lc_yes ?_⟩
    refine ⟨_, rfl, _, _, dy, _, _, rfl, hb, T.c_Ticket, T.n_Ticket_foot, rfl, _, rfl, _, _, dy, _, _, rfl, hb, T.c_Ticket, T.n_Ticket_head, rfl, by show 2 ≤ sizeLine; decide, fun q nq => ?_⟩
    refine kC _ _ (Same.new nq) rfl ?_
    rw [getD_of ep]
    exact Dp.mkprU (upd_get nq hDl) upd_same
  · intro H3 ys s3 hDl got
    have dys : DpAll K H3 ys (prs ps) := by
      have z := got.data
      have e : (((List.range us.length).filter fun _ => true).map fun i => pr (ps.getD i (0, 0))) = prs ps := by
        rw [hlen]
        have y := congrArg (List.map pr) (range_all ps (0, 0))
        rw [List.map_map] at y
        exact y
      rw [e] at z
      exact z
    refine ⟨D, ys, rfl, SqL.of hDl, fun u ob nu hob => ?_⟩
    have s4 : Same H2 (upd H3 u (.frz ob (.tup ys))) := s3.trans (Same.new nu)
    have d4 : DpAll K (upd H3 u (.frz ob (.tup ys))) ys (prs ps) := Dp.sameAll (Same.new nu) _ dys
    generalize e4 : upd H3 u (.frz ob (.tup ys)) = H4 at s4 d4
    have u4 : H4 u = some (.frz ob (.tup ys)) := by rw [← e4]; exact upd_same
    refine ⟨_, rfl, a, _, dx, _, rfl, s4 _ _ a2, T.c_Desk, T.n_Desk_pairs, (by show 1 < 1000; decide), ?_⟩
    have f5 : putF "pairs" (.ref u) (putF "cards" (.ref t) []) = ([("cards", V.ref t), ("pairs", V.ref u)] : List (Str × V)) := rfl
    rw [f5]
    have x5 : SameX a H2 (upd H4 a (.ins (He.ga K "Desk") dx ([("cards", V.ref t), ("pairs", V.ref u)] : List (Str × V)))) := (s4.x).step (SameX.upd a _ _)
    have ya : u ≠ a := ne_of u4 (s4 _ _ a2) (by intro z; cases z)
    have d5 : DpAll K (upd H4 a (.ins (He.ga K "Desk") dx ([("cards", V.ref t), ("pairs", V.ref u)] : List (Str × V)))) ys (prs ps) := prs_upd (s4 _ _ a2) d4
    generalize e5 : upd H4 a (.ins (He.ga K "Desk") dx ([("cards", V.ref t), ("pairs", V.ref u)] : List (Str × V))) = H5 at x5 d5
    have a5 : H5 a = some (.ins (He.ga K "Desk") dx ([("cards", V.ref t), ("pairs", V.ref u)] : List (Str × V))) := by rw [← e5]; exact upd_same
    have u5 : H5 u = some (.frz ob (.tup ys)) := by rw [← e5, upd_ne ya]; exact u4
    -- numbers
    refine ⟨_, rfl, _, _, dx, _, _, rfl, a5, T.c_Desk, T.n_Desk_pairs, rfl, u, ys, ps, rfl, SqT.frz u5, d5, by omega, fun r H6 s6 hr6 => ?_⟩
    -- self.profile
    refine ⟨_, rfl, r, _, rfl, .inr (SqL.of hr6), fun f fx f1 f2 f3 => ?_⟩
    refine use_Prof f1 f2 f3 (excess_len ps) fun H7 s7 pf => ?_
    have s9 : Same H5 H7 := s6.trans s7
    refine ⟨_, rfl, a, _, dx, _, rfl, s9 _ _ a5, T.c_Desk, T.n_Desk_profile, (by show 2 < 1000; decide), ?_⟩
    have f6 : putF "profile" (.ref f) ([("cards", V.ref t), ("pairs", V.ref u)] : List (Str × V)) = fDesk t u (.ref f) := rfl
    rw [f6]
    have xN : SameX a H (upd H7 a (.ins (He.ga K "Desk") dx (fDesk t u (.ref f)))) := ((x1.step x5).step s9.x).step (SameX.upd a _ _)
    have fa : f ≠ a := fun z => by
      rw [z] at f1
      rw [s6 _ _ a5] at f1
      cases f1
    refine k _ u xN ⟨⟨dx, _, upd_same, isProf_x (SameX.upd a _ _) (s9 _ _ a5) (fun z => fa (V.ref.inj z)) pf⟩, xN _ _ ht (ne_of ht ha (by intro z; cases z)), isTks_x xN ha tk, ys, ob, ?_, hob, ?_⟩
    · rw [upd_ne ya]
      exact s9 _ _ u5
    · exact prs_upd (s9 _ _ a5) (Dp.sameAll s9 _ d5)

end
end K41

set_option maxHeartbeats 4000000
namespace K41
open PySem PySem.Spec PyProof.Rows L2 CT
local macro_rules | `(tactic| walk_at "room") => `(tactic| first | assumption | exact Room.mono (by assumption) (by decide))
local macro_rules | `(tactic| walk_at "room64") => `(tactic| exact Room.units (by assumption))
local macro_rules | `(tactic| walk_at "room65") => `(tactic| exact room65 (by assumption))
local macro_rules | `(tactic| walk_at "hu") => `(tactic| exact hu_of (by assumption))
local macro_rules | `(tactic| walk_at "loc") => `(tactic| first | exact Or.inl rfl | exact Or.inr rfl)
local macro_rules | `(tactic| walk_at "hp") => `(tactic| first
  | assumption
  | exact upd_same
  | (refine upd_get (by assumption) ?_; walk_at "hp")
  | (refine Same.get (by assumption) ?_; walk_at "hp")
  | (refine SameS.get (by assumption) (by first | trivial | exact ⟨rfl, rfl⟩) ?_; walk_at "hp"))
local macro_rules | `(tactic| walk_at "same") => `(tactic| first
  | assumption
  | exact Same.refl _
  | (refine Same.trans ?_ (Same.new (by assumption)); walk_at "same")
  | (refine Same.trans ?_ (by assumption); walk_at "same"))
section
variable {P : Program} {w : World} {K : PySem.W.Frag} {mg : Str → Option Value} {base : Heap}
/-- Desk(.., *..) -/
theorem use_Desk {H : Hp} {us : List V} {ps : List PI2} {a dx : Addr} {Qd : Hp → Prop} {E : XK} (h1 : H a = none) (h2 : H dx = none) (h3 : dx ≠ a) (tk : IsTks K H us ps) (hz : ps.length ≤ 40) (q : ∀ H', Same H H' → IsDesk K H' (.ref a) ps → Qd H') :
    spStar 1 (sp_Desk_init K) (.ref a :: us) (upd (upd H dx (.own a)) a (.ins (He.ga K "Desk") dx [])) (fun v H2 => v = .non ∧ Qd H2) E := by
  have hl := tk.len
  refine spStar.mk (ws := [.ref a]) (by omega) fun t H1 nt s1 ht _ => ?_
  refine ⟨a, dx, t, us, ps, rfl, s1 _ _ upd_same, ht, tk.s ((made0 h1 h2).trans s1).s, hz, fun H2 u x r => ⟨rfl, q _ ?_ ⟨a, t, us, u, rfl, r⟩⟩⟩
  exact made h1 h2 h3 ((s1.x).step x)
abbrev N_Desk___len__ : List Str := ["self"]
theorem sc_Desk___len__ : FnScope N_Desk___len__ ["self"] (defScope s_Desk___len__) := ⟨rfl, rfl, rfl, by decide +kernel, rfl, by decide +kernel, by decide +kernel⟩
def sp_Desk_len (K : PySem.W.Frag) : Sp := fun vs H Q _ => ∃ v ps, vs = [v] ∧ IsDesk K H v ps ∧ Q (.int (ps.length : Nat)) H
theorem ok_Desk___len__ (T : Txt K mg) : FnR P w K mg base CX0 1 (He.ma K (He.ga K "Desk") "__len__") (sp_Desk_len K) := by
  obtain ⟨fd, F⟩ := T.d_Desk___len__
  refine plainR F sc_Desk___len__ (fun _ _ _ _ _ _ us hl => match us, hl with | [_], _ => rfl) (fun vs H Q E h => ?_) (fun cdv A outer s H vs Q E hr h => ?_)
  · obtain ⟨v, ps, rfl, _⟩ := h
    rfl
  · obtain ⟨v, ps, rfl, ⟨a, t, us, u, rfl, ⟨dx, f, ha, _⟩, ht, tk, _⟩, k⟩ := h
    refine ⟨_, (pss_one (ps_ret (pe_callB (call_lenK K) (by rfl) T.f_len boot_len (pa_cons (pe_fldK K (pv 0)) pa_nil)))), ?_⟩
    refine ⟨_, rfl, _, _, dx, _, _, rfl, ha, T.c_Desk, T.n_Desk_cards, rfl, t, us, rfl, .inr (SqT.of ht), ?_⟩
    rw [tk.len]
    exact k
abbrev N_Desk___add__ : List Str := ["self", "other"]
theorem sc_Desk___add__ : FnScope N_Desk___add__ ["self", "other"] (defScope s_Desk___add__) := ⟨rfl, rfl, rfl, by decide +kernel, rfl, by decide +kernel, by decide +kernel⟩
def sp_Desk_add (K : PySem.W.Frag) : Sp := fun vs H Q _ => ∃ v u ps qs, vs = [v, u] ∧ IsDesk K H v ps ∧ ((∃ q, qs = [q] ∧ IsTk K H u q) ∨ IsDesk K H u qs) ∧ (ps ++ qs).length ≤ 40 ∧ ∀ r H', Same H H' → IsDesk K H' r (ps ++ qs) → Q r H'
theorem ok_Desk___add__ (T : Txt K mg) : FnR P w K mg base CX0 7 (He.ma K (He.ga K "Desk") "__add__") (sp_Desk_add K) := by
  obtain ⟨fd, F⟩ := T.d_Desk___add__
  refine plainR F sc_Desk___add__ (fun _ _ _ _ _ _ us hl => match us, hl with | [_, _], _ => rfl) (fun vs H Q E h => ?_) (fun cdv A outer s H vs Q E hr h => ?_)
  · obtain ⟨v, u, ps, qs, rfl, _⟩ := h
    rfl
  · obtain ⟨v, u, ps, qs, rfl, ⟨a, t, us, z, rfl, ⟨dx, f, ha, _⟩, ht, tk, _⟩, hq, hl, k⟩ := h
    refine ⟨_, (pss_cons (ps_if (pt_val (pe_callB (call_isiK' K) (by rfl) T.f_isinstance boot_isinstance (pa_cons (pv 1) (pa_cons (pe_globR (by rfl) T.g_Ticket) pa_nil)))) (pss_one (ps_ret (pe_makeS2 T.mk_Desk (ok_Desk___init__ T) (by walk_at "room") (by rfl) T.g_Desk pass0 (pa_starK K (pe_fldK K (pv 0)) (pa_cons (pv 1) pa_nil))))) pss_nil)
      (pss_cons (ps_if (pt_val (pe_callB (call_isiK' K) (by rfl) T.f_isinstance boot_isinstance (pa_cons (pv 1) (pa_cons (pe_globR (by rfl) T.g_Desk) pa_nil)))) (pss_one (ps_ret (pe_makeS2 T.mk_Desk (ok_Desk___init__ T) (by walk_at "room") (by rfl) T.g_Desk pass0 (pa_starK K (pe_fldK K (pv 0)) (pa_starK K (pe_fldK K (pv 1)) pa_nil))))) pss_nil)
      (pss_one ps_never))), ?_⟩
    rcases hq with ⟨q, rfl, tq⟩ | ⟨b, t2, us2, z2, rfl, ⟨dy, f2, hb, _⟩, ht2, tk2, _⟩
    · obtain ⟨b, dy, rfl, hb⟩ := id tq
      refine ⟨_, rfl, _, _, _, _, true, rfl, .own _, T.t_Ticket.of T.c_Ticket hb, T.kit_Ticket_Ticket, true, rfl, iteT ?_⟩
      refine ⟨_, rfl, _, _, dx, _, _, rfl, ha, T.c_Desk, T.n_Desk_cards, rfl, t, us, rfl, .inl (SqT.of ht), _, rfl, fun r rx h1 h2 h3 => ?_⟩
      have tk3 := IsTks.append tk tq.one
      exact use_Desk h1 h2 h3 tk3 hl fun H' s' r' => k _ _ s' r'
    · refine ⟨_, rfl, _, _, _, _, false, rfl, .own _, T.t_Desk.of T.c_Desk hb, T.kit_Desk_Ticket, false, rfl, iteF ?_⟩
      refine ⟨_, rfl, _, _, _, _, true, rfl, .own _, T.t_Desk.of T.c_Desk hb, T.kit_Desk_Desk, true, rfl, iteT ?_⟩
      refine ⟨_, rfl, _, _, dx, _, _, rfl, ha, T.c_Desk, T.n_Desk_cards, rfl, t, us, rfl, .inl (SqT.of ht), _, rfl, _, _, dy, _, _, rfl, hb, T.c_Desk, T.n_Desk_cards, rfl, t2, us2, rfl, .inl (SqT.of ht2), fun r rx h1 h2 h3 => ?_⟩
      have tk3 := IsTks.append tk tk2
      rw [List.append_nil]
      exact use_Desk h1 h2 h3 tk3 hl fun H' s' r' => k _ _ s' r'

end
end K41

set_option maxHeartbeats 4000000
namespace K41
open PySem PySem.Spec PyProof.Rows L2 CT
local macro_rules | `(tactic| walk_at "room") => `(tactic| first | assumption | exact Room.mono (by assumption) (by decide))
local macro_rules | `(tactic| walk_at "room64") => `(tactic| exact Room.units (by assumption))
local macro_rules | `(tactic| walk_at "room65") => `(tactic| exact room65 (by assumption))
local macro_rules | `(tactic| walk_at "hu") => `(tactic| exact hu_of (by assumption))
local macro_rules | `(tactic| walk_at "loc") => `(tactic| first | exact Or.inl rfl | exact Or.inr rfl)
local macro_rules | `(tactic| walk_at "hp") => `(tactic| first
  | assumption
  | exact upd_same
  | (refine upd_get (by assumption) ?_; walk_at "hp")
  | (refine Same.get (by assumption) ?_; walk_at "hp")
  | (refine SameS.get (by assumption) (by first | trivial | exact ⟨rfl, rfl⟩) ?_; walk_at "hp"))
local macro_rules | `(tactic| walk_at "same") => `(tactic| first
  | assumption
  | exact Same.refl _
  | (refine Same.trans ?_ (Same.new (by assumption)); walk_at "same")
  | (refine Same.trans ?_ (by assumption); walk_at "same"))
section
variable {P : Program} {w : World} {K : PySem.W.Frag} {mg : Str → Option Value} {base : Heap}
/-! ### plans -/
/-- heaps without the objects at X -/
def hid (X : List Addr) (H : Hp) : Hp := fun b => if b ∈ X then none else H b
theorem hid_nil (H : Hp) : hid [] H = H := by
  funext b
  simp [hid]
theorem hid_le {X : List Addr} {H : Hp} : Same (hid X H) H := fun b o e => by
  unfold hid at e
  split at e
  · cases e
  · exact e
theorem Same.hid {X : List Addr} {H H' : Hp} (s : Same H H') : Same (hid X H) (hid X H') := fun b o e => by
  unfold K41.hid at e ⊢
  split at e
  · cases e
  · rename_i h
    rw [if_neg h]
    exact s b o e
theorem hid_upd {X : List Addr} {H : Hp} {D : Addr} {o : HO} (h : D ∈ X) : hid X (upd H D o) = hid X H := by
  funext b
  unfold hid
  by_cases hb : b ∈ X
  · rw [if_pos hb, if_pos hb]
  · rw [if_neg hb, if_neg hb, upd_ne (fun z => hb (by rw [z]; exact h))]
theorem hid_sub {X Y : List Addr} {H : Hp} (h : ∀ b ∈ X, b ∈ Y) : Same (hid Y H) (hid X H) := fun b o e => by
  unfold hid at e ⊢
  by_cases hb : b ∈ Y
  · rw [if_pos hb] at e
    cases e
  · rw [if_neg (fun z => hb (h b z))]
    rw [if_neg hb] at e
    exact e
/-- one more is hidden, which was not there -/
theorem hid_new {X : List Addr} {H H' : Hp} {D : Addr} (s : Same H H') (h : H D = none) : Same (hid X H) (hid (D :: X) H') := fun b o e => by
  have e2 := hid_le _ _ e
  unfold hid at e ⊢
  by_cases hb : b ∈ X
  · rw [if_pos hb] at e
    cases e
  · have hne : b ≠ D := ne_of_none e2 h
    have hm : ¬ b ∈ D :: X := fun z => by
      rcases List.mem_cons.mp z with z | z
      · exact hne z
      · exact hb z
    rw [if_neg hm]
    exact s _ _ e2
theorem hid_get {X : List Addr} {H : Hp} {b : Addr} {o : HO} (h : H b = some o) (n : b ∉ X) : hid X H b = some o := by
  unfold hid
  rw [if_neg n]
  exact h
/-- pairs stay when a list changes -/
theorem prs_hid {K : PySem.W.Frag} {H : Hp} {D : Addr} {xs : List V} : ∀ {ps : List PI2} {ws : List V}, H D = some (.lst xs) → DpAll K H ws (prs ps) → DpAll K (hid [D] H) ws (prs ps)
  | [], _, _, h => by cases h; exact .nil
  | p :: ps, _, ha, h => by
    cases h with
    | cons h1 h2 =>
      refine .cons ?_ (prs_hid ha h2)
      cases h1 with
      | @tup b zs _ h3 h4 =>
        have nb : ∀ o, H b = some o → (∀ us, o ≠ .lst us) → b ∉ [D] := fun o e n z => by
          rw [List.mem_singleton.mp z, ha] at e
          exact n _ (Option.some.inj e).symm
        have h5 : SqT K (hid [D] H) b zs := by
          rcases h3 with (h3 | ⟨u, h3⟩) | h3
          · exact .inl (.inl (hid_get h3 (nb _ h3 (fun _ z => nomatch z))))
          · exact .inl (.inr ⟨u, hid_get h3 (nb _ h3 (fun _ z => nomatch z))⟩)
          · exact .inr h3
        refine .tup h5 ?_
        cases h4 with
        | cons a1 b1 =>
          cases a1
          cases b1 with
          | cons c1 d1 =>
            cases c1
            cases d1
            exact .cons (.int _) (.cons (.int _) .nil)
theorem prs_set {K : PySem.W.Frag} {H : Hp} {D : Addr} {xs : List V} {o : HO} {ps : List PI2} {ws : List V} (ha : H D = some (.lst xs)) (h : DpAll K H ws (prs ps)) : DpAll K (upd H D o) ws (prs ps) := by
  have z := prs_hid ha h
  rw [← hid_upd (o := o) (List.mem_singleton.mpr rfl)] at z
  exact Dp.sameAll hid_le _ z
theorem prs_append (ps qs : List PI2) : prs (ps ++ qs) = prs ps ++ prs qs := List.map_append
theorem countP_prs (ps : List PI2) (p : PI2) : (prs ps).countP (fun z => PyData.eqv z (pr p)) = ps.count p := by
  unfold prs
  rw [List.countP_map, List.count]
  refine List.countP_congr fun q _ => ?_
  show PyData.eqv (pr q) (pr p) = true ↔ (q == p) = true
  rw [eqv_pr, decide_eq_true_iff, beq_iff_eq]
def IsRows (K : PySem.W.Frag) (H : Hp) (us : List V) (rs : List (List PI2)) : Prop := Paired (IsRow K H) us rs
theorem IsRows.s {K : PySem.W.Frag} {H H' : Hp} {us : List V} {rs : List (List PI2)} (s : SameS H H') (h : IsRows K H us rs) : IsRows K H' us rs := Paired.mapP h fun _ _ z => z.s s
theorem IsRows.len {K : PySem.W.Frag} {H : Hp} {us : List V} {rs : List (List PI2)} (h : IsRows K H us rs) : us.length = rs.length := Paired.length h
theorem IsRows.at_ {K : PySem.W.Frag} {H : Hp} : ∀ {us : List V} {rs : List (List PI2)} {i : Nat} {v : V}, IsRows K H us rs → us[i]? = some v → ∃ r, rs[i]? = some r ∧ IsRow K H v r
  | _, _, _, _, .nil, e => by simp at e
  | _, _, 0, _, .cons r _, e => by
    cases (Option.some.inj e)
    exact ⟨_, rfl, r⟩
  | _, _, i + 1, v, .cons _ t, e => IsRows.at_ (i := i) t e
/-- what makes a plan -/
def planOk (ps : List PI2) (rs : List (List PI2)) : Prop := (∀ r ∈ rs, r ≠ []) ∧ ∀ p ∈ rs.flatten ++ ps, rs.flatten.count p = ps.count p
theorem flat_take {α : Type} {rs : List (List α)} {i : Nat} {r : List α} (h : rs[i]? = some r) : (rs.take (i + 1)).flatten = (rs.take i).flatten ++ r := by
  rw [List.take_add_one, h, List.flatten_append]
  show _ ++ List.flatten [r] = _
  rw [List.flatten_singleton]
theorem flat_len {α : Type} (rs : List (List α)) (i : Nat) : (rs.take i).flatten.length ≤ rs.flatten.length := by
  have e : rs = rs.take i ++ rs.drop i := (List.take_append_drop i rs).symm
  have z : rs.flatten.length = (rs.take i).flatten.length + (rs.drop i).flatten.length := by
    rw [← List.length_append, ← List.flatten_append, List.take_append_drop]
  omega
abbrev N_plan_problem : List Str := ["desk", "rows", "pairs", "spot", "row", "pair"]
theorem sc_plan_problem : FnScope N_plan_problem ["desk", "rows"] (defScope s_plan_problem) := ⟨rfl, rfl, rfl, by decide +kernel, rfl, by decide +kernel, by decide +kernel⟩
def sp_plan_problem (K : PySem.W.Frag) : Sp := fun vs H Q _ => ∃ d t us ps rs, vs = [d, .ref t] ∧ IsDesk K H d ps ∧ H t = some (.tup us) ∧ IsRows K H us rs ∧ ps.length ≤ 40 ∧ us.length ≤ 1000 ∧ rs.flatten.length ≤ 1000 ∧
  ∀ r H', Same H H' → (planOk ps rs → r = .non) → (¬ planOk ps rs → ∃ z, r = .ref z) → Q r H'
theorem ok_plan_problem (T : Txt K mg) : FnR P w K mg base CX0 3 (He.ga K "plan_problem") (sp_plan_problem K) := by
  obtain ⟨fd, F⟩ := T.d_plan_problem
  refine plainR F sc_plan_problem (fun _ _ _ _ _ _ us hl => match us, hl with | [_, _], _ => rfl) (fun vs H Q E h => ?_) (fun cdv A outer s H vs Q E hr h => ?_)
  · obtain ⟨d, t, us, ps, rs, rfl, _⟩ := h
    rfl
  · obtain ⟨d, t, us, ps, rs, rfl, ⟨da, dt, dus, du, rfl, ⟨ddx, df, hda, hdf⟩, hdc, dtk, dws, dob, hdu, hpt, ddp⟩, ht, hrs, hps, hus, hfl, k⟩ := h
    have hlen := hrs.len
    refine ⟨_, (pss_cons (ps_set (i := 2) sc_plan_problem.nd rfl (by walk_at "loc") (pe_lst pa_nil))
      (pss_cons (ps_for PassesOwn.never rfl (pi_enumT (by rfl) T.f_enumerate (pa_cons (pv 1) pa_nil)) (pg_tupK K 2 rfl (pgs_cons (pg_name (i := 3) sc_plan_problem.nd rfl (by walk_at "loc")) (pgs_cons (pg_name (i := 4) sc_plan_problem.nd rfl (by walk_at "loc")) pgs_nil)))
      (pss_cons (ps_if (PW.pt (pw_or (pt_not (pt_val (pe_callB (call_isiK' K) (by rfl) T.f_isinstance boot_isinstance (pa_cons (pv 4) (pa_cons (pe_globR (by rfl) T.g_Row) pa_nil))))) (pw_or1 (pt_cmpR op_eq (pe_callB (call_lenOwn T.o_Row_len.at_ T.o_Row_len.fn (ok_Row___len__ T) (by walk_at "room") pass0) (by rfl) T.f_len boot_len (pa_cons (pv 4) pa_nil)) pe_int (nomark _))))) (pss_one (ps_ret (pe_tup (pa_cons pe_str (pa_cons (pv 3) pa_nil))))) pss_nil)
      (pss_one (ps_expr (pe_bmK K PySem.F.plainAttrs_list PySem.F.slot_list_extend PySem.F.type_list_extend (mt_extendTK K) (pv 2) (pa_cons (pe_fldK K (pv 4)) pa_nil))))))
      (pss_cons (ps_for PassesOwn.never rfl (pi_list (pe_op op_cat (pv 2) (pe_callTy (call_list_ofK K) (by rfl) T.f_list boot_list (pa_cons (pe_fldK K (pv 0)) pa_nil)))) (pg_name (i := 5) sc_plan_problem.nd rfl (by walk_at "loc"))
      (pss_one (ps_if (pt_cmpR op_ne (pe_bmK K PySem.F.plainAttrs_list PySem.F.slot_list_count PySem.F.type_list_count (mt_countDK K (by walk_at "room65")) (pv 2) (pa_cons (pv 5) pa_nil)) (pe_tm PySem.F.slot_tuple_count PySem.F.type_tuple_count (mt_tcountDK K (by walk_at "room65")) (pe_fldK K (pv 0)) (pa_cons (pv 5) pa_nil)) (nomark _)) (pss_one (ps_ret (pe_tup (pa_cons pe_str (pa_cons pe_non pa_nil))))) pss_nil)))
      (pss_one (ps_ret pe_non))))), ?_⟩
    refine ⟨Nat.zero_le _, fun D nD => ?_⟩
    refine ⟨_, rfl, t, us, rfl, SqT.of (upd_get nD ht), for_it walk_enumT (fun i σ H' => Same H H' ∧ (∀ r ∈ rs.take i, r ≠ []) ∧ (∃ ws, H' D = some (.lst ws) ∧ DpAll K H' ws (prs (rs.take i).flatten)) ∧ ∃ a b c, σ = [some (.ref da), some (.ref t), some (.ref D), a, b, c]) ⟨Same.new nD, (fun _ m => nomatch m), ⟨[], upd_same, .nil⟩, _, _, _, rfl⟩ (fun i σ H' _ q => q.1.tup (SqT.of ht)) ?_ ?_⟩
    · rintro i x σ H1 H2 hi ⟨s1, hne, ⟨ws, hD1, dws1⟩, a, b, c, rfl⟩ y
      refine gpair y fun T0 c1 d1 ec ed nT eH => ?_
      cases ec
      obtain ⟨r, er, hr1⟩ := hrs.at_ ed
      have s2 : Same H H2 := by rw [eH]; exact s1.trans (Same.new nT)
      have s12 : Same H1 H2 := by rw [eH]; exact Same.new nT
      obtain ⟨ra, rt, rus, ru, rfl, ⟨rdx, hra⟩, hrt, rtk, rws, hru, rdp⟩ := id (hr1.s s2.s)
      refine ⟨_, rfl, _, _, _, _, true, rfl, .own _, T.t_Row.of T.c_Row hra, T.kit_Row_Row, true, rfl, iteF ?_⟩
      refine ⟨_, rfl, ra, rdx, _, rfl, hra, _, r, rfl, hr1.s s2.s, r.length, rfl, ?_, rfl, _, rfl, iteB (fun e => ?_) (fun e => ?_)⟩
      · have z : r.length ≤ rs.flatten.length := (List.sublist_flatten_of_mem (List.mem_of_getElem? er)).length_le
        exact Nat.lt_of_le_of_lt (Nat.le_trans z hfl) (by decide)
      · have z : r = [] := by
          cases r with
          | nil => rfl
          | cons p q => cases e
        refine ⟨_, rfl, by show 2 ≤ sizeLine; decide, fun q nq => k _ _ (s2.trans (Same.new nq)) (fun pl => absurd z (pl.1 r (List.mem_of_getElem? er))) fun _ => ⟨q, rfl⟩⟩
      · have hD2 := s12 _ _ hD1
        have lw : ws.length ≤ 1000 := by
          rw [Prs.len dws1]
          exact Nat.le_trans (flat_len rs i) hfl
        have lr : rws.length ≤ 1000 := by
          rw [Prs.len rdp]
          exact Nat.le_trans (List.sublist_flatten_of_mem (List.mem_of_getElem? er)).length_le hfl
        refine ⟨_, rfl, .inl ⟨rfl, _, SqL.of hD2⟩, _, rfl, _, _, rdx, _, _, rfl, hra, T.c_Row, T.n_Row_pairs, rfl, D, ru, ws, rws, rfl, rfl, hD2, SqT.of hru, Nat.le_trans (by omega : ws.length + rws.length ≤ 2000) (by decide), Same.put s2 nD, ?_, ⟨_, upd_same, ?_⟩, _, _, _, rfl⟩
        · intro q m
          rw [List.take_add_one, er] at m
          rcases List.mem_append.mp m with m | m
          · exact hne q m
          · rw [List.mem_singleton.mp m]
            intro z
            rw [z] at e
            cases e
        · rw [flat_take er, prs_append]
          exact (prs_set hD2 (Dp.sameAll s12 _ dws1)).append (prs_set hD2 rdp)
    · rintro σ H1 ⟨s1, hne, ⟨ws, hD1, dws1⟩, a, b, c, rfl⟩
      rw [hlen, List.take_length] at hne dws1
      have hda1 := s1 _ _ hda
      have hdu1 := s1 _ _ hdu
      refine ⟨_, rfl, _, rfl, _, _, ddx, _, _, rfl, hda1, T.c_Desk, T.n_Desk_pairs, rfl, du, dws, rfl, .inr (SqT.frz hdu1), fun l nl => ?_⟩
      refine ⟨D, l, ws, dws, rfl, rfl, upd_get nl hD1, upd_same, Nat.le_trans (?_ : ws.length + dws.length ≤ 2000) (by decide), fun z nz => ?_⟩
      · have z1 := Prs.len dws1
        have z2 := Prs.len ddp
        omega
      have s3 : Same H1 (upd (upd H1 l (.lst dws)) z (.lst (ws ++ dws))) := (Same.new nl).trans (Same.new nz)
      generalize eH3 : upd (upd H1 l (.lst dws)) z (.lst (ws ++ dws)) = H3 at s3
      have hz3 : H3 z = some (.lst (ws ++ dws)) := by rw [← eH3]; exact upd_same
      have s03 := s1.trans s3
      have dall : DpAll K H3 (ws ++ dws) (prs (rs.flatten ++ ps)) := by
        rw [prs_append]
        exact (Dp.sameAll s3 _ dws1).append (Dp.sameAll s03 _ ddp)
      refine ⟨z, rfl, ⟨_, SqL.of hz3⟩, for_it walk_list (fun i σ H' => H' = H3 ∧ (∀ p ∈ (rs.flatten ++ ps).take i, rs.flatten.count p = ps.count p) ∧ ∃ a b c, σ = [some (.ref da), some (.ref t), some (.ref D), a, b, c]) ⟨rfl, (fun _ m => nomatch m), _, _, _, rfl⟩ (fun i σ H' _ q => by rw [q.1]; exact SqL.of hz3) ?_ ?_⟩
      · rintro i x σ H4 H5 hi ⟨rfl, hcn, a, b, c, rfl⟩ ⟨rfl, ex⟩
        obtain ⟨p, ep, hp⟩ := Prs.of_at dall ex
        refine ⟨_, rfl, .inl ⟨rfl, _, SqL.of (s3 _ _ hD1)⟩, _, rfl, D, x, pr p, prs rs.flatten, rfl, rfl, .lst (SqL.of (s3 _ _ hD1)) (Dp.sameAll s3 _ dws1), hp, shaped_lprs _, shaped_pr _, ?_⟩
        refine ⟨_, rfl, _, _, ddx, _, _, rfl, s03 _ _ hda, T.c_Desk, T.n_Desk_pairs, rfl, ⟨du, dob, _, rfl, s03 _ _ hdu, hpt⟩, _, rfl, du, x, pr p, prs ps, rfl, rfl, .tup (SqT.frz (s03 _ _ hdu)) (Dp.sameAll s03 _ ddp), hp, shaped_lprs _, shaped_pr _, ?_⟩
        rw [countP_prs, countP_prs]
        refine ⟨rfl, _, rfl, iteB (fun e => ?_) (fun e => ?_)⟩
        · have hne2 : rs.flatten.count p ≠ ps.count p := fun z => by
            rw [z] at e
            simp at e
          refine ⟨by show 2 ≤ sizeLine; decide, fun q nq => k _ _ (s03.trans (Same.new nq)) (fun pl => absurd (pl.2 p (List.mem_of_getElem? ep)) hne2) fun _ => ⟨q, rfl⟩⟩
        · refine ⟨rfl, fun q m => ?_, _, _, _, rfl⟩
          rw [List.take_add_one, ep] at m
          rcases List.mem_append.mp m with m | m
          · exact hcn q m
          · rw [List.mem_singleton.mp m]
            have e2 : decide (V.int (rs.flatten.count p : Nat) = V.int (ps.count p : Nat)) = true := by
              cases hh : decide (V.int (rs.flatten.count p : Nat) = V.int (ps.count p : Nat)) with
              | true => rfl
              | false => rw [hh] at e; cases e
            have e3 := V.int.inj (of_decide_eq_true e2)
            omega
      · rintro σ H4 ⟨rfl, hcn, a, b, c, rfl⟩
        rw [show (ws ++ dws).length = (rs.flatten ++ ps).length from Prs.len dall, List.take_length] at hcn
        exact k _ _ s03 (fun _ => rfl) fun n => absurd ⟨hne, hcn⟩ n

end
end K41

set_option maxHeartbeats 4000000
namespace K41
open PySem PySem.Spec PyProof.Rows L2 CT
local macro_rules | `(tactic| walk_at "room") => `(tactic| first | assumption | exact Room.mono (by assumption) (by decide))
local macro_rules | `(tactic| walk_at "room64") => `(tactic| exact Room.units (by assumption))
local macro_rules | `(tactic| walk_at "room65") => `(tactic| exact room65 (by assumption))
local macro_rules | `(tactic| walk_at "hu") => `(tactic| exact hu_of (by assumption))
local macro_rules | `(tactic| walk_at "loc") => `(tactic| first | exact Or.inl rfl | exact Or.inr rfl)
local macro_rules | `(tactic| walk_at "hp") => `(tactic| first
  | assumption
  | exact upd_same
  | (refine upd_get (by assumption) ?_; walk_at "hp")
  | (refine Same.get (by assumption) ?_; walk_at "hp")
  | (refine SameS.get (by assumption) (by first | trivial | exact ⟨rfl, rfl⟩) ?_; walk_at "hp"))
local macro_rules | `(tactic| walk_at "same") => `(tactic| first
  | assumption
  | exact Same.refl _
  | (refine Same.trans ?_ (Same.new (by assumption)); walk_at "same")
  | (refine Same.trans ?_ (by assumption); walk_at "same"))
section
variable {P : Program} {w : World} {K : PySem.W.Frag} {mg : Str → Option Value} {base : Heap}
abbrev N_Plan_is_plan : List Str := ["desk", "rows"]
theorem sc_Plan_is_plan : FnScope N_Plan_is_plan ["desk", "rows"] (defScope s_Plan_is_plan) := ⟨rfl, rfl, rfl, by decide +kernel, rfl, by decide +kernel, by decide +kernel⟩
def sp_is_plan (K : PySem.W.Frag) : Sp := fun vs H Q _ => ∃ d t us ps rs, vs = [d, .ref t] ∧ IsDesk K H d ps ∧ H t = some (.tup us) ∧ IsRows K H us rs ∧ ps.length ≤ 40 ∧ us.length ≤ 1000 ∧ rs.flatten.length ≤ 1000 ∧
  ∀ b H', Same H H' → (b = true ↔ planOk ps rs) → Q (.bl b) H'
theorem ok_Plan_is_plan (T : Txt K mg) : FnR P w K mg base CX0 4 (CT.sg K "Plan" "is_plan") (spStar 1 (sp_is_plan K)) := by
  obtain ⟨fd, F⟩ := T.d_Plan_is_plan
  refine starR (ps := ["desk"]) (pv := "rows") F sc_Plan_is_plan (fun _ _ _ _ _ _ => StX.bind_star1 (B := fun us => bindArgs _ ⟨us, []⟩) (fun _ => rfl) (fun _ _ _ => rfl)) (fun cdv A outer s H vs Q E hr h => ?_)
  obtain ⟨d, t, us, ps, rs, rfl, hd, ht, hrs, hps, hus, hfl, k⟩ := h
  refine ⟨_, (pss_one (ps_ret (pe_cmpR op_isN (pe_callR (ok_plan_problem T) (by walk_at "room") (by rfl) T.g_plan_problem T.k_plan_problem pass0 (pa_cons (pv 0) (pa_cons (pv 1) pa_nil))) pe_non (nomark _)))), ?_⟩
  refine ⟨_, rfl, _, rfl, d, t, us, ps, rs, rfl, hd, ht, hrs, hps, hus, hfl, fun r H1 s1 e1 e2 => ⟨rfl, ?_⟩⟩
  refine k _ H1 s1 ⟨fun e => ?_, fun e => ?_⟩
  · by_cases h : planOk ps rs
    · exact h
    · obtain ⟨z, rfl⟩ := e2 h
      cases of_decide_eq_true e
  · rw [e1 e]
    rfl
abbrev N_check_listed : List Str := ["desk"]
theorem sc_check_listed : FnScope N_check_listed ["desk"] (defScope s_check_listed) := ⟨rfl, rfl, rfl, by decide +kernel, rfl, by decide +kernel, by decide +kernel⟩
def sp_check_listed (K : PySem.W.Frag) : Sp := fun vs H Q _ => ∃ d ps, vs = [d] ∧ IsDesk K H d ps ∧ ps.length ≤ 7 ∧ Q .non H
theorem ok_check_listed (T : Txt K mg) : FnR P w K mg base CX0 3 (He.ga K "check_listed") (sp_check_listed K) := by
  obtain ⟨fd, F⟩ := T.d_check_listed
  refine plainR F sc_check_listed (fun _ _ _ _ _ _ us hl => match us, hl with | [_], _ => rfl) (fun vs H Q E h => ?_) (fun cdv A outer s H vs Q E hr h => ?_)
  · obtain ⟨d, ps, rfl, _⟩ := h
    rfl
  · obtain ⟨d, ps, rfl, hd, hz, k⟩ := h
    obtain ⟨a, t, us, u, rfl, ⟨dx, f, ha, hf⟩, hr⟩ := id hd
    refine ⟨_, (pss_one (ps_if (pt_cmpR op_gt (pe_callB (call_lenOwn T.o_Desk_len.at_ T.o_Desk_len.fn (ok_Desk___len__ T) (by walk_at "room") pass0) (by rfl) T.f_len boot_len (pa_cons (pv 0) pa_nil)) (pe_globI (by rfl) T.i_MAX_LISTED) (nomark _)) (pss_never) pss_nil)), ?_⟩
    refine ⟨_, rfl, a, dx, _, rfl, ha, _, ps, rfl, hd, ps.length, rfl, Nat.lt_of_le_of_lt hz (by decide), _, _, rfl, rfl, _, rfl, ?_⟩
    rw [decide_eq_false (show ¬ (7 : Int) < (ps.length : Int) by omega)]
    exact iteF k

end
end K41

set_option maxHeartbeats 4000000
namespace K41
open PySem PySem.Spec PyProof.Rows L2 CT
local macro_rules | `(tactic| walk_at "room") => `(tactic| first | assumption | exact Room.mono (by assumption) (by decide))
local macro_rules | `(tactic| walk_at "room64") => `(tactic| exact Room.units (by assumption))
local macro_rules | `(tactic| walk_at "room65") => `(tactic| exact room65 (by assumption))
local macro_rules | `(tactic| walk_at "hu") => `(tactic| exact hu_of (by assumption))
local macro_rules | `(tactic| walk_at "loc") => `(tactic| first | exact Or.inl rfl | exact Or.inr rfl)
local macro_rules | `(tactic| walk_at "hp") => `(tactic| first
  | assumption
  | exact upd_same
  | (refine upd_get (by assumption) ?_; walk_at "hp")
  | (refine Same.get (by assumption) ?_; walk_at "hp")
  | (refine SameS.get (by assumption) (by first | trivial | exact ⟨rfl, rfl⟩) ?_; walk_at "hp"))
local macro_rules | `(tactic| walk_at "same") => `(tactic| first
  | assumption
  | exact Same.refl _
  | (refine Same.trans ?_ (Same.new (by assumption)); walk_at "same")
  | (refine Same.trans ?_ (by assumption); walk_at "same"))
section
variable {P : Program} {w : World} {K : PySem.W.Frag} {mg : Str → Option Value} {base : Heap}
/-! ### listing -/
def IsPl (K : PySem.W.Frag) (H : Hp) (v : V) (ps : List PI2) : Prop := ∃ b zs, v = .ref b ∧ H b = some (.lst zs) ∧ DpAll K H zs (prs ps)
def IsPls (K : PySem.W.Frag) (H : Hp) (vs : List V) (pss : List (List PI2)) : Prop := Paired (IsPl K H) vs pss
theorem IsPl.same {K : PySem.W.Frag} {H H' : Hp} {v : V} {ps : List PI2} (s : Same H H') (h : IsPl K H v ps) : IsPl K H' v ps := by
  obtain ⟨b, zs, e, hb, d⟩ := h
  exact ⟨b, zs, e, s _ _ hb, Dp.sameAll s _ d⟩
theorem IsPls.same {K : PySem.W.Frag} {H H' : Hp} {vs : List V} {pss : List (List PI2)} (s : Same H H') (h : IsPls K H vs pss) : IsPls K H' vs pss := Paired.mapP h fun _ _ z => z.same s
theorem IsPl.s {K : PySem.W.Frag} {H H' : Hp} {v : V} {ps : List PI2} (s : SameS H H') (h : IsPl K H v ps) : IsPl K H' v ps := by
  obtain ⟨b, zs, e, hb, d⟩ := h
  refine ⟨b, zs, e, s _ _ hb (noInt_of (K := K) (H := H) d ?_), Dp.samesAll s _ (calm_prs ps) d⟩
  exact calm_lprs ps
theorem IsPls.s {K : PySem.W.Frag} {H H' : Hp} {vs : List V} {pss : List (List PI2)} (s : SameS H H') (h : IsPls K H vs pss) : IsPls K H' vs pss := Paired.mapP h fun _ _ z => z.s s
theorem IsPls.append {K : PySem.W.Frag} {H : Hp} {ws : List V} {qs : List (List PI2)} : ∀ {vs : List V} {ps : List (List PI2)}, IsPls K H vs ps → IsPls K H ws qs → IsPls K H (vs ++ ws) (ps ++ qs)
  | _, _, .nil, g => g
  | _, _, .cons r t, g => .cons r (IsPls.append t g)
theorem IsPls.at_ {K : PySem.W.Frag} {H : Hp} : ∀ {us : List V} {rs : List (List PI2)} {i : Nat} {v : V}, IsPls K H us rs → us[i]? = some v → ∃ r, rs[i]? = some r ∧ IsPl K H v r
  | _, _, _, _, .nil, e => by simp at e
  | _, _, 0, _, .cons r _, e => by
    cases (Option.some.inj e)
    exact ⟨_, rfl, r⟩
  | _, _, i + 1, v, .cons _ t, e => IsPls.at_ (i := i) t e
theorem IsPls.len {K : PySem.W.Frag} {H : Hp} {us : List V} {rs : List (List PI2)} (h : IsPls K H us rs) : us.length = rs.length := Paired.length h
theorem any_prs (ps : List PI2) (p : PI2) : ((prs ps).any fun z => PyData.eqv z (pr p)) = decide (p ∈ ps) := by
  unfold prs
  rw [List.any_map]
  cases e : decide (p ∈ ps) with
  | true =>
    have z := of_decide_eq_true e
    exact List.any_eq_true.mpr ⟨p, z, (eqv_pr p p).trans (decide_eq_true rfl)⟩
  | false =>
    have z := of_decide_eq_false e
    refine List.any_eq_false.mpr fun q hq y => z ?_
    have y2 := (eqv_pr q p).symm.trans y
    rw [← of_decide_eq_true y2]
    exact hq
/-- what the loop of orders_from keeps -/
structure OS (K : PySem.W.Frag) (X : List Addr) (D1 D2 : Addr) (H H' : Hp) (pss : List (List PI2)) (sn : List PI2) : Prop where
  s : Same H H'
  f : ∃ vs, H' D1 = some (.lst vs) ∧ IsPls K (hid (D1 :: D2 :: X) H') vs pss
  g : ∃ ws, H' D2 = some (.lst ws) ∧ DpAll K (hid (D1 :: D2 :: X) H') ws (prs sn)
theorem OS.same {K : PySem.W.Frag} {X : List Addr} {D1 D2 : Addr} {H H' H2 : Hp} {pss : List (List PI2)} {sn : List PI2} (o : OS K X D1 D2 H H' pss sn) (s : Same H' H2) : OS K X D1 D2 H H2 pss sn := by
  obtain ⟨a, ⟨vs, b, c⟩, ws, d, e⟩ := o
  exact ⟨a.trans s, ⟨vs, s _ _ b, c.same (Same.hid s)⟩, ws, s _ _ d, Dp.sameAll (Same.hid s) _ e⟩
abbrev N_orders_from : List Str := ["rest", "height", "found", "seen", "spot", "pair", "later"]
theorem sc_orders_from : FnScope N_orders_from ["rest", "height"] (defScope s_orders_from) := ⟨rfl, rfl, rfl, by decide +kernel, rfl, by decide +kernel, by decide +kernel⟩
def sp_O (K : PySem.W.Frag) : Nat → Sp
  | 0 => fun _ _ _ _ => False
  | n + 1 => fun vs H Q _ => ∃ a us rest h X, vs = [.ref a, .int h] ∧ H a = some (.lst us) ∧ DpAll K (hid X H) us (prs rest) ∧ rest.length ≤ n ∧ n ≤ 7 ∧ (∀ x ∈ X, H x ≠ none) ∧
    ∀ r H' ys, Same H H' → H r = none → H' r = some (.lst ys) → IsPls K (hid X H') ys (orders rest.length rest h) → Q (.ref r) H'
theorem ok_orders_step (T : Txt K mg) (n : Nat) (GREC : FnR P w K mg base CX0 n (He.ga K "orders_from") (sp_O K n)) : FnR P w K mg base CX0 (n + 1) (He.ga K "orders_from") (sp_O K (n + 1)) := by
  obtain ⟨fd, F⟩ := T.d_orders_from
  refine plainR F sc_orders_from (fun _ _ _ _ _ _ us hl => match us, hl with | [_, _], _ => rfl) (fun vs H Q E h => ?_) (fun cdv A outer s H vs Q E hr h => ?_)
  · obtain ⟨a, us, rest, h, X, rfl, _⟩ := h
    rfl
  · obtain ⟨a, us, rest, h, X, rfl, ha, dp, hn, hn7, hX, k⟩ := h
    have hl := Prs.len dp
    refine ⟨_, (pss_cons (ps_if (pt_cmpR (op_eqDK K (by walk_at "room64")) (pv 0) (pe_lst pa_nil) (nomark _)) (pss_one (ps_ret (pe_lst (pa_cons (pe_lst pa_nil) pa_nil)))) pss_nil)
      (pss_cons (ps_par (i := 2) (j := 3) (by rfl) sc_orders_from.nd rfl rfl (by decide) rfl rfl (pa_cons (pe_lst pa_nil) (pa_cons (pe_lst pa_nil) pa_nil)) (by rfl))
      (pss_cons (ps_for PassesOwn.never rfl (pi_enum (by rfl) T.f_enumerate (pa_cons (pv 0) pa_nil)) (pg_tupK K 2 rfl (pgs_cons (pg_name (i := 4) sc_orders_from.nd rfl (by walk_at "loc")) (pgs_cons (pg_name (i := 5) sc_orders_from.nd rfl (by walk_at "loc")) pgs_nil)))
      (pss_one (ps_if (PW.pt (pw_and (pt_cmpR op_ge (pe_ix (ix_tupK K) (pv 5) pe_int (fun _ _ => rfl)) (pv 1) (nomark _)) (pw_and1 (pt_cmpR (op_notInDK K (by walk_at "room65")) (pv 5) (pv 3) rfl)))) (pss_cons (ps_expr (pe_bmK K PySem.F.plainAttrs_list PySem.F.slot_list_append PySem.F.type_list_append mt_append (pv 3) (pa_cons (pv 5) pa_nil)))
      (pss_one (ps_for PassesOwn.never rfl (pi_list (pe_callR GREC (by walk_at "room") (by rfl) T.g_orders_from T.k_orders_from pass0 (pa_cons (pe_op op_cat (pe_slice (sl_listK K) (pv 0) po_none (po_some (pv 4))) (pe_slice (sl_listK K) (pv 0) (po_some (pe_op op_add (pv 4) pe_int)) po_none)) (pa_cons (pe_ix (ix_tupK K) (pv 5) pe_int (fun _ _ => rfl)) pa_nil)))) (pg_name (i := 6) sc_orders_from.nd rfl (by walk_at "loc"))
      (pss_one (ps_expr (pe_bmK K PySem.F.plainAttrs_list PySem.F.slot_list_append PySem.F.type_list_append mt_append (pv 2) (pa_cons (pe_op op_cat (pe_lst (pa_cons (pv 5) pa_nil)) (pv 6)) pa_nil))))))) pss_nil)))
      (pss_one (ps_ret (pv 2)))))), ?_⟩
    refine ⟨_, rfl, Nat.zero_le _, fun e0 ne0 => ?_⟩
    refine ⟨.list (prs rest), .list (prs []), .lst (SqL.of (upd_get ne0 ha)) (Dp.sameAll (hid_le.trans (Same.new ne0)) _ dp), .lst (SqL.of upd_same) .nil, shaped_lprs _, shaped_lprs _, ?_⟩
    rw [eqv_lprs]
    have s0 : Same H (upd H e0 (.lst [])) := Same.new ne0
    generalize upd H e0 (.lst []) = H0 at s0
    refine ⟨_, rfl, iteB (fun e => ?_) (fun e => ?_)⟩
    · have er := of_decide_eq_true e
      subst er
      refine ⟨Nat.zero_le _, fun l1 n1 => ⟨by show 1 ≤ sizeLine; decide, fun l2 n2 => ?_⟩⟩
      have s2 : Same (upd H0 l1 (.lst [])) (upd (upd H0 l1 (.lst [])) l2 (.lst [.ref l1])) := Same.new n2
      have nx1 : l1 ∉ X := fun m => hX l1 m (noneR s0 n1)
      refine k l2 _ [.ref l1] ((s0.trans (Same.new n1)).trans s2) (noneR (s0.trans (Same.new n1)) n2) upd_same ?_
      exact .cons ⟨l1, [], rfl, hid_get (s2 _ _ upd_same) nx1, .nil⟩ .nil
    · have er := of_decide_eq_false e
      obtain ⟨m, em⟩ : ∃ m, rest.length = m + 1 := by
        cases rest with
        | nil => exact absurd rfl er
        | cons p q => exact ⟨q.length, rfl⟩
      obtain ⟨n', rfl⟩ : ∃ n', n = n' + 1 := ⟨n - 1, by omega⟩
      refine ⟨Nat.zero_le _, fun D1 nD1 => ⟨Nat.zero_le _, fun D2 nD2 => ?_⟩⟩
      refine ⟨_, _, rfl, ?_⟩
      have s1 : Same H (upd H0 D1 (.lst [])) := s0.trans (Same.new nD1)
      have nh1 : H D1 = none := noneR s0 nD1
      have nh2 : H D2 = none := noneR s1 nD2
      have h12 : D1 ≠ D2 := fun z => by
        rw [← z, upd_same] at nD2
        cases nD2
      have hX2 : ∀ x ∈ D1 :: D2 :: X, ∀ H', Same H H' → H' D1 ≠ none → H' D2 ≠ none → H' x ≠ none := fun x mx H' s a1 a2 => by
        rcases List.mem_cons.mp mx with z | mx
        · rw [z]; exact a1
        rcases List.mem_cons.mp mx with z | mx
        · rw [z]; exact a2
        · intro z
          exact hX x mx (noneR s z)
      have dpH : ∀ {H'}, Same H H' → DpAll K (hid (D1 :: D2 :: X) H') us (prs rest) := fun {H'} s => by
        have z1 : Same (hid X H) (hid (D2 :: X) H) := hid_new (Same.refl H) nh2
        have z2 : Same (hid (D2 :: X) H) (hid (D1 :: D2 :: X) H') := hid_new s nh1
        exact Dp.sameAll (z1.trans z2) _ dp
      refine ⟨_, rfl, a, us, rfl, SqL.of (s1.trans (Same.new nD2) _ _ ha), for_it walk_enum (fun i σ H' => ∃ sn : List PI2, OS K X D1 D2 H H' (upTo m rest h i) sn ∧ sn.length ≤ i ∧ (∀ p : PI2, h ≤ p.1 → (p ∈ sn ↔ p ∈ rest.take i)) ∧ ∃ a1 b c, σ = [some (.ref a), some (.int h), some (.ref D1), some (.ref D2), a1, b, c]) ⟨[], ⟨s1.trans (Same.new nD2), ⟨[], upd_get nD2 upd_same, .nil⟩, ⟨[], upd_same, .nil⟩⟩, Nat.le_refl _, (fun _ _ => Iff.rfl), _, _, _, rfl⟩ (fun i σ H' _ ⟨sn, q, _⟩ => SqL.of (q.s _ _ ha)) ?_ ?_⟩
      · rintro i x σ H1 H2 hi ⟨sn, os, hsl, hsn, a1, b, c, rfl⟩ y
        refine gpair y fun T0 c1 d1 ec ed nT eH => ?_
        cases ec
        obtain ⟨p, ep, hpd⟩ := Prs.of_at (dpH (os.s.trans (by rw [eH]; exact Same.new nT : Same H1 H2))) ed
        have os2 : OS K X D1 D2 H H2 _ sn := os.same (by rw [eH]; exact Same.new nT)
        clear os y eH
        have gp : rest.getD i (0, 0) = p := getD_of ep
        have hir : i < rest.length := (List.getElem?_eq_some_iff.mp ep).1
        obtain ⟨xt, rfl, hxt⟩ := hpd.pr_inv
        have hxt2 : SqT K H2 xt [.int p.1, .int p.2] := Same.tup hid_le hxt
        obtain ⟨vs, hv1, hv2⟩ := os2.f
        obtain ⟨ws, hw1, hw2⟩ := os2.g
        have tk1 : rest.take (i + 1) = rest.take i ++ [p] := by rw [List.take_add_one, ep] <;> rfl
        refine ⟨_, rfl, xt, _, 0, _, rfl, rfl, hxt2, at_of (j := 0) rfl rfl, _, rfl, _, _, rfl, rfl, _, rfl, iteB (fun e1 => ?_) (fun e1 => ?_)⟩
        · have e1' : h ≤ p.1 := of_decide_eq_true e1
          refine ⟨_, rfl, _, rfl, pr p, prs sn, Dp.same hid_le _ hpd, .lst (SqL.of hw1) (Dp.sameAll hid_le _ hw2), shaped_pr _, shaped_lprs _, ?_⟩
          rw [any_prs]
          refine ⟨_, rfl, iteB (fun e2 => ?_) (fun e2 => ?_)⟩
          · have e2' : p ∉ sn := fun z => by
              rw [decide_eq_true z] at e2
              cases e2
            have hpk : pick rest h i = true := by
              unfold pick
              rw [gp, decide_eq_true e1', decide_eq_false (fun z => e2' ((hsn p e1').mpr z))] <;> rfl
            -- seen.append(pair)
            refine ⟨_, rfl, .inl ⟨rfl, _, SqL.of hw1⟩, _, rfl, D2, ws, _, rfl, rfl, hw1, ?_, ?_⟩
            · rw [Prs.len hw2]
              exact Nat.lt_of_le_of_lt (Nat.le_trans hsl (Nat.le_of_lt (Nat.lt_of_lt_of_le hir (Nat.le_trans hn hn7)))) (by decide)
            have m1 : D1 ∈ D1 :: D2 :: X := List.mem_cons_self
            have m2 : D2 ∈ D1 :: D2 :: X := List.mem_cons_of_mem _ List.mem_cons_self
            have os3 : OS K X D1 D2 H (upd H2 D2 (.lst (ws ++ [.ref xt]))) (upTo m rest h i) (sn ++ [p]) := by
              refine ⟨Same.put os2.s nh2, ⟨vs, ?_, ?_⟩, ws ++ [.ref xt], upd_same, ?_⟩
              · rw [upd_ne h12]
                exact hv1
              · rw [hid_upd m2]
                exact hv2
              · rw [hid_upd m2, prs_append]
                exact hw2.append (.cons hpd .nil)
            have hx3 : Dp K (hid (D1 :: D2 :: X) (upd H2 D2 (.lst (ws ++ [.ref xt])))) (.ref xt) (pr p) := by
              rw [hid_upd m2]
              exact hpd
            generalize upd H2 D2 (.lst (ws ++ [.ref xt])) = H3 at os3 hx3
            -- rest[:spot] + rest[spot + 1:], pair[1]
            refine ⟨_, rfl, ?_⟩
            dsimp only [tNoPart]
            refine ⟨_, rfl, _, rfl, a, us, rfl, SqL.of (os3.s _ _ ha), fun L1 n1 => ?_⟩
            refine ⟨_, rfl, _, rfl, _, _, rfl, rfl, _, rfl, ?_⟩
            dsimp only [tNoPart]
            refine ⟨a, us, rfl, SqL.of (upd_get n1 (os3.s _ _ ha)), fun L2 n2 => ?_⟩
            rw [cutV_to (by omega)] at n2 ⊢
            rw [show ((i : Int) + 1) = ((i + 1 : Nat) : Int) from rfl, cutV_from (by omega)]
            refine ⟨L1, L2, _, _, rfl, rfl, upd_get n2 upd_same, upd_same, ?_, fun L3 n3 => ?_⟩
            · rw [List.length_take, List.length_drop]
              exact Nat.le_trans (show min i us.length + (us.length - (i + 1)) ≤ 1000 by omega) (by decide)
            have s34 : Same H3 (upd (upd H3 L1 (.lst (us.take i))) L2 (.lst (us.drop (i + 1)))) := (Same.new n1).trans (Same.new n2)
            have s35 : Same H3 (upd (upd (upd H3 L1 (.lst (us.take i))) L2 (.lst (us.drop (i + 1)))) L3 (.lst (us.take i ++ us.drop (i + 1)))) := s34.trans (Same.new n3)
            generalize eH4 : upd (upd (upd H3 L1 (.lst (us.take i))) L2 (.lst (us.drop (i + 1)))) L3 (.lst (us.take i ++ us.drop (i + 1))) = H4 at s35
            have hL3 : H4 L3 = some (.lst (us.take i ++ us.drop (i + 1))) := by rw [← eH4]; exact upd_same
            have os4 := os3.same s35
            have hx4 : Dp K (hid (D1 :: D2 :: X) H4) (.ref xt) (pr p) := Dp.same (Same.hid s35) _ hx3
            obtain ⟨xt', exx, hxt4⟩ := hx4.pr_inv
            cases exx
            refine ⟨_, rfl, xt, _, 1, _, rfl, rfl, Same.tup hid_le hxt4, at_of (j := 1) rfl rfl, ?_⟩
            obtain ⟨vs4, hv4, hw4⟩ := os4.f
            obtain ⟨ws4, hg4, hh4⟩ := os4.g
            have hler : (rest.eraseIdx i).length = m := by
              rw [List.length_eraseIdx, if_pos hir]
              omega
            refine ⟨L3, _, rest.eraseIdx i, p.2, D1 :: D2 :: X, rfl, hL3, ?_, by omega, by omega, fun x mx => hX2 x mx H4 os4.s (by rw [hv4]; exact nofun) (by rw [hg4]; exact nofun), fun r H5 ys s5 nr hr hys => ?_⟩
            · rw [List.eraseIdx_eq_take_drop_succ, prs_append]
              have z := dpH os4.s
              have z1 := z.take i
              have z2 := z.drop (i + 1)
              unfold prs at z1 z2 ⊢
              rw [List.map_take, List.map_drop]
              exact z1.append z2
            rw [hler] at hys
            have os5 := os4.same s5
            have hx5 : Dp K (hid (D1 :: D2 :: X) H5) (.ref xt) (pr p) := Dp.same (Same.hid s5) _ hx4
            have hyl := hys.len
            have hol : (orders m (rest.eraseIdx i) p.2).length ≤ fct m := orders_len _ _ _ (by omega)
            have hil : (upTo m rest h i).length ≤ i * fct m := upTo_len (fun j hj => orders_len _ _ _ (by rw [List.length_eraseIdx, if_pos hj]; omega)) i (by omega)
            refine ⟨r, rfl, ⟨_, SqL.of hr⟩, for_it (D := { nx := _, rt := _, bk := fun _ _ => True, ct := fun _ _ => True }) walk_list (fun j σ H' => OS K X D1 D2 H H' (upTo m rest h i ++ ((orders m (rest.eraseIdx i) p.2).take j).map (p :: ·)) (sn ++ [p]) ∧ H' r = some (.lst ys) ∧ IsPls K (hid (D1 :: D2 :: X) H') ys (orders m (rest.eraseIdx i) p.2) ∧ Dp K (hid (D1 :: D2 :: X) H') (.ref xt) (pr p) ∧ ∃ c, σ = [some (.ref a), some (.int h), some (.ref D1), some (.ref D2), some (.int (i : Nat)), some (.ref xt), c]) ⟨by rw [List.take_zero, List.map_nil, List.append_nil]; exact os5, hr, hys, hx5, _, rfl⟩ (fun j σ H' _ q => SqL.of q.2.1) ?_ ?_⟩
            · rintro j y σ H6 H7 hj ⟨os6, hr6, hys6, hx6, c2, rfl⟩ ⟨rfl, ey⟩
              obtain ⟨q, eq, bq, zs, rfl, hbq, dz⟩ := hys6.at_ ey
              obtain ⟨vs6, hv6, hw6⟩ := os6.f
              obtain ⟨ws6, hg6, hh6⟩ := os6.g
              refine ⟨_, rfl, .inl ⟨rfl, _, SqL.of hv6⟩, _, rfl, by show 1 ≤ sizeLine; decide, fun L4 n4 => ?_⟩
              have hqm : q.length ≤ 1000 := by
                have z := (orders_perm m _ _ q hler (List.mem_of_getElem? eq)).length_eq
                omega
              refine ⟨_, rfl, L4, bq, _, _, rfl, rfl, upd_same, upd_get n4 (hid_le _ _ hbq), ?_, fun L5 n5 => ?_⟩
              · rw [Prs.len dz]
                exact Nat.le_trans (show 1 + q.length ≤ 2000 by omega) (by decide)
              have s7 : Same H7 (upd (upd H7 L4 (.lst [.ref xt])) L5 (.lst ([.ref xt] ++ zs))) := (Same.new n4).trans (Same.new n5)
              have n5' : H7 L5 = none := noneR (Same.new n4) n5
              generalize eH8 : upd (upd H7 L4 (.lst [.ref xt])) L5 (.lst ([.ref xt] ++ zs)) = H8 at s7
              have hL5 : H8 L5 = some (.lst ([.ref xt] ++ zs)) := by rw [← eH8]; exact upd_same
              have nL5 : L5 ∉ D1 :: D2 :: X := fun mx => hX2 L5 mx H7 os6.s (by rw [hv6]; exact nofun) (by rw [hg6]; exact nofun) n5'
              have os8 := os6.same s7
              have jl : j < (orders m (rest.eraseIdx i) p.2).length := by omega
              have r5 : D1 ≠ r := fun z => by
                rw [← z] at nr
                rw [hv4] at nr
                cases nr
              refine ⟨D1, vs6, _, rfl, rfl, s7 _ _ hv6, ?_, ⟨Same.put os8.s nh1, ⟨vs6 ++ [.ref L5], upd_same, ?_⟩, ws6, ?_, ?_⟩, ?_, ?_, ?_, _, rfl⟩
              · rw [hw6.len, List.length_append, List.length_map, List.length_take]
                have z1 := fct_le (m + 1) (by omega)
                have z2 : fct (m + 1) = (m + 1) * fct m := rfl
                have z3 : (i + 1) * fct m ≤ (m + 1) * fct m := Nat.mul_le_mul_right _ (by omega)
                have z4 : (i + 1) * fct m = i * fct m + fct m := Nat.succ_mul _ _
                exact Nat.lt_of_lt_of_le (show _ < 5041 by omega) (by decide)
              · rw [hid_upd m1, List.take_add_one, eq, List.map_append, ← List.append_assoc]
                refine (hw6.same (Same.hid s7)).append (.cons ⟨L5, _, rfl, hid_get hL5 nL5, ?_⟩ .nil)
                exact .cons (Dp.same (Same.hid s7) _ hx6) (Dp.sameAll (Same.hid s7) _ dz)
              · rw [upd_ne h12.symm]
                exact s7 _ _ hg6
              · rw [hid_upd m1]
                exact Dp.sameAll (Same.hid s7) _ hh6
              · rw [upd_ne r5.symm]
                exact s7 _ _ hr6
              · rw [hid_upd m1]
                exact hys6.same (Same.hid s7)
              · rw [hid_upd m1]
                exact Dp.same (Same.hid s7) _ hx6
            · rintro σ H6 ⟨os6, hr6, hys6, hx6, c2, rfl⟩
              rw [hyl, List.take_length] at os6
              refine ⟨sn ++ [p], ?_, ?_, fun q hq => ?_, _, _, _, rfl⟩
              · rw [upTo_succ, if_pos hpk, gp]
                exact os6
              · rw [List.length_append, List.length_singleton]
                omega
              · rw [tk1, List.mem_append, List.mem_append, hsn q hq]
          · have e2' : p ∈ sn := by
              cases hh : decide (p ∈ sn) with
              | true => exact of_decide_eq_true hh
              | false => rw [hh] at e2; cases e2
            have hpk : ¬ pick rest h i = true := by
              unfold pick
              rw [gp, decide_eq_true ((hsn p e1').mp e2'), Bool.not_true, Bool.and_false]
              exact Bool.false_ne_true
            refine ⟨sn, ?_, Nat.le_succ_of_le hsl, fun q hq => ?_, _, _, _, rfl⟩
            · rw [upTo_succ, if_neg hpk, List.append_nil]
              exact os2
            · rw [tk1, List.mem_append, hsn q hq, List.mem_singleton]
              exact ⟨.inl, fun z => z.elim id fun z => by rw [z]; exact (hsn p e1').mp e2'⟩
        · have e1' : ¬ h ≤ p.1 := of_decide_eq_false e1
          have hpk : ¬ pick rest h i = true := by
            unfold pick
            rw [gp, decide_eq_false e1', Bool.false_and]
            exact Bool.false_ne_true
          refine iteF ⟨sn, ?_, Nat.le_succ_of_le hsl, fun q hq => ?_, _, _, _, rfl⟩
          · rw [upTo_succ, if_neg hpk, List.append_nil]
            exact os2
          · rw [tk1, List.mem_append, hsn q hq, List.mem_singleton]
            exact ⟨.inl, fun z => z.elim id fun z => absurd (by rw [← z]; exact hq) e1'⟩
      · rintro σ H1 ⟨sn, os, hsl, hsn, a1, b, c, rfl⟩
        obtain ⟨vs, hv1, hv2⟩ := os.f
        refine ⟨_, rfl, k D1 H1 vs os.s nh1 hv1 ?_⟩
        rw [em]
        have e1 : upTo m rest h us.length = orders (m + 1) rest h := by rw [hl] <;> rfl
        rw [← e1]
        exact hv2.same (hid_sub fun b hb => List.mem_cons_of_mem _ (List.mem_cons_of_mem _ hb))
theorem ok_orders_n (T : Txt K mg) : ∀ n, FnR P w K mg base CX0 n (He.ga K "orders_from") (sp_O K n)
  | 0 => fun A st s H vs us Q E hr he r h => False.elim h
  | n + 1 => ok_orders_step T n (ok_orders_n T n)

end
end K41

set_option maxHeartbeats 4000000
namespace K41
open PySem PySem.Spec PyProof.Rows L2 CT
local macro_rules | `(tactic| walk_at "room") => `(tactic| first | assumption | exact Room.mono (by assumption) (by decide))
local macro_rules | `(tactic| walk_at "room64") => `(tactic| exact Room.units (by assumption))
local macro_rules | `(tactic| walk_at "room65") => `(tactic| exact room65 (by assumption))
local macro_rules | `(tactic| walk_at "hu") => `(tactic| exact hu_of (by assumption))
local macro_rules | `(tactic| walk_at "loc") => `(tactic| first | exact Or.inl rfl | exact Or.inr rfl)
local macro_rules | `(tactic| walk_at "hp") => `(tactic| first
  | assumption
  | exact upd_same
  | (refine upd_get (by assumption) ?_; walk_at "hp")
  | (refine Same.get (by assumption) ?_; walk_at "hp")
  | (refine SameS.get (by assumption) (by first | trivial | exact ⟨rfl, rfl⟩) ?_; walk_at "hp"))
local macro_rules | `(tactic| walk_at "same") => `(tactic| first
  | assumption
  | exact Same.refl _
  | (refine Same.trans ?_ (Same.new (by assumption)); walk_at "same")
  | (refine Same.trans ?_ (by assumption); walk_at "same"))
section
variable {P : Program} {w : World} {K : PySem.W.Frag} {mg : Str → Option Value} {base : Heap}
theorem got_ints {f : Nat → Int} : ∀ {n : Nat} {ys : List V}, Got (fun _ => true) (fun i y => y = .int (f i)) n ys → ys = ((List.range n).map f).map V.int
  | _, _, .zero => rfl
  | _, _, .keep (n := n) g _ r => by
    rw [List.range_succ, List.map_append, List.map_append, got_ints g, r]
    rfl
  | _, _, .skip _ p => nomatch p
theorem range_map {α β : Type} (l : List α) (d : α) (g : α → β) : (List.range l.length).map (fun i => g (l.getD i d)) = l.map g := by
  have h := range_all l d
  rw [List.filter_eq_self.mpr (fun _ _ => rfl)] at h
  have z := congrArg (List.map g) h
  rw [List.map_map] at z
  exact z
theorem got_prs {K : PySem.W.Frag} {H : Hp} {ps : List PI2} {n : Nat} {ys : List V} (hn : n = ps.length) (got : Got (fun _ => true) (fun i y => Dp K H y (pr (ps.getD i (0, 0)))) n ys) : DpAll K H ys (prs ps) := by
  subst hn
  have z := got.data
  rw [List.filter_eq_self.mpr (fun _ _ => rfl), range_map] at z
  exact z
theorem got_tks {K : PySem.W.Frag} {H : Hp} {ps : List PI2} : ∀ {n : Nat} {ys : List V}, Got (fun _ => true) (fun i y => IsTk K H y (ps.getD i (0, 0))) n ys → IsTks K H ys ((List.range n).map fun i => ps.getD i (0, 0))
  | _, _, .zero => .nil
  | _, _, .keep (n := n) g _ r => by
    rw [List.range_succ, List.map_append]
    exact (got_tks g).append r.one
  | _, _, .skip _ p => nomatch p
def ok_orders_from (T : Txt K mg) : FnR P w K mg base CX0 8 (He.ga K "orders_from") (sp_O K 8) := ok_orders_n T 8
theorem wide100 {i : Int} (h : 0 ≤ i ∧ i ≤ 30) : CMulW i 100 := wide_mul (a := 7) (b := 7) (by omega) (by omega) (by decide) (by decide) (by decide)
theorem div100 {i : Int} : CDivW i 100 := wide_div (b := 7) (by decide) (by decide) (by decide) (by decide)
theorem inI {X : Cx} {i j : Int} (h : CMulW i j) : CMulW i j := h
abbrev N_listed : List Str := ["desk", "codes", "x", "y", "code"]
theorem sc_listed : FnScope N_listed ["desk"] (defScope s_listed) := ⟨rfl, rfl, rfl, by decide +kernel, rfl, by decide +kernel, by decide +kernel⟩
def sp_listed (K : PySem.W.Frag) : Sp := fun vs H Q _ => ∃ d ps, vs = [d] ∧ IsDesk K H d ps ∧ ps.length ≤ 7 ∧ (∀ p ∈ ps, hgt2 p) ∧ ∀ r H' ys, Same H H' → H' r = some (.lst ys) → IsPls K H' ys (listing ps) → Q (.ref r) H'
theorem ok_listed (T : Txt K mg) : FnR P w K mg base CX0 9 (He.ga K "listed") (sp_listed K) := by
  obtain ⟨fd, F⟩ := T.d_listed
  refine plainR F sc_listed (fun _ _ _ _ _ _ us hl => match us, hl with | [_], _ => rfl) (fun vs H Q E h => ?_) (fun cdv A outer s H vs Q E hr h => ?_)
  · obtain ⟨d, ps, rfl, _⟩ := h
    rfl
  · obtain ⟨d, ps, rfl, hd, hz, hh, k⟩ := h
    obtain ⟨a, t, us, u, rfl, ⟨dx, f, ha, hf⟩, ht, tk, ws, ob, hu, hob, dp⟩ := id hd
    have hl := Prs.len dp
    refine ⟨_, (pss_cons (ps_expr (pe_callR (ok_check_listed T) (by walk_at "room") (by rfl) T.g_check_listed T.k_check_listed pass0 (pa_cons (pv 0) pa_nil)))
      (pss_cons (ps_set (i := 1) sc_listed.nd rfl (by walk_at "loc") (pe_callB (cr_sortedK K) (by rfl) T.f_sorted boot_sorted (pa_cons (pe_lc (own := [("x", 2), ("y", 3)]) rfl sc_listed.nd (pi_tup (pe_fldK K (pv 0))) (blkOk_by (own := [("x", 2), ("y", 3)]) (N := N_listed) (sc := defScope s_listed) (by decide +kernel)) (fun _ _ _ _ _ => (pg_tupK K 2 rfl (pgs_cons (pg_name (i := 2) sc_listed.nd rfl (by walk_at "loc")) (pgs_cons (pg_name (i := 3) sc_listed.nd rfl (by walk_at "loc")) pgs_nil)))) (fun _ _ _ _ _ => pts_nil) (fun _ _ _ _ _ => (pe_callTy call_int1 (by rfl) T.f_int boot_int (pa_cons (pe_op op_add (pe_op op_mulW (pv 2) (pe_globI (by rfl) T.i_CODE)) (pv 3)) pa_nil)))) pa_nil)))
      (pss_one (ps_ret (pe_callR (ok_orders_from T) (by walk_at "room") (by rfl) T.g_orders_from T.k_orders_from pass0 (pa_cons (pe_lc (own := [("code", 4)]) rfl sc_listed.nd (pi_list (pv 1)) (blkOk_by (own := [("code", 4)]) (N := N_listed) (sc := defScope s_listed) (by decide +kernel)) (fun _ _ _ _ _ => (pg_name (i := 4) sc_listed.nd rfl (by walk_at "loc"))) (fun _ _ _ _ _ => pts_nil) (fun _ _ _ _ _ => (pe_tup (pa_cons (pe_op op_fdivW (pv 4) (pe_globI (by rfl) T.i_CODE)) (pa_cons (pe_op op_mod (pv 4) (pe_globI (by rfl) T.i_CODE)) pa_nil))))) (pa_cons pe_int pa_nil))))))), ?_⟩
    refine ⟨_, rfl, _, ps, rfl, hd, hz, ?_⟩
    refine ⟨_, rfl, _, _, dx, _, _, rfl, ha, T.c_Desk, T.n_Desk_pairs, rfl, u, rfl, ⟨ws, SqT.frz hu⟩, fun D hD => lc_gen wSame walk_tup hD (by omega) (fun _ => true) (fun i y H => y = .int (code (ps.getD i (0, 0)))) (fun i y H H' s d => d) (fun _ _ _ _ => trivial) (fun H s => s.tup (SqT.frz hu)) ?_ ?_⟩
    · rintro acc i x H3 H4 C C0 hi s3 hDl ⟨rfl, ex⟩ kC kC0
      obtain ⟨p, ep, tp⟩ := Prs.of_at (Dp.sameAll s3 _ dp) ex
      refine gpr tp ⟨rfl, lc_yes ?_⟩
      have hp := hh p (List.mem_of_getElem? ep)
      refine ⟨_, rfl, _, _, rfl, rfl, wide100 hp.1, _, rfl, _, _, rfl, rfl, .inl ⟨_, rfl, kC _ _ (Same.refl _) rfl fun o => ?_⟩⟩
      rw [getD_of ep]
      rfl
    · intro H3 ys s3 hDl got
      have ey := got_ints got
      rw [hl, range_map] at ey
      rw [ey] at hDl
      refine ⟨D, ps.map code, rfl, SqL.of hDl, by rw [List.length_map]; omega, fun ns p hp hs np => ?_⟩
      have en := srtC_uniq hp hs
      subst en
      have s4 := s3.trans (Same.new (o := .lst ((srtC ps).map V.int)) np)
      generalize e4 : upd H3 p (.lst ((srtC ps).map V.int)) = H4 at s4
      have hp4 : H4 p = some (.lst ((srtC ps).map V.int)) := by rw [← e4]; exact upd_same
      have hcl : ((srtC ps).map V.int).length = (srt ps).length := by
        unfold srt
        rw [List.length_map, List.length_map]
      refine ⟨_, rfl, p, rfl, ⟨_, SqL.of hp4⟩, fun D2 hD2 => lc_gen wSame walk_list hD2 (by rw [hcl, srt_len]; omega) (fun _ => true) (fun i y H => Dp K H y (pr ((srt ps).getD i (0, 0)))) (fun i y H H' s d => d.same s) (fun _ _ _ _ => trivial) (fun H s => SqL.of (s _ _ hp4)) ?_ ?_⟩
      · rintro acc i x H5 H6 C C0 hi s5 hDl2 ⟨rfl, ex⟩ kC kC0
        rw [List.getElem?_map] at ex
        cases ec : (srtC ps)[i]? with
        | none => rw [ec] at ex; cases ex
        | some c =>
          rw [ec] at ex
          cases ex
          have eg : (srt ps)[i]? = some (dec c) := by
            unfold srt
            rw [List.getElem?_map, ec] <;> rfl
          refine ⟨rfl, lc_yes ⟨_, rfl, _, _, rfl, rfl, div100, _, rfl, _, _, rfl, rfl, (by show (0 : Int) < 100; decide), by show 2 ≤ sizeLine; decide, fun q nq => ?_⟩⟩
          refine kC _ _ (Same.new nq) rfl ?_
          rw [getD_of eg]
          exact Dp.mkprU (upd_get nq hDl2) upd_same
      · intro H5 zs s5 hDl2 got2
        have dz := got_prs hcl got2
        refine ⟨D2, zs, srt ps, 0, [], rfl, hDl2, by rw [hid_nil]; exact dz, by rw [srt_len]; exact hz, by decide, (fun x m => nomatch m), fun r H7 vs s7 nr hr hp7 => ?_⟩
        rw [hid_nil, srt_len] at hp7
        exact k r H7 vs ((s4.trans s5).trans s7) hr hp7
abbrev N_row_of : List Str := ["pairs", "cards", "pair"]
theorem sc_row_of : FnScope N_row_of ["pairs"] (defScope s_row_of) := ⟨rfl, rfl, rfl, by decide +kernel, rfl, by decide +kernel, by decide +kernel⟩
def sp_row_of (K : PySem.W.Frag) : Sp := fun vs H Q _ => ∃ v ps, vs = [v] ∧ IsPl K H v ps ∧ path ps ∧ ps.length ≤ 40 ∧ (∀ p ∈ ps, hgt2 p) ∧ ∀ r H', Same H H' → IsRow K H' r ps → Q r H'
theorem ok_row_of (T : Txt K mg) : FnR P w K mg base CX0 5 (He.ga K "row_of") (sp_row_of K) := by
  obtain ⟨fd, F⟩ := T.d_row_of
  refine plainR F sc_row_of (fun _ _ _ _ _ _ us hl => match us, hl with | [_], _ => rfl) (fun vs H Q E h => ?_) (fun cdv A outer s H vs Q E hr h => ?_)
  · obtain ⟨v, ps, rfl, _⟩ := h
    rfl
  · obtain ⟨v, ps, rfl, ⟨b, zs, rfl, hb, dz⟩, pa, hz, hh, k⟩ := h
    have hl := Prs.len dz
    refine ⟨_, (pss_cons (ps_setLc (i := 1) (own := [("pair", 2)]) rfl sc_row_of.nd rfl rfl (sw_true rfl rfl rfl (by decide +kernel)) (pi_list (pv 0)) (blkOk_by (own := [("pair", 2)]) (N := N_row_of) (sc := defScope s_row_of) (by decide +kernel)) (fun _ _ _ _ _ => (pg_name (i := 2) sc_row_of.nd rfl (by walk_at "loc"))) (fun _ _ _ _ _ => pts_nil) (fun _ _ _ _ _ => (StX.pe_makeR T.mk_Ticket (ok_Ticket___init__ T) (by walk_at "room") (by rfl) T.g_Ticket pass0 (pa_cons (pe_ix (ix_tupK K) (pv 2) pe_int (fun _ _ => rfl)) (pa_cons (pe_ix (ix_tupK K) (pv 2) pe_int (fun _ _ => rfl)) pa_nil)))))
      (pss_one (ps_ret (pe_makeS1 T.mk_Row (ok_Row___init__ T) (by walk_at "room") (by rfl) T.g_Row pass0 (pv 1))))), ?_⟩
    refine ⟨_, rfl, b, rfl, ⟨zs, SqL.of hb⟩, fun D hD => lc_gen wSame walk_list hD (by omega) (fun _ => true) (fun i y H => IsTk K H y (ps.getD i (0, 0))) (fun i y H H' s d => d.s s.s) (fun _ _ _ _ => trivial) (fun H s => SqL.of (s _ _ hb)) ?_ ?_⟩
    · rintro acc i x H3 H4 C C0 hi s3 hDl ⟨rfl, ex⟩ kC kC0
      obtain ⟨p, ep, tp⟩ := Prs.of_at (Dp.sameAll s3 _ dz) ex
      obtain ⟨xt, rfl, hxt⟩ := tp.pr_inv
      have hp := hh p (List.mem_of_getElem? ep)
      refine ⟨rfl, lc_yes ⟨_, rfl, xt, _, 0, _, rfl, rfl, hxt, at_of (j := 0) rfl rfl, _, rfl, xt, _, 1, _, rfl, rfl, hxt, at_of (j := 1) rfl rfl, fun c cx h1 h2 h3 => ?_⟩⟩
      refine use_Ticket h1 h2 h3 hp.1 hp.2 fun H5 s5 tk5 => kC _ _ s5 rfl fun o => ?_
      rw [getD_of ep]
      obtain ⟨c', dc, ec, hc⟩ := tk5
      exact ⟨c', dc, ec, by rw [upd_ne (ne_of hc (s5 _ _ hDl) (by intro z; cases z))]; exact hc⟩
    · intro H3 ys s3 hDl got
      have tks := got_tks got
      rw [hl] at tks
      have e : (List.range ps.length).map (fun i => ps.getD i (0, 0)) = ps := by
        have z := range_map ps (0, 0) id
        rw [List.map_id] at z
        exact z
      rw [e] at tks
      refine ⟨_, rfl, D, _, rfl, .inr (SqL.of hDl), fun r rx h1 h2 h3 => ?_⟩
      rw [List.append_nil]
      exact use_Row h1 h2 h3 tks pa (by rw [tks.len]; omega) fun H4 s4 r4 => k _ _ (s3.trans s4) r4
abbrev N_count_rows : List Str := ["desk"]
theorem sc_count_rows : FnScope N_count_rows ["desk"] (defScope s_count_rows) := ⟨rfl, rfl, rfl, by decide +kernel, rfl, by decide +kernel, by decide +kernel⟩
def sp_count_rows (K : PySem.W.Frag) : Sp := fun vs H Q _ => ∃ d ps, vs = [d] ∧ IsDesk K H d ps ∧ ps.length ≤ 7 ∧ (∀ p ∈ ps, hgt2 p) ∧ ∀ H', Same H H' → Q (.int ((listing ps).length : Nat)) H'
theorem ok_count_rows (T : Txt K mg) : FnR P w K mg base CX0 10 (He.ga K "count_rows") (sp_count_rows K) := by
  obtain ⟨fd, F⟩ := T.d_count_rows
  refine plainR F sc_count_rows (fun _ _ _ _ _ _ us hl => match us, hl with | [_], _ => rfl) (fun vs H Q E h => ?_) (fun cdv A outer s H vs Q E hr h => ?_)
  · obtain ⟨d, ps, rfl, _⟩ := h
    rfl
  · obtain ⟨d, ps, rfl, hd, hz, hh, k⟩ := h
    refine ⟨_, (pss_one (ps_ret (pe_callB (call_lenK K) (by rfl) T.f_len boot_len (pa_cons (pe_callR (ok_listed T) (by walk_at "room") (by rfl) T.g_listed T.k_listed pass0 (pa_cons (pv 0) pa_nil)) pa_nil)))), ?_⟩
    refine ⟨_, rfl, d, ps, rfl, hd, hz, hh, fun r H' ys s hr hp => ⟨r, ys, rfl, .inl (SqL.of hr), ?_⟩⟩
    rw [hp.len]
    exact k H' s
abbrev N_row_by_rank : List Str := ["desk", "rank", "found"]
theorem sc_row_by_rank : FnScope N_row_by_rank ["desk", "rank"] (defScope s_row_by_rank) := ⟨rfl, rfl, rfl, by decide +kernel, rfl, by decide +kernel, by decide +kernel⟩
def sp_row_by_rank (K : PySem.W.Frag) : Sp := fun vs H Q _ => ∃ d ps n q, vs = [d, .int ((n : Nat) : Int)] ∧ IsDesk K H d ps ∧ ps.length ≤ 7 ∧ (∀ p ∈ ps, hgt2 p) ∧ (listing ps)[n]? = some q ∧ ∀ r H', Same H H' → IsRow K H' r q → Q r H'
theorem ok_row_by_rank (T : Txt K mg) : FnR P w K mg base CX0 10 (He.ga K "row_by_rank") (sp_row_by_rank K) := by
  obtain ⟨fd, F⟩ := T.d_row_by_rank
  refine plainR F sc_row_by_rank (fun _ _ _ _ _ _ us hl => match us, hl with | [_, _], _ => rfl) (fun vs H Q E h => ?_) (fun cdv A outer s H vs Q E hr h => ?_)
  · obtain ⟨d, ps, n, q, rfl, _⟩ := h
    rfl
  · obtain ⟨d, ps, n, q, rfl, hd, hz, hh, en, k⟩ := h
    have hm : q ∈ listing ps := List.mem_of_getElem? en
    have hpq := listing_perm hh hm
    have hn : n < (listing ps).length := (List.getElem?_eq_some_iff.mp en).1
    refine ⟨_, (pss_cons (ps_set (i := 2) sc_row_by_rank.nd rfl (by walk_at "loc") (pe_callR (ok_listed T) (by walk_at "room") (by rfl) T.g_listed T.k_listed pass0 (pa_cons (pv 0) pa_nil)))
      (pss_cons (ps_if (pt_not (pt_val (pe_callR (ok_is_between T) (by walk_at "room") (by rfl) T.g_is_between T.k_is_between pass0 (pa_cons (pv 1) (pa_cons pe_int (pa_cons (pe_op op_sub (pe_callB (call_lenK K) (by rfl) T.f_len boot_len (pa_cons (pv 2) pa_nil)) pe_int) pa_nil)))))) (pss_never) pss_nil)
      (pss_one (ps_ret (pe_callR (ok_row_of T) (by walk_at "room") (by rfl) T.g_row_of T.k_row_of pass0 (pa_cons (pe_ix (ix_listK K) (pv 2) (pv 1) (fun _ _ => rfl)) pa_nil)))))), ?_⟩
    refine ⟨_, rfl, d, ps, rfl, hd, hz, hh, fun r H1 ys s1 hr hp => ?_⟩
    have hyl := hp.len
    refine ⟨_, rfl, _, rfl, r, ys, rfl, .inl (SqL.of hr), _, _, rfl, rfl, _, _, _, rfl, Knd.int _, _, rfl, ?_⟩
    rw [btw_yes (by omega)]
    refine iteF ?_
    have hny : n < ys.length := by omega
    obtain ⟨q', eq', pl⟩ := hp.at_ (List.getElem?_eq_getElem hny)
    cases en.symm.trans eq'
    exact ⟨_, rfl, _, rfl, r, ys, _, _, rfl, rfl, SqL.of hr, atI_nat (List.getElem?_eq_getElem hny), _, q, rfl, pl, listing_path hm, by rw [hpq.length_eq]; omega, fun p hp => hh p (hpq.mem_iff.mp hp), fun r2 H2 s2 h2 => k r2 H2 (s1.trans s2) h2⟩
abbrev N_rank_of_row : List Str := ["desk", "row", "found", "pairs"]
theorem sc_rank_of_row : FnScope N_rank_of_row ["desk", "row"] (defScope s_rank_of_row) := ⟨rfl, rfl, rfl, by decide +kernel, rfl, by decide +kernel, by decide +kernel⟩
def lp (ps : List PI2) : PyData := .list (prs ps)
theorem lay_lps : ∀ l : List (List PI2), PyData.canLayAll0 (l.map lp) = true
  | [] => by simp [PyData.canLayAll0]
  | ps :: l => by
    have z := lay_lps l
    have y := lay_prs ps
    simp [PyData.canLayAll0, z, lp, PyData.canLay0, y]
theorem depth_lps : ∀ l : List (List PI2), PyData.depthAll (l.map lp) ≤ 2
  | [] => by simp [PyData.depthAll]
  | ps :: l => by
    have z := depth_lps l
    have y := depth_prs ps
    simp only [List.map_cons, PyData.depthAll, lp, PyData.depth]
    omega
theorem shaped_lps (l : List (List PI2)) : SeqAt.shaped (.list (l.map lp)) = true := shaped_list (lay_lps l) (Nat.le_trans (depth_lps l) (by decide))
theorem IsPls.data {K : PySem.W.Frag} {H : Hp} : ∀ {vs : List V} {l : List (List PI2)}, IsPls K H vs l → DpAll K H vs (l.map lp)
  | _, _, .nil => .nil
  | _, _, .cons ⟨b, zs, e, hb, d⟩ t => .cons (by rw [e]; exact .lst (SqL.of hb) d) (IsPls.data t)
theorem any_lps (l : List (List PI2)) (q : List PI2) : ((l.map lp).any fun z => PyData.eqv z (lp q)) = decide (q ∈ l) := by
  rw [List.any_map]
  cases e : decide (q ∈ l) with
  | true => exact List.any_eq_true.mpr ⟨q, of_decide_eq_true e, (eqv_lprs q q).trans (decide_eq_true rfl)⟩
  | false =>
    refine List.any_eq_false.mpr fun r hr y => of_decide_eq_false e ?_
    have y2 := (eqv_lprs r q).symm.trans y
    rw [← of_decide_eq_true y2]
    exact hr
def sp_rank_of_row (K : PySem.W.Frag) : Sp := fun vs H Q _ => ∃ d r ps n q, vs = [d, r] ∧ IsDesk K H d ps ∧ IsRow K H r q ∧ ps.length ≤ 7 ∧ (∀ p ∈ ps, hgt2 p) ∧ (listing ps)[n]? = some q ∧ ∀ H', Same H H' → Q (.int ((n : Nat) : Int)) H'
theorem ok_rank_of_row (T : Txt K mg) : FnR P w K mg base CX0 10 (He.ga K "rank_of_row") (sp_rank_of_row K) := by
  obtain ⟨fd, F⟩ := T.d_rank_of_row
  refine plainR F sc_rank_of_row (fun _ _ _ _ _ _ us hl => match us, hl with | [_, _], _ => rfl) (fun vs H Q E h => ?_) (fun cdv A outer s H vs Q E hr h => ?_)
  · obtain ⟨d, r, ps, n, q, rfl, _⟩ := h
    rfl
  · obtain ⟨d, r, ps, n, q, rfl, hd, hrow, hz, hh, en, k⟩ := h
    have hm : q ∈ listing ps := List.mem_of_getElem? en
    refine ⟨_, (pss_cons (ps_par (i := 2) (j := 3) (by rfl) sc_rank_of_row.nd rfl rfl (by decide) rfl rfl (pa_cons (pe_callR (ok_listed T) (by walk_at "room") (by rfl) T.g_listed T.k_listed pass0 (pa_cons (pv 0) pa_nil)) (pa_cons (pe_callTy (call_list_ofK K) (by rfl) T.f_list boot_list (pa_cons (pe_fldK K (pv 1)) pa_nil)) pa_nil)) (by rfl))
      (pss_cons (ps_if (pt_cmpR (op_notInDK K (by walk_at "room65")) (pv 3) (pv 2) rfl) (pss_never) pss_nil)
      (pss_one (ps_ret (pe_bmK K PySem.F.plainAttrs_list PySem.F.slot_list_index PySem.F.type_list_index (mt_indexDK K (by walk_at "room65")) (pv 2) (pa_cons (pv 3) pa_nil)))))), ?_⟩
    refine ⟨_, rfl, d, ps, rfl, hd, hz, hh, fun f H1 ys s1 hf hp => ?_⟩
    obtain ⟨a, t, us, u, rfl, ⟨dx, ha⟩, _, _, ws, hw, dw⟩ := hrow.s s1.s
    refine ⟨_, rfl, _, _, dx, _, _, rfl, ha, T.c_Row, T.n_Row_pairs, rfl, u, ws, rfl, .inr (SqT.of hw), fun l nl => ?_⟩
    have s2 := Same.new (o := .lst ws) nl
    have hpd := (hp.same s2).data
    have dl : Dp K (upd H1 l (.lst ws)) (.ref l) (lp q) := .lst (SqL.of upd_same) (Dp.sameAll s2 _ dw)
    have df : Dp K (upd H1 l (.lst ws)) (.ref f) (.list ((listing ps).map lp)) := .lst (SqL.of (s2 _ _ hf)) hpd
    have s3 := s1.trans s2
    generalize upd H1 l (.lst ws) = H2 at dl df s3
    refine ⟨_, _, rfl, _, rfl, _, rfl, lp q, (listing ps).map lp, dl, df, shaped_lprs q, shaped_lps _, ?_⟩
    rw [any_lps, decide_eq_true hm]
    refine ⟨_, rfl, iteF ?_⟩
    have hl : (listing ps).map lp ≠ [] := fun z => by
      rw [List.map_eq_nil_iff.mp z] at hm
      cases hm
    refine ⟨_, rfl, .inl ⟨rfl, ?_⟩, _, rfl, f, .ref l, lp q, (listing ps).map lp, n, lp q, rfl, rfl, df, dl, shaped_lps _, shaped_lprs q, ?_, (eqv_lprs q q).trans (decide_eq_true rfl), ?_, k _ s3⟩
    · cases df with
      | lst h1 _ => exact ⟨_, h1⟩
    · rw [List.getElem?_map, en] <;> rfl
    · intro m z' hmn ez
      rw [List.getElem?_map] at ez
      cases ej : (listing ps)[m]? with
      | none => rw [ej] at ez; cases ez
      | some q' =>
        rw [ej] at ez
        cases ez
        refine (eqv_lprs q' q).trans (decide_eq_false fun e => ?_)
        subst e
        have := listing_first ej en hh
        omega

end
end K41

set_option maxHeartbeats 4000000
namespace K41
open PySem PySem.Spec PyProof.Rows L2 CT
local macro_rules | `(tactic| walk_at "room") => `(tactic| first | assumption | exact Room.mono (by assumption) (by decide))
local macro_rules | `(tactic| walk_at "room64") => `(tactic| exact Room.units (by assumption))
local macro_rules | `(tactic| walk_at "room65") => `(tactic| exact room65 (by assumption))
local macro_rules | `(tactic| walk_at "hu") => `(tactic| exact hu_of (by assumption))
local macro_rules | `(tactic| walk_at "loc") => `(tactic| first | exact Or.inl rfl | exact Or.inr rfl)
local macro_rules | `(tactic| walk_at "hp") => `(tactic| first
  | assumption
  | exact upd_same
  | (refine upd_get (by assumption) ?_; walk_at "hp")
  | (refine Same.get (by assumption) ?_; walk_at "hp")
  | (refine SameS.get (by assumption) (by first | trivial | exact ⟨rfl, rfl⟩) ?_; walk_at "hp"))
local macro_rules | `(tactic| walk_at "same") => `(tactic| first
  | assumption
  | exact Same.refl _
  | (refine Same.trans ?_ (Same.new (by assumption)); walk_at "same")
  | (refine Same.trans ?_ (by assumption); walk_at "same"))
section
variable {P : Program} {w : World} {K : PySem.W.Frag} {mg : Str → Option Value} {base : Heap}
/-! ### draws -/
abbrev Sk (s : String) : L2.Key := Sum.inr (Str.ofString s)
def mD (c g : Addr) (n : Int) : List (L2.Key × V) := [(Sk "cells", .ref c), (Sk "great", .ref g), (Sk "spot", .int n)]
theorem val_cells (c g : Addr) (n : Int) : some (V.ref c) = valV (mD c g n) (Sk "cells") := by kernel_rfl
theorem val_great (c g : Addr) (n : Int) : some (V.ref g) = valV (mD c g n) (Sk "great") := by kernel_rfl
theorem val_spot (c g : Addr) (n : Int) : some (V.int n) = valV (mD c g n) (Sk "spot") := by kernel_rfl
theorem put_spot (c g : Addr) (n k : Int) : putK (mD c g n) (Sk "spot") (.int k) = mD c g k := by kernel_rfl
theorem put_great (c g g' : Addr) (n : Int) : putK (mD c g n) (Sk "great") (.ref g') = mD c g' n := by kernel_rfl
theorem merge_m (c g : Addr) (n : Int) : mergeK [] (mD c g n) = mD c g n := by kernel_rfl
def InR (cs : List Int) : Prop := ∀ x ∈ cs, 0 ≤ x ∧ x < 2 ^ 31
structure MAt (H : Hp) (m c g : Addr) (B : Nat) : Prop where
  x : ∃ (n : Nat) (cs gs : List Int), H m = some (.dK (mD c g n)) ∧ H c = some (.lst (cs.map V.int)) ∧ cs.length = 64 ∧ InR cs ∧ H g = some (.lst (gs.map V.int)) ∧ (∀ x ∈ gs, 0 ≤ x) ∧ n + B ≤ 2 ^ 40
  ne : c ≠ g
theorem MAt.same {H H' : Hp} {m c g : Addr} {B : Nat} (s : Same H H') (h : MAt H m c g B) : MAt H' m c g B := by
  obtain ⟨⟨n, cs, gs, h1, h2, h3, h4, h5, h6, h7⟩, h8⟩ := h
  exact ⟨⟨n, cs, gs, s _ _ h1, s _ _ h2, h3, h4, s _ _ h5, h6, h7⟩, h8⟩
theorem MAt.le {H : Hp} {m c g : Addr} {B B' : Nat} (h : MAt H m c g B) (l : B' ≤ B) : MAt H m c g B' := by
  obtain ⟨⟨n, cs, gs, h1, h2, h3, h4, h5, h6, h7⟩, h8⟩ := h
  exact ⟨⟨n, cs, gs, h1, h2, h3, h4, h5, h6, by omega⟩, h8⟩
/-- a list that was not there when m was: what becomes of it does not matter -/
theorem MAt.upd {H H0 : Hp} {m c g D : Addr} {B B0 : Nat} {o : HO} (h : MAt H m c g B) (h0 : MAt H0 m c g B0) (hD : H0 D = none) : MAt (upd H D o) m c g B := by
  obtain ⟨⟨_, _, _, g1, g2, _, _, g5, _, _⟩, _⟩ := h0
  obtain ⟨⟨n, cs, gs, h1, h2, h3, h4, h5, h6, h7⟩, h8⟩ := h
  exact ⟨⟨n, cs, gs, by rw [upd_ne (ne_of_none g1 hD)]; exact h1, by rw [upd_ne (ne_of_none g2 hD)]; exact h2, h3, h4, by rw [upd_ne (ne_of_none g5 hD)]; exact h5, h6, h7⟩, h8⟩
theorem SameS.dk {H : Hp} {m : Addr} {k : List (L2.Key × V)} {o : HO} (h : H m = some (.dK k)) : SameS H (upd H m o) := fun b u e c => by
  by_cases hb : b = m
  · subst hb
    cases h.symm.trans e
    exact False.elim c
  · rw [upd_ne hb]
    exact e
theorem SameS.il {H : Hp} {m : Addr} {z : Int} {r : List V} {o : HO} (h : H m = some (.lst (.int z :: r))) : SameS H (upd H m o) := fun b u e c => by
  by_cases hb : b = m
  · subst hb
    cases h.symm.trans e
    exact False.elim c
  · rw [upd_ne hb]
    exact e
theorem ix_of {n : Nat} {i : Int} {j : Nat} (e : i = (j : Nat)) (h : j < n) : ixN n i = some j := by
  subst e
  unfold ixN
  rw [if_pos (by omega), if_pos (by omega)] <;> rfl
theorem at_int {cs : List Int} {i : Int} {j : Nat} {v : Int} (e : i = (j : Nat)) (h : cs[j]? = some v) : atI (cs.map V.int) i = some (.int v) := at_of e (by rw [List.getElem?_map, h] <;> rfl)
theorem ne_ints (gs : List Int) : (!PyData.eqv (.list (gs.map PyData.int)) (.list [])) = decide (gs ≠ []) := by
  cases gs with
  | nil => simp [PyData.eqv, PyData.eqvAll]
  | cons a r => simp [PyData.eqv, PyData.eqvAll]
theorem lay_ints : ∀ gs : List Int, PyData.canLayAll0 (gs.map PyData.int) = true
  | [] => by simp [PyData.canLayAll0]
  | a :: r => by
    have z := lay_ints r
    simp [PyData.canLayAll0, z, PyData.canLay0]
theorem depth_ints : ∀ gs : List Int, PyData.depthAll (gs.map PyData.int) ≤ 1
  | [] => by simp [PyData.depthAll]
  | a :: r => by
    have z := depth_ints r
    simp only [List.map_cons, PyData.depthAll, PyData.depth]
    omega
theorem shaped_ints (gs : List Int) : SeqAt.shaped (.list (gs.map PyData.int)) = true := shaped_list (lay_ints gs) (Nat.le_trans (depth_ints gs) (by decide))
abbrev N__law_mixed : List Str := ["cell", "n", "turned"]
theorem sc__law_mixed : FnScope N__law_mixed ["cell", "n"] (defScope s__law_mixed) := ⟨rfl, rfl, rfl, by decide +kernel, rfl, by decide +kernel, by decide +kernel⟩
def sp__law_mixed : Sp := fun vs H Q _ => ∃ a n : Int, vs = [.int a, .int n] ∧ (0 ≤ a ∧ a < 2 ^ 64) ∧ (0 ≤ n ∧ n < 2 ^ 64) ∧ ∀ r : Int, 0 ≤ r → r < 2 ^ 31 → Q (.int r) H
theorem ok__law_mixed (T : Txt K mg) : FnR P w K mg base CX0 1 (He.ga K "_law_mixed") sp__law_mixed := by
  obtain ⟨fd, F⟩ := T.d__law_mixed
  refine plainR F sc__law_mixed (fun _ _ _ _ _ _ us hl => match us, hl with | [_, _], _ => rfl) (fun vs H Q E h => ?_) (fun cdv A outer s H vs Q E hr h => ?_)
  · obtain ⟨a, n, rfl, _⟩ := h
    rfl
  · obtain ⟨a, n, rfl, ha, hn, k⟩ := h
    refine ⟨_, (pss_cons (ps_set (i := 2) sc__law_mixed.nd rfl (by walk_at "loc") (pe_op op_add (pe_op op_add (pe_op op_mod (pe_op op_mulW (pe_op op_mulW (pv 0) (pe_op op_add pe_int (pe_op op_mulW pe_int (pv 1)))) pe_int) pe_int) (pe_op op_mulW (pe_op op_mulW pe_int (pv 1)) (pv 1))) (pe_op op_mulW pe_int (pv 1))))
      (pss_one (ps_ret (pe_op op_fdivW (pe_op op_mod (pe_op op_mulW (pv 2) pe_int) pe_int) pe_int)))), ?_⟩
    have ba : a.natAbs < 2 ^ 64 := by omega
    have bn : n.natAbs < 2 ^ 64 := by omega
    have b1 : (1 + 2 * n).natAbs < 2 ^ 66 := by omega
    have b2 : (a * (1 + 2 * n)).natAbs < 2 ^ 130 := wide_lt ba b1
    have b3 : (7919 * n).natAbs < 2 ^ 77 := wide_lt (a := 13) (b := 64) (by decide) bn
    have b4 : (7919 * n * n).natAbs < 2 ^ 141 := wide_lt b3 bn
    have b5 : (104729 * n).natAbs < 2 ^ 81 := wide_lt (a := 17) (b := 64) (by decide) bn
    refine ⟨_, rfl, _, rfl, _, _, rfl, rfl, wide_mul (a := 2) (b := 64) (by decide) bn (by decide) (by decide) (by decide), _, _, rfl, rfl, _, _, rfl, rfl, wide_mul (a := 64) (b := 66) ba b1 (by decide) (by decide) (by decide), _, _, rfl, rfl, wide_mul (a := 130) (b := 16) b2 (by decide) (by decide) (by decide) (by decide), _, _, rfl, rfl, (by show (0 : Int) < 2147483647; decide), ?_⟩
    refine ⟨_, rfl, _, _, rfl, rfl, wide_mul (a := 13) (b := 64) (by decide) bn (by decide) (by decide) (by decide), _, rfl, _, _, rfl, rfl, wide_mul (a := 77) (b := 64) b3 bn (by decide) (by decide) (by decide), _, _, rfl, rfl, _, rfl, _, _, rfl, rfl, wide_mul (a := 17) (b := 64) (by decide) bn (by decide) (by decide) (by decide), _, _, rfl, rfl, ?_⟩
    generalize 7919 * n * n = y at b4
    generalize 104729 * n = z at b5
    generalize a * (1 + 2 * n) * 48271 = x
    have b6 : (x % 2147483647 + y + z).natAbs < 2 ^ 142 := by omega
    refine ⟨_, rfl, _, _, rfl, rfl, wide_mul (a := 142) (b := 17) b6 (by decide) (by decide) (by decide) (by decide), _, _, rfl, rfl, (by show (0 : Int) < 2147483629; decide), _, _, rfl, rfl, wide_div (b := 3) (by decide) (by decide) (by decide) (by decide), ?_⟩
    generalize (x % 2147483647 + y + z) * 69621 = u
    exact k _ (by omega) (by omega)
abbrev N__law_draw : List Str := ["m", "top", "n", "at", "cell"]
theorem sc__law_draw : FnScope N__law_draw ["m", "top"] (defScope s__law_draw) := ⟨rfl, rfl, rfl, by decide +kernel, rfl, by decide +kernel, by decide +kernel⟩
def sp__law_draw (K : PySem.W.Frag) : Sp := fun vs H Q _ => ∃ (m c g : Addr) (B : Nat) (top : Int), vs = [.ref m, .int top] ∧ MAt H m c g (B + 1) ∧ 0 < top ∧ top < 2 ^ 64 ∧ ∀ (r : Int) H', SameS H H' → MAt H' m c g B → 0 ≤ r → r < top → (∀ b o, H b = some o → b ≠ m → b ≠ g → H' b = some o) → Q (.int r) H'
theorem ok__law_draw (T : Txt K mg) : FnR P w K mg base CX0 2 (He.ga K "_law_draw") (sp__law_draw K) := by
  obtain ⟨fd, F⟩ := T.d__law_draw
  refine plainR F sc__law_draw (fun _ _ _ _ _ _ us hl => match us, hl with | [_, _], _ => rfl) (fun vs H Q E h => ?_) (fun cdv A outer s H vs Q E hr h => ?_)
  · obtain ⟨m, c, g, B, top, rfl, _⟩ := h
    rfl
  · obtain ⟨m, c, g, B, top, rfl, ⟨⟨n, cs, gs, hm, hc, hcl, hcr, hg, hgr, hB⟩, hne⟩, ht0, ht1, k⟩ := h
    have cm : c ≠ m := ne_of hc hm (by intro z; cases z)
    have gm : g ≠ m := ne_of hg hm (by intro z; cases z)
    refine ⟨_, (pss_cons (ps_set (i := 2) sc__law_draw.nd rfl (by walk_at "loc") (pe_dget (by walk_at "hu") (pv 0) pe_str (fun _ _ => rfl)))
      (pss_cons (ps_dput (by walk_at "hu") (pv 0) pe_str (pe_op op_add (pv 2) pe_int) rfl)
      (pss_cons (ps_if (pt_cmpR (op_neDK K (by walk_at "room64")) (pe_dget (by walk_at "hu") (pv 0) pe_str (fun _ _ => rfl)) (pe_lst pa_nil) (nomark _)) (pss_cons (ps_set (i := 3) sc__law_draw.nd rfl (by walk_at "loc") (pe_op op_mod (pv 2) (pe_callB (call_lenK K) (by rfl) T.f_len boot_len (pa_cons (pe_dget (by walk_at "hu") (pv 0) pe_str (fun _ _ => rfl)) pa_nil))))
      (pss_cons (ps_set (i := 4) sc__law_draw.nd rfl (by walk_at "loc") (pe_ix (ix_listK K) (pe_dget (by walk_at "hu") (pv 0) pe_str (fun _ _ => rfl)) (pv 3) (fun _ _ => rfl)))
      (pss_one (ps_if (pt_cmpR op_gt (pv 4) pe_int (nomark _)) (pss_cons (ps_asg (pe_op op_fdivW (pv 4) (pv 1)) (pg_sub (pe_dget (by walk_at "hu") (pv 0) pe_str (fun _ _ => rfl)) (pv 3) set_list))
      (pss_one (ps_ret (pe_op op_mod (pv 4) (pv 1))))) pss_nil)))) pss_nil)
      (pss_one (ps_ret (pe_op op_mod (pe_callR (ok__law_mixed T) (by walk_at "room") (by rfl) T.g__law_mixed T.k__law_mixed pass0 (pa_cons (pe_callR (ok__law_mixed T) (by walk_at "room") (by rfl) T.g__law_mixed T.k__law_mixed pass0 (pa_cons (pe_op op_add (pe_ix (ix_listK K) (pe_dget (by walk_at "hu") (pv 0) pe_str (fun _ _ => rfl)) (pe_op op_mod (pv 2) pe_int) (fun _ _ => rfl)) (pe_op op_mulW pe_int (pe_op op_fdivW (pv 2) pe_int))) (pa_cons (pv 2) pa_nil))) (pa_cons (pe_op op_add (pv 2) pe_int) pa_nil))) (pv 1))))))), ?_⟩
    refine ⟨_, rfl, m, _, rfl, .inl ⟨_, Sk "spot", .inl hm, rfl, val_spot c g n⟩, ?_⟩
    refine ⟨_, rfl, _, _, rfl, rfl, _, rfl, m, _, rfl, .inl ⟨_, Sk "spot", hm, rfl, (by show 3 < sizeLine; decide), rfl⟩, ?_⟩
    rw [put_spot]
    have s1 : SameS H (upd H m (.dK (mD c g ((n : Int) + 1)))) := SameS.dk hm
    have hm1 : upd H m (.dK (mD c g ((n : Int) + 1))) m = some (.dK (mD c g ((n : Int) + 1))) := upd_same
    have hc1 : upd H m (.dK (mD c g ((n : Int) + 1))) c = some (.lst (cs.map V.int)) := by rw [upd_ne cm]; exact hc
    have hg1 : upd H m (.dK (mD c g ((n : Int) + 1))) g = some (.lst (gs.map V.int)) := by rw [upd_ne gm]; exact hg
    have d1 : ∀ b o, H b = some o → b ≠ m → upd H m (.dK (mD c g ((n : Int) + 1))) b = some o := fun b o hb n1 => by rw [upd_ne n1]; exact hb
    generalize upd H m (.dK (mD c g ((n : Int) + 1))) = H1 at s1 hm1 hc1 hg1 d1
    have hfin : ∀ H2, Same H1 H2 → MAt H2 m c g B := fun H2 s => ⟨⟨n + 1, cs, gs, s _ _ hm1, s _ _ hc1, hcl, hcr, s _ _ hg1, hgr, by omega⟩, hne⟩
    refine ⟨_, rfl, m, _, rfl, .inl ⟨_, Sk "great", .inl hm1, rfl, val_great c g _⟩, Nat.zero_le _, fun e0 ne0 => ?_⟩
    have s2 : Same H1 (upd H1 e0 (.lst [])) := Same.new ne0
    have he0 : upd H1 e0 (.lst []) e0 = some (.lst []) := upd_same
    generalize upd H1 e0 (.lst []) = H2 at s2 he0
    have hm2 := s2 _ _ hm1
    have hc2 := s2 _ _ hc1
    have hg2 := s2 _ _ hg1
    have s12 : SameS H H2 := s1.trans s2.s
    refine ⟨.list (gs.map PyData.int), .list [], .lst (SqL.of hg2) (DpAll.ints gs), .lst (SqL.of he0) .nil, shaped_ints gs, shaped_ints [], ?_⟩
    rw [ne_ints]
    -- the last line
    have last : ∀ σ, σ[0]? = some (some (V.ref m)) → σ[1]? = some (some (V.int top)) → σ[2]? = some (some (V.int (n : Nat))) →
        tRet (tOp (rI (fun _ j => 0 < j) fun i j => .int (i % j)) (tCallR sp__law_mixed (fun _ _ _ => False) (tCons (tCallR sp__law_mixed (fun _ _ _ => False) (tCons (tOp (rI0 fun i j => .int (i + j)) (tOp (rIxL K) (tDGet (tVar 0) (tC (.str "cells"))) (tOp (rI (fun _ j => 0 < j) fun i j => .int (i % j)) (tVar 2) (tC (.int 64)))) (tOp (rI CMulW fun i j => .int (i * j)) (tC (.int 31)) (tOp (rI CDivW fun i j => .int (i / j)) (tVar 2) (tC (.int 64))))) (tCons (tVar 2) tNil))) (tCons (tOp (rI0 fun i j => .int (i + j)) (tVar 2) (tC (.int 7))) tNil))) (tVar 1)) { nx := fun _ H' => Q .non H', rt := Q } σ H2 := by
      intro σ e0 e1 e2
      have hj : n % 64 < cs.length := by omega
      have ex : cs[n % 64]? = some cs[n % 64] := List.getElem?_eq_getElem hj
      have hx := hcr _ (List.getElem_mem hj)
      generalize cs[n % 64] = x at ex hx
      refine ⟨_, e0, m, _, rfl, .inl ⟨_, Sk "cells", .inl hm2, rfl, val_cells c g _⟩, _, e2, _, _, rfl, rfl, (by show (0 : Int) < 64; decide), c, _, _, _, rfl, rfl, SqL.of hc2, at_int (j := n % 64) (by omega) ex, ?_⟩
      refine ⟨_, e2, _, _, rfl, rfl, wide_div (b := 7) (by decide) (by decide) (by decide) (by decide), _, _, rfl, rfl, wide_mul (a := 5) (b := 41) (by decide) (by omega) (by decide) (by decide) (by decide), _, _, rfl, rfl, _, e2, ?_⟩
      refine ⟨_, _, rfl, by omega, by omega, fun r hr0 hr1 => ?_⟩
      refine ⟨_, e2, _, _, rfl, rfl, _, _, rfl, by omega, by omega, fun r2 hr2 hr3 => ⟨_, e1, _, _, rfl, rfl, ht0, ?_⟩⟩
      exact k _ _ s12 (hfin H2 s2) (Int.emod_nonneg _ (by omega)) (Int.emod_lt_of_pos _ ht0) fun b o hb n1 n2 => s2 _ _ (d1 b o hb n1)
    refine ⟨_, rfl, iteB (fun e => ?_) (fun e => last _ rfl rfl rfl)⟩
    have hgn : gs ≠ [] := of_decide_eq_true e
    have hgl : 0 < gs.length := List.length_pos_iff.mpr hgn
    refine ⟨_, rfl, _, rfl, m, _, rfl, .inl ⟨_, Sk "great", .inl hm2, rfl, val_great c g _⟩, g, _, rfl, .inl (SqL.of hg2), _, _, rfl, rfl, ?_⟩
    rw [List.length_map]
    refine ⟨(by show (0 : Int) < (gs.length : Nat); omega), ?_⟩
    have hj : n % gs.length < gs.length := Nat.mod_lt _ hgl
    have ex : gs[n % gs.length]? = some gs[n % gs.length] := List.getElem?_eq_getElem hj
    have hx := hgr _ (List.getElem_mem hj)
    generalize gs[n % gs.length] = x at ex hx
    have ej : ((n : Nat) : Int) % ((gs.length : Nat) : Int) = ((n % gs.length : Nat) : Int) := (Int.natCast_emod _ _).symm
    refine ⟨_, rfl, m, _, rfl, .inl ⟨_, Sk "great", .inl hm2, rfl, val_great c g _⟩, _, rfl, g, _, _, _, rfl, rfl, SqL.of hg2, at_int ej ex, ?_⟩
    refine ⟨_, rfl, _, _, rfl, rfl, _, rfl, iteB (fun e2 => ?_) (fun e2 => last _ rfl rfl rfl)⟩
    have hx0 : 0 < x := of_decide_eq_true e2
    refine ⟨_, rfl, _, rfl, _, _, rfl, rfl, wide_div (b := 64) ht0 (by omega) (by decide) (by decide), ?_⟩
    refine ⟨_, rfl, m, _, rfl, .inl ⟨_, Sk "great", .inl hm2, rfl, val_great c g _⟩, _, rfl, g, _, _, _, rfl, rfl, hg2, ix_of ej (by rw [List.length_map]; exact hj), ?_⟩
    refine ⟨_, rfl, _, rfl, _, _, rfl, rfl, ht0, ?_⟩
    have hset : (gs.map V.int).set (n % gs.length) (.int (x / top)) = (gs.set (n % gs.length) (x / top)).map V.int := by rw [List.map_set]
    refine k _ _ ?_ ⟨⟨n + 1, cs, gs.set (n % gs.length) (x / top), ?_, ?_, hcl, hcr, ?_, ?_, by omega⟩, hne⟩ (Int.emod_nonneg _ (by omega)) (Int.emod_lt_of_pos _ ht0) fun b o hb n1 n2 => by rw [upd_ne n2]; exact s2 _ _ (d1 b o hb n1)
    · cases gs with
      | nil => exact absurd rfl hgn
      | cons a r => exact s12.trans (SameS.il hg2)
    · rw [upd_ne (Ne.symm gm)]
      exact hm2
    · rw [upd_ne hne]
      exact hc2
    · rw [upd_same]
      exact congrArg (fun l => some (HO.lst l)) hset
    · intro z hz
      rcases List.mem_or_eq_of_mem_set hz with h | h
      · exact hgr z h
      · rw [h]
        exact Int.ediv_nonneg (by omega) (by omega)

end
end K41

set_option maxHeartbeats 4000000
namespace K41
open PySem PySem.Spec PyProof.Rows L2 CT
local macro_rules | `(tactic| walk_at "room") => `(tactic| first | assumption | exact Room.mono (by assumption) (by decide))
local macro_rules | `(tactic| walk_at "room64") => `(tactic| exact Room.units (by assumption))
local macro_rules | `(tactic| walk_at "room65") => `(tactic| exact room65 (by assumption))
local macro_rules | `(tactic| walk_at "hu") => `(tactic| exact hu_of (by assumption))
local macro_rules | `(tactic| walk_at "loc") => `(tactic| first | exact Or.inl rfl | exact Or.inr rfl)
local macro_rules | `(tactic| walk_at "hp") => `(tactic| first
  | assumption
  | exact upd_same
  | (refine upd_get (by assumption) ?_; walk_at "hp")
  | (refine Same.get (by assumption) ?_; walk_at "hp")
  | (refine SameS.get (by assumption) (by first | trivial | exact ⟨rfl, rfl⟩) ?_; walk_at "hp"))
local macro_rules | `(tactic| walk_at "same") => `(tactic| first
  | assumption
  | exact Same.refl _
  | (refine Same.trans ?_ (Same.new (by assumption)); walk_at "same")
  | (refine Same.trans ?_ (by assumption); walk_at "same"))
section
variable {P : Program} {w : World} {K : PySem.W.Frag} {mg : Str → Option Value} {base : Heap}
/-- a list of the law's caller: it stays -/
def SqF (K : PySem.W.Frag) (H : Hp) (a : Addr) (xs : List V) : Prop := (∃ o, H a = some (.frz o (.lst xs))) ∨ SqL K (fun _ => none) a xs
theorem SqF.s {K : PySem.W.Frag} {H H' : Hp} {a : Addr} {xs : List V} (h : SqF K H a xs) (s : SameS H H') : SqF K H' a xs := by
  rcases h with ⟨o, h⟩ | h
  · exact .inl ⟨o, s _ _ h trivial⟩
  · exact .inr h
theorem SqF.l {K : PySem.W.Frag} {H : Hp} {a : Addr} {xs : List V} (h : SqF K H a xs) : SqL K H a xs := by
  rcases h with ⟨o, h⟩ | (h | ⟨o, h⟩) | h
  · exact .inl (.inr ⟨o, h⟩)
  · cases h
  · cases h
  · exact .inr h
theorem SqF.of {K : PySem.W.Frag} {H : Hp} {a : Addr} {xs : List V} (hO : Only H) (h : SqL K H a xs) : SqF K H a xs := by
  rcases h with (h | ⟨o, h⟩) | h
  · rcases hO a with z | ⟨o, ys, z⟩
    · rw [z] at h
      cases h
    · rw [z] at h
      cases h
  · exact .inl ⟨o, h⟩
  · exact .inr (.inr h)
abbrev N__law_folded : List Str := ["script", "found", "n", "cell"]
theorem sc__law_folded : FnScope N__law_folded ["script"] (defScope s__law_folded) := ⟨rfl, rfl, rfl, by decide +kernel, rfl, by decide +kernel, by decide +kernel⟩
theorem inR_set {cs : List Int} {j : Nat} {v : Int} (h : InR cs) (h0 : 0 ≤ v ∧ v < 2 ^ 31) : InR (cs.set j v) := fun z hz => by
  rcases List.mem_or_eq_of_mem_set hz with h1 | h1
  · exact h z h1
  · rw [h1]
    exact h0
theorem set_ints (cs : List Int) (j : Nat) (v : Int) : (cs.map V.int).set j (.int v) = (cs.set j v).map V.int := by rw [List.map_set]
def sp__law_folded (K : PySem.W.Frag) : Sp := fun vs H Q _ => ∃ s, ∃ xs : List Int, vs = [.ref s] ∧ SqF K H s (xs.map V.int) ∧ xs.length ≤ 1000 ∧ ∀ (r : Addr) (cs : List Int) H', Same H H' → H' r = some (.lst (cs.map V.int)) → H r = none → cs.length = 64 → InR cs → Q (.ref r) H'
theorem ok__law_folded (T : Txt K mg) : FnR P w K mg base CX0 1 (He.ga K "_law_folded") (sp__law_folded K) := by
  obtain ⟨fd, F⟩ := T.d__law_folded
  refine plainR F sc__law_folded (fun _ _ _ _ _ _ us hl => match us, hl with | [_], _ => rfl) (fun vs H Q E h => ?_) (fun cdv A outer s H vs Q E hr h => ?_)
  · obtain ⟨s, xs, rfl, _⟩ := h
    rfl
  · obtain ⟨s0, xs, rfl, hs, hl, k⟩ := h
    refine ⟨_, (pss_cons (ps_setLc (i := 1) (own := [("n", 2)]) rfl sc__law_folded.nd rfl rfl (sw_true rfl rfl rfl (by decide +kernel)) (pi_range1 (by rfl) T.f_range (pa_cons pe_int pa_nil)) (blkOk_by (own := [("n", 2)]) (N := N__law_folded) (sc := defScope s__law_folded) (by decide +kernel)) (fun _ _ _ _ _ => (pg_name (i := 2) sc__law_folded.nd rfl (by walk_at "loc"))) (fun _ _ _ _ _ => pts_nil) (fun _ _ _ _ _ => (pe_op op_add pe_int (pv 2))))
      (pss_cons (ps_for PassesOwn.never rfl (pi_enum (by rfl) T.f_enumerate (pa_cons (pv 0) pa_nil)) (pg_tupK K 2 rfl (pgs_cons (pg_name (i := 2) sc__law_folded.nd rfl (by walk_at "loc")) (pgs_cons (pg_name (i := 3) sc__law_folded.nd rfl (by walk_at "loc")) pgs_nil)))
      (pss_one (ps_asg (pe_op op_mod (pe_op op_add (pe_op op_mulW (pe_ix (ix_listK K) (pv 1) (pe_op op_mod (pv 2) pe_int) (fun _ _ => rfl)) pe_int) (pv 3)) pe_int) (pg_sub (pv 1) (pe_op op_mod (pv 2) pe_int) set_list))))
      (pss_cons (ps_for PassesOwn.never rfl (pi_range2 (by rfl) T.f_range (pa_cons pe_int (pa_cons pe_int pa_nil))) (pg_name (i := 2) sc__law_folded.nd rfl (by walk_at "loc"))
      (pss_one (ps_asg (pe_op op_mod (pe_op op_add (pe_ix (ix_listK K) (pv 1) (pv 2) (fun _ _ => rfl)) (pe_op op_mulW (pe_ix (ix_listK K) (pv 1) (pe_op op_sub (pv 2) pe_int) (fun _ _ => rfl)) pe_int)) pe_int) (pg_sub (pv 1) (pv 2) set_list))))
      (pss_one (ps_ret (pv 1)))))), ?_⟩
    refine ⟨_, rfl, by decide, by decide, fun D hD => lc_gen wSame walk_range hD (by decide) (fun _ => true) (fun i y H => y = .int (17 + (i : Nat))) (fun i y H H' s d => d) (fun _ _ _ _ => trivial) (fun H s => trivial) ?_ ?_⟩
    · rintro acc i x H3 H4 C C0 hi s3 hDl ⟨rfl, rfl⟩ kC kC0
      refine ⟨rfl, lc_yes ⟨_, rfl, _, _, rfl, rfl, kC _ _ (Same.refl _) rfl fun o => ?_⟩⟩
      rw [Int.zero_add]
    · intro H3 ys s3 hDl got
      rw [got_ints got] at hDl
      have c0 : ∃ cs : List Int, cs.length = 64 ∧ InR cs ∧ H3 D = some (.lst (cs.map V.int)) := ⟨_, by rw [List.length_map, List.length_range] <;> rfl, fun z hz => by
        obtain ⟨i, hi, rfl⟩ := List.mem_map.mp hz
        have := List.mem_range.mp hi
        have e64 : (64 : Int).toNat = 64 := rfl
        omega, hDl⟩
      refine ⟨_, rfl, s0, _, rfl, (hs.s s3.s).l, for_it walk_enum (fun i σ H' => Same H H' ∧ (∃ cs : List Int, cs.length = 64 ∧ InR cs ∧ H' D = some (.lst (cs.map V.int))) ∧ ∃ a b, σ = [some (.ref s0), some (.ref D), a, b]) ⟨s3, c0, _, _, rfl⟩ (fun i σ H' _ q => (hs.s q.1.s).l) ?_ ?_⟩
      · rintro i x σ H1 H2 hi ⟨s1, ⟨cs, hcl, hcr, hcD⟩, a, b, rfl⟩ y
        refine gpair y fun T0 c1 d1 ec ed nT eH => ?_
        cases ec
        have s12 : Same H1 H2 := by rw [eH]; exact Same.new nT
        rw [List.getElem?_map] at ed
        cases ex : xs[i]? with
        | none => rw [ex] at ed; cases ed
        | some x0 =>
          rw [ex] at ed
          cases ed
          have hj : i % 64 < cs.length := by omega
          have ec : cs[i % 64]? = some cs[i % 64] := List.getElem?_eq_getElem hj
          have hx := hcr _ (List.getElem_mem hj)
          generalize cs[i % 64] = v at ec hx
          have hD2 := s12 _ _ hcD
          refine ⟨_, rfl, _, rfl, _, _, rfl, rfl, (by show (0 : Int) < 64; decide), D, _, _, _, rfl, rfl, SqL.of hD2, at_int (j := i % 64) (by omega) ec, _, _, rfl, rfl, wide_mul (a := 31) (b := 16) (by omega) (by decide) (by decide) (by decide) (by decide), _, rfl, _, _, rfl, rfl, _, _, rfl, rfl, (by show (0 : Int) < 2147483647; decide), ?_⟩
          refine ⟨_, rfl, _, rfl, _, _, rfl, rfl, (by show (0 : Int) < 64; decide), D, _, _, _, rfl, rfl, hD2, ix_of (j := i % 64) (by omega) (by rw [List.length_map]; exact hj), ?_⟩
          rw [set_ints]
          exact ⟨Same.put (s1.trans s12) hD, ⟨_, by rw [List.length_set]; exact hcl, inR_set hcr (by omega), upd_same⟩, _, _, rfl⟩
      · rintro σ H1 ⟨s1, c1, a, b, rfl⟩
        refine ⟨1, 64, rfl, by decide, for_it walk_range (fun i σ H' => Same H H' ∧ (∃ cs : List Int, cs.length = 64 ∧ InR cs ∧ H' D = some (.lst (cs.map V.int))) ∧ ∃ a b, σ = [some (.ref s0), some (.ref D), a, b]) ⟨s1, c1, _, _, rfl⟩ (fun i σ H' _ q => trivial) ?_ ?_⟩
        · rintro i x σ H2 H3 hi ⟨s2, ⟨cs, hcl, hcr, hcD⟩, a, b, rfl⟩ ⟨rfl, rfl⟩
          have hi2 : i < 63 := hi
          have hj : i + 1 < cs.length := by omega
          have ec : cs[i + 1]? = some cs[i + 1] := List.getElem?_eq_getElem hj
          have hx := hcr _ (List.getElem_mem hj)
          generalize cs[i + 1] = v at ec hx
          have hj2 : i < cs.length := by omega
          have ec2 : cs[i]? = some cs[i] := List.getElem?_eq_getElem hj2
          have hx2 := hcr _ (List.getElem_mem hj2)
          generalize cs[i] = v2 at ec2 hx2
          refine ⟨_, rfl, _, rfl, D, _, _, _, rfl, rfl, SqL.of hcD, at_int (j := i + 1) (by omega) ec, _, rfl, _, rfl, _, _, rfl, rfl, D, _, _, _, rfl, rfl, SqL.of hcD, at_int (j := i) (by omega) ec2, _, _, rfl, rfl, wide_mul (a := 31) (b := 15) (by omega) (by decide) (by decide) (by decide) (by decide), _, _, rfl, rfl, _, _, rfl, rfl, (by show (0 : Int) < 2147483647; decide), ?_⟩
          refine ⟨_, rfl, _, rfl, D, _, _, _, rfl, rfl, hcD, ix_of (j := i + 1) (by omega) (by rw [List.length_map]; exact hj), ?_⟩
          rw [set_ints]
          exact ⟨Same.put s2 hD, ⟨_, by rw [List.length_set]; exact hcl, inR_set hcr (by omega), upd_same⟩, _, _, rfl⟩
        · rintro σ H2 ⟨s2, ⟨cs, hcl, hcr, hcD⟩, a, b, rfl⟩
          exact ⟨_, rfl, k D cs H2 s2 hcD hD hcl hcr⟩
abbrev N__law_begun : List Str := ["script", "m", "cell"]
theorem sc__law_begun : FnScope N__law_begun ["script"] (defScope s__law_begun) := ⟨rfl, rfl, rfl, by decide +kernel, rfl, by decide +kernel, by decide +kernel⟩
theorem got_nn : ∀ {n : Nat} {ys : List V}, Got (fun _ => true) (fun _ y => ∃ z : Int, y = .int z ∧ 0 ≤ z) n ys → ∃ gs : List Int, ys = gs.map V.int ∧ ∀ z ∈ gs, 0 ≤ z
  | _, _, .zero => ⟨[], rfl, fun _ m => nomatch m⟩
  | _, _, .keep g _ ⟨z, e, hz⟩ => by
    obtain ⟨gs, e2, h⟩ := got_nn g
    refine ⟨gs ++ [z], by rw [List.map_append, e2, e] <;> rfl, fun y m => ?_⟩
    rcases List.mem_append.mp m with m | m
    · exact h y m
    · rw [List.mem_singleton.mp m]
      exact hz
  | _, _, .skip _ p => nomatch p
def sp__law_begun (K : PySem.W.Frag) : Sp := fun vs H Q _ => ∃ s, ∃ xs : List Int, vs = [.ref s] ∧ SqF K H s (xs.map V.int) ∧ xs.length ≤ 1000 ∧ ∀ (m c g : Addr) H', Same H H' → MAt H' m c g (2 ^ 40) → Q (.ref m) H'
theorem ok__law_begun (T : Txt K mg) : FnR P w K mg base CX0 2 (He.ga K "_law_begun") (sp__law_begun K) := by
  obtain ⟨fd, F⟩ := T.d__law_begun
  refine plainR F sc__law_begun (fun _ _ _ _ _ _ us hl => match us, hl with | [_], _ => rfl) (fun vs H Q E h => ?_) (fun cdv A outer s H vs Q E hr h => ?_)
  · obtain ⟨s, xs, rfl, _⟩ := h
    rfl
  · obtain ⟨s0, xs, rfl, hs, hl, k⟩ := h
    refine ⟨_, (pss_cons (ps_set (i := 1) sc__law_begun.nd rfl (by walk_at "loc") (pe_disp (pps_cons pe_str (pe_callR (ok__law_folded T) (by walk_at "room") (by rfl) T.g__law_folded T.k__law_folded pass0 (pa_cons (pv 0) pa_nil)) (pps_cons pe_str (pe_lst pa_nil) (pps_cons pe_str pe_int pps_nil))) (by rfl) (by rfl) (fun z => by cases z) (by decide)))
      (pss_cons (ps_dput (by walk_at "hu") (pv 1) pe_str (pe_lc (own := [("cell", 2)]) rfl sc__law_begun.nd (pi_list (pv 0)) (blkOk_by (own := [("cell", 2)]) (N := N__law_begun) (sc := defScope s__law_begun) (by decide +kernel)) (fun _ _ _ _ _ => (pg_name (i := 2) sc__law_begun.nd rfl (by walk_at "loc"))) (fun _ _ _ _ _ => pts_nil) (fun _ _ _ _ _ => (pe_ifExp (pt_cmpR op_ge (pv 2) (pe_op op_pow pe_int pe_int) (nomark _)) (pv 2) pe_int))) rfl)
      (pss_one (ps_ret (pv 1))))), ?_⟩
    intro m nm
    have s1 : Same H (upd H m (.dK [])) := Same.new nm
    have hm1 : upd H m (.dK []) m = some (.dK []) := upd_same
    generalize upd H m (.dK []) = H1 at s1 hm1
    refine ⟨_, rfl, s0, xs, rfl, hs.s s1.s, hl, fun c cs H2 s2 hc nc hcl hcr => ⟨Nat.zero_le _, fun g ng => ?_⟩⟩
    have s3 : Same H2 (upd H2 g (.lst [])) := Same.new ng
    have hg3 : upd H2 g (.lst []) g = some (.lst []) := upd_same
    generalize upd H2 g (.lst []) = H3 at s3 hg3
    have hm3 := s3 _ _ (s2 _ _ hm1)
    refine ⟨hm3, mD c g 0, rfl, (by show 3 ≤ 15; decide), ?_⟩
    rw [merge_m]
    have s4 : Same H (upd H3 m (.dK (mD c g 0))) := Same.put (s1.trans (s2.trans s3)) nm
    have hm4 : upd H3 m (.dK (mD c g 0)) m = some (.dK (mD c g 0)) := upd_same
    have hc4 : upd H3 m (.dK (mD c g 0)) c = some (.lst (cs.map V.int)) := by
      rw [upd_ne (ne_of (s3 _ _ hc) hm3 (by intro z; cases z))]
      exact s3 _ _ hc
    generalize upd H3 m (.dK (mD c g 0)) = H4 at s4 hm4 hc4
    refine ⟨_, rfl, s0, rfl, ⟨_, (hs.s s4.s).l⟩, fun D hD => lc_gen wSame walk_list hD (by rw [List.length_map]; omega) (fun _ => true) (fun i y H => ∃ z : Int, y = .int z ∧ 0 ≤ z) (fun i y H H' s d => d) (fun _ _ _ _ => trivial) (fun H s => (hs.s (s4.trans s).s).l) ?_ ?_⟩
    · rintro acc i x H5 H6 C C0 hi s5 hDl ⟨rfl, ex⟩ kC kC0
      rw [List.getElem?_map] at ex
      cases ex2 : xs[i]? with
      | none => rw [ex2] at ex; cases ex
      | some x0 =>
        rw [ex2] at ex
        cases ex
        refine ⟨rfl, lc_yes ⟨_, rfl, _, _, rfl, rfl, ⟨by decide, by decide, by decide⟩, _, _, rfl, rfl, _, rfl, iteB (fun e => ?_) (fun e => ?_)⟩⟩
        · refine ⟨_, rfl, kC _ _ (Same.refl _) rfl fun o => ⟨x0, rfl, ?_⟩⟩
          have e1 : (10 : Int) ^ ((18 : Int).toNat) ≤ x0 := of_decide_eq_true e
          exact Int.le_trans (by decide) e1
        · exact kC _ _ (Same.refl _) rfl fun o => ⟨0, rfl, Int.le_refl _⟩
    · intro H5 ys s5 hDl got
      obtain ⟨gs, rfl, hgs⟩ := got_nn got
      have hm5 := s5 _ _ hm4
      refine ⟨_, rfl, m, _, rfl, .inl ⟨_, Sk "great", hm5, rfl, (by show 3 < sizeLine; decide), rfl⟩, ?_⟩
      rw [put_great]
      have hcm : c ≠ m := ne_of hc4 hm4 (by intro z; cases z)
      have hDm : D ≠ m := ne_of hDl hm5 (by intro z; cases z)
      have hcD : c ≠ D := ne_of_none hc4 hD
      refine ⟨_, rfl, k m c D _ (Same.put (s4.trans s5) nm) ⟨⟨0, cs, gs, upd_same, ?_, hcl, hcr, ?_, hgs, by omega⟩, hcD⟩⟩
      · rw [upd_ne hcm]
        exact s5 _ _ hc4
      · rw [upd_ne hDm]
        exact hDl

end
end K41

set_option maxHeartbeats 4000000
namespace K41
open PySem PySem.Spec PyProof.Rows L2 CT
local macro_rules | `(tactic| walk_at "room") => `(tactic| first | assumption | exact Room.mono (by assumption) (by decide))
local macro_rules | `(tactic| walk_at "room64") => `(tactic| exact Room.units (by assumption))
local macro_rules | `(tactic| walk_at "room65") => `(tactic| exact room65 (by assumption))
local macro_rules | `(tactic| walk_at "hu") => `(tactic| exact hu_of (by assumption))
local macro_rules | `(tactic| walk_at "loc") => `(tactic| first | exact Or.inl rfl | exact Or.inr rfl)
local macro_rules | `(tactic| walk_at "hp") => `(tactic| first
  | assumption
  | exact upd_same
  | (refine upd_get (by assumption) ?_; walk_at "hp")
  | (refine Same.get (by assumption) ?_; walk_at "hp")
  | (refine SameS.get (by assumption) (by first | trivial | exact ⟨rfl, rfl⟩) ?_; walk_at "hp"))
local macro_rules | `(tactic| walk_at "same") => `(tactic| first
  | assumption
  | exact Same.refl _
  | (refine Same.trans ?_ (Same.new (by assumption)); walk_at "same")
  | (refine Same.trans ?_ (by assumption); walk_at "same"))
section
variable {P : Program} {w : World} {K : PySem.W.Frag} {mg : Str → Option Value} {base : Heap}
theorem noInt_prs {K : PySem.W.Frag} {H : Hp} {xs : List V} {ps : List PI2} (h : DpAll K H xs (prs ps)) : NoInt xs := noInt_of h (calm_lprs ps)
theorem erase_map {α β : Type} (f : α → β) : ∀ (l : List α) (j : Nat), (l.map f).eraseIdx j = (l.eraseIdx j).map f
  | [], _ => rfl
  | _ :: _, 0 => rfl
  | a :: l, j + 1 => congrArg (f a :: ·) (erase_map f l j)
theorem DpAll.erase {K : PySem.W.Frag} {H : Hp} : ∀ {ds : List PyData} {xs : List V} (n : Nat), DpAll K H xs ds → DpAll K H (xs.eraseIdx n) (ds.eraseIdx n)
  | [], _, n, h => by cases h; exact .nil
  | d :: ds, _, 0, h => by cases h with | cons h1 h2 => exact h2
  | d :: ds, _, n + 1, h => by
    cases h with
    | cons h1 h2 => exact .cons h1 (DpAll.erase n h2)
theorem noneS {H H' : Hp} {a : Addr} {o : HO} (s : SameS H H') (h : H' a = none) (e : H a = some o) (c : Calm o) : False := by
  rw [s _ _ e c] at h
  cases h
theorem seqIx {n : Nat} {r : Int} (h0 : 0 ≤ r) (h1 : r < (n : Nat)) : seqIndex? r n = some r.toNat := by
  have z := ix_of (n := n) (i := r) (j := r.toNat) (by omega) (by omega)
  exact (ixN_seq z).1
abbrev N__law_mixed_up : List Str := ["m", "things", "stock", "found", "n"]
theorem sc__law_mixed_up : FnScope N__law_mixed_up ["m", "things"] (defScope s__law_mixed_up) := ⟨rfl, rfl, rfl, by decide +kernel, rfl, by decide +kernel, by decide +kernel⟩
def sp__law_mixed_up (K : PySem.W.Frag) : Sp := fun vs H Q _ => ∃ (m c g : Addr) (B : Nat) (v : V) (ps : List PI2), vs = [.ref m, v] ∧ IsPl K H v ps ∧ ps.length ≤ 100 ∧ MAt H m c g (B + 100) ∧ ∀ (r : V) H' qs, SameS H H' → MAt H' m c g B → IsPl K H' r qs → qs.Perm ps → Q r H'
theorem ok__law_mixed_up (T : Txt K mg) : FnR P w K mg base CX0 3 (He.ga K "_law_mixed_up") (sp__law_mixed_up K) := by
  obtain ⟨fd, F⟩ := T.d__law_mixed_up
  refine plainR F sc__law_mixed_up (fun _ _ _ _ _ _ us hl => match us, hl with | [_, _], _ => rfl) (fun vs H Q E h => ?_) (fun cdv A outer s H vs Q E hr h => ?_)
  · obtain ⟨m, c, g, B, v, ps, rfl, _⟩ := h
    rfl
  · obtain ⟨m, c, g, B, v, ps, rfl, ⟨b, zs, rfl, hb, dz⟩, hz, hM, k⟩ := h
    have hl := Prs.len dz
    refine ⟨_, (pss_cons (ps_par (i := 2) (j := 3) (by rfl) sc__law_mixed_up.nd rfl rfl (by decide) rfl rfl (pa_cons (pe_callTy (call_list_ofK K) (by rfl) T.f_list boot_list (pa_cons (pv 1) pa_nil)) (pa_cons (pe_lst pa_nil) pa_nil)) (by rfl))
      (pss_cons (ps_for PassesOwn.never rfl (pi_range1 (by rfl) T.f_range (pa_cons (pe_callB (call_lenK K) (by rfl) T.f_len boot_len (pa_cons (pv 2) pa_nil)) pa_nil)) (pg_name (i := 4) sc__law_mixed_up.nd rfl (by walk_at "loc"))
      (pss_one (ps_expr (pe_bmK K PySem.F.plainAttrs_list PySem.F.slot_list_append PySem.F.type_list_append mt_append (pv 3) (pa_cons (pe_bmK K PySem.F.plainAttrs_list PySem.F.slot_list_pop PySem.F.type_list_pop mt_popAt (pv 2) (pa_cons (pe_callR (ok__law_draw T) (by walk_at "room") (by rfl) T.g__law_draw T.k__law_draw pass0 (pa_cons (pv 0) (pa_cons (pe_callB (call_lenK K) (by rfl) T.f_len boot_len (pa_cons (pv 2) pa_nil)) pa_nil))) pa_nil)) pa_nil)))))
      (pss_one (ps_ret (pv 3))))), ?_⟩
    refine ⟨_, rfl, b, zs, rfl, .inl (SqL.of hb), fun S nS => ⟨Nat.zero_le _, fun F nF => ⟨_, _, rfl, ?_⟩⟩⟩
    have s1 : Same H (upd H S (.lst zs)) := Same.new nS
    have s2 : Same (upd H S (.lst zs)) (upd (upd H S (.lst zs)) F (.lst [])) := Same.new nF
    have hS2 : upd (upd H S (.lst zs)) F (.lst []) S = some (.lst zs) := upd_get nF upd_same
    have hF2 : upd (upd H S (.lst zs)) F (.lst []) F = some (.lst []) := upd_same
    have nFH : H F = none := noneR s1 nF
    have hSF : S ≠ F := fun z => by
      rw [← z, upd_same] at nF
      cases nF
    have s12 := s1.trans s2
    generalize upd (upd H S (.lst zs)) F (.lst []) = H2 at s12 hS2 hF2
    refine ⟨_, rfl, S, zs, rfl, .inl (SqL.of hS2), _, rfl, by omega, by omega, for_it walk_range (fun i σ H' => SameS H H' ∧ (∃ (xs ys : List V) (as bs : List PI2), H' S = some (.lst xs) ∧ DpAll K H' xs (prs as) ∧ H' F = some (.lst ys) ∧ DpAll K H' ys (prs bs) ∧ (bs ++ as).Perm ps ∧ as.length + i = ps.length ∧ MAt H' m c g (B + as.length)) ∧ ∃ a, σ = [some (.ref m), some (.ref b), some (.ref S), some (.ref F), a]) ⟨s12.s, ⟨zs, [], ps, [], hS2, Dp.sameAll s12 _ dz, hF2, .nil, List.Perm.refl _, rfl, (hM.same s12).le (by omega)⟩, _, rfl⟩ (fun i σ H' _ q => trivial) ?_ ?_⟩
    · rintro i x σ H3 H4 hi ⟨s3, ⟨xs, ys, as, bs, hS, dx, hF, dy, hp, hn, hM3⟩, a, rfl⟩ ⟨rfl, rfl⟩
      have hi' : i < ps.length := by
        have z : i < ((zs.length : Nat) : Int).toNat := hi
        omega
      have hxl := Prs.len dx
      have hyl := Prs.len dy
      have hbl : bs.length ≤ 100 := by
        have z := hp.length_eq
        rw [List.length_append] at z
        omega
      refine ⟨_, rfl, .inl ⟨rfl, _, SqL.of hF⟩, _, rfl, .inl ⟨rfl, _, SqL.of hS⟩, _, rfl, _, rfl, S, xs, rfl, .inl (SqL.of hS), m, c, g, B + (as.length - 1), _, rfl, hM3.le (by omega), by omega, by omega, fun r H5 s5 hM5 hr0 hr1 _ => ?_⟩
      have hS5 := s5 _ _ hS (noInt_prs dx)
      have hF5 := s5 _ _ hF (noInt_prs dy)
      have dx5 := Dp.samesAll s5 _ (calm_prs as) dx
      have dy5 := Dp.samesAll s5 _ (calm_prs bs) dy
      have hrn : r.toNat < as.length := by omega
      have hrx : r.toNat < xs.length := by omega
      have exy : xs[r.toNat]? = some xs[r.toNat] := List.getElem?_eq_getElem hrx
      obtain ⟨p, ep, hpv⟩ := Prs.of_at dx5 exy
      generalize xs[r.toNat] = y at exy hpv
      refine ⟨S, xs, r, r.toNat, y, rfl, rfl, hS5, by omega, by omega, seqIx hr0 hr1, exy, ?_⟩
      have hF6 : upd H5 S (.lst (xs.eraseIdx r.toNat)) F = some (.lst ys) := by
        rw [upd_ne hSF.symm]
        exact hF5
      refine ⟨F, ys, y, rfl, rfl, hF6, Nat.lt_of_lt_of_le (show ys.length < 101 by omega) (by decide), ?_⟩
      have dxe : DpAll K H5 (xs.eraseIdx r.toNat) (prs (as.eraseIdx r.toNat)) := by
        have z := DpAll.erase r.toNat dx5
        unfold prs at z ⊢
        rw [erase_map] at z
        exact z
      have dya : DpAll K H5 (ys ++ [y]) (prs (bs ++ [p])) := by
        rw [prs_append]
        exact dy5.append (.cons hpv .nil)
      have hF6' : upd H5 S (.lst (xs.eraseIdx r.toNat)) F = some (.lst ys) := hF6
      refine ⟨SameS.put (SameS.put (s3.trans s5) nS) nFH, ⟨xs.eraseIdx r.toNat, ys ++ [y], as.eraseIdx r.toNat, bs ++ [p], ?_, prs_set hF6' (prs_set hS5 dxe), upd_same, prs_set hF6' (prs_set hS5 dya), ?_, ?_, ?_⟩, _, rfl⟩
      · rw [upd_ne hSF]
        exact upd_same
      · refine List.Perm.trans ?_ hp
        rw [List.append_assoc]
        refine List.Perm.append_left bs ?_
        have z := erase_perm (0, 0) as r.toNat hrn
        rw [getD_of ep] at z
        exact z
      · rw [List.length_eraseIdx, if_pos hrn]
        omega
      · rw [List.length_eraseIdx, if_pos hrn]
        exact (hM5.upd hM nS).upd hM nFH
    · rintro σ H3 ⟨s3, ⟨xs, ys, as, bs, hS, dx, hF, dy, hp, hn, hM3⟩, a, rfl⟩
      have e0 : as = [] := by
        refine List.eq_nil_of_length_eq_zero ?_
        have z : as.length + ((zs.length : Nat) : Int).toNat = ps.length := hn
        omega
      subst e0
      rw [List.append_nil] at hp
      exact ⟨_, rfl, k _ _ bs s3 hM3 ⟨F, ys, rfl, hF, dy⟩ hp⟩
def inB (lo hi : Int) (p : PI2) : Prop := (lo ≤ p.1 ∧ p.1 ≤ hi) ∧ lo ≤ p.2 ∧ p.2 ≤ hi
abbrev N__law_pair : List Str := ["m", "low", "high"]
theorem sc__law_pair : FnScope N__law_pair ["m", "low", "high"] (defScope s__law_pair) := ⟨rfl, rfl, rfl, by decide +kernel, rfl, by decide +kernel, by decide +kernel⟩
def sp__law_pair (K : PySem.W.Frag) : Sp := fun vs H Q _ => ∃ (m c g : Addr) (B : Nat) (lo hi : Int), vs = [.ref m, .int lo, .int hi] ∧ 0 ≤ lo ∧ lo ≤ hi ∧ hi ≤ 30 ∧ MAt H m c g (B + 2) ∧ ∀ (t : Addr) H' p, SameS H H' → MAt H' m c g B → H' t = some (.tup [.int p.1, .int p.2]) → inB lo hi p → Q (.ref t) H'
theorem ok__law_pair (T : Txt K mg) : FnR P w K mg base CX0 3 (He.ga K "_law_pair") (sp__law_pair K) := by
  obtain ⟨fd, F⟩ := T.d__law_pair
  refine plainR F sc__law_pair (fun _ _ _ _ _ _ us hl => match us, hl with | [_, _, _], _ => rfl) (fun vs H Q E h => ?_) (fun cdv A outer s H vs Q E hr h => ?_)
  · obtain ⟨m, c, g, B, lo, hi, rfl, _⟩ := h
    rfl
  · obtain ⟨m, c, g, B, lo, hi, rfl, h0, h1, h2, hM, k⟩ := h
    refine ⟨_, (pss_one (ps_ret (pe_tup (pa_cons (pe_op op_add (pv 1) (pe_callR (ok__law_draw T) (by walk_at "room") (by rfl) T.g__law_draw T.k__law_draw pass0 (pa_cons (pv 0) (pa_cons (pe_op op_add (pe_op op_sub (pv 2) (pv 1)) pe_int) pa_nil)))) (pa_cons (pe_op op_add (pv 1) (pe_callR (ok__law_draw T) (by walk_at "room") (by rfl) T.g__law_draw T.k__law_draw pass0 (pa_cons (pv 0) (pa_cons (pe_op op_add (pe_op op_sub (pv 2) (pv 1)) pe_int) pa_nil)))) pa_nil))))), ?_⟩
    refine ⟨_, rfl, _, rfl, _, rfl, _, rfl, _, _, rfl, rfl, _, _, rfl, rfl, m, c, g, B + 1, _, rfl, hM, by omega, by omega, fun r H1 s1 hM1 hr0 hr1 _ => ⟨_, _, rfl, rfl, ?_⟩⟩
    refine ⟨_, rfl, _, rfl, _, rfl, _, rfl, _, _, rfl, rfl, _, _, rfl, rfl, m, c, g, B, _, rfl, hM1, by omega, by omega, fun r2 H2 s2 hM2 hr2 hr3 _ => ⟨_, _, rfl, rfl, by show 2 ≤ sizeLine; decide, fun t nt => ?_⟩⟩
    exact k t _ (lo + r, lo + r2) ((s1.trans s2).trans (Same.new nt).s) (hM2.same (Same.new nt)) upd_same ⟨by constructor <;> omega, by constructor <;> omega⟩
abbrev N__law_path : List Str := ["m", "low", "high", "many", "found", "here", "n", "far"]
theorem sc__law_path : FnScope N__law_path ["m", "low", "high", "many"] (defScope s__law_path) := ⟨rfl, rfl, rfl, by decide +kernel, rfl, by decide +kernel, by decide +kernel⟩
def sp__law_path (K : PySem.W.Frag) : Sp := fun vs H Q _ => ∃ (m c g : Addr) (B : Nat) (lo hi n : Int), vs = [.ref m, .int lo, .int hi, .int n] ∧ 0 ≤ lo ∧ lo ≤ hi ∧ hi ≤ 30 ∧ (0 ≤ n ∧ n ≤ 6) ∧ MAt H m c g (B + 20) ∧ ∀ (r : V) H' ps, SameS H H' → MAt H' m c g B → IsPl K H' r ps → ps.length ≤ 6 → (∀ p ∈ ps, inB lo hi p) → Q r H'
theorem ok__law_path (T : Txt K mg) : FnR P w K mg base CX0 3 (He.ga K "_law_path") (sp__law_path K) := by
  obtain ⟨fd, F⟩ := T.d__law_path
  refine plainR F sc__law_path (fun _ _ _ _ _ _ us hl => match us, hl with | [_, _, _, _], _ => rfl) (fun vs H Q E h => ?_) (fun cdv A outer s H vs Q E hr h => ?_)
  · obtain ⟨m, c, g, B, lo, hi, n, rfl, _⟩ := h
    rfl
  · obtain ⟨m, c, g, B, lo, hi, n, rfl, h0, h1, h2, ⟨hn0, hn⟩, hM, k⟩ := h
    obtain ⟨n, rfl⟩ := Int.eq_ofNat_of_zero_le hn0
    refine ⟨_, (pss_cons (ps_par (i := 4) (j := 5) (by rfl) sc__law_path.nd rfl rfl (by decide) rfl rfl (pa_cons (pe_lst pa_nil) (pa_cons (pe_op op_add (pv 1) (pe_callR (ok__law_draw T) (by walk_at "room") (by rfl) T.g__law_draw T.k__law_draw pass0 (pa_cons (pv 0) (pa_cons (pe_op op_add (pe_op op_sub (pv 2) (pv 1)) pe_int) pa_nil)))) pa_nil)) (by rfl))
      (pss_cons (ps_for PassesOwn.never rfl (pi_range1 (by rfl) T.f_range (pa_cons (pv 3) pa_nil)) (pg_name (i := 6) sc__law_path.nd rfl (by walk_at "loc"))
      (pss_cons (ps_if (pt_cmpR op_eq (pe_callR (ok__law_draw T) (by walk_at "room") (by rfl) T.g__law_draw T.k__law_draw pass0 (pa_cons (pv 0) (pa_cons pe_int pa_nil))) pe_int (nomark _)) (pss_one (ps_set (i := 5) sc__law_path.nd rfl (by walk_at "loc") (pe_op op_add (pv 5) (pe_callR (ok__law_draw T) (by walk_at "room") (by rfl) T.g__law_draw T.k__law_draw pass0 (pa_cons (pv 0) (pa_cons (pe_op op_add (pe_op op_sub (pv 2) (pv 5)) pe_int) pa_nil)))))) pss_nil)
      (pss_cons (ps_set (i := 7) sc__law_path.nd rfl (by walk_at "loc") (pe_op op_add (pv 1) (pe_callR (ok__law_draw T) (by walk_at "room") (by rfl) T.g__law_draw T.k__law_draw pass0 (pa_cons (pv 0) (pa_cons (pe_op op_add (pe_op op_sub (pv 2) (pv 1)) pe_int) pa_nil)))))
      (pss_cons (ps_expr (pe_bmK K PySem.F.plainAttrs_list PySem.F.slot_list_append PySem.F.type_list_append mt_append (pv 4) (pa_cons (pe_tup (pa_cons (pv 5) (pa_cons (pv 7) pa_nil))) pa_nil)))
      (pss_one (ps_set (i := 5) sc__law_path.nd rfl (by walk_at "loc") (pv 7)))))))
      (pss_one (ps_ret (pv 4))))), ?_⟩
    refine ⟨Nat.zero_le _, fun F nF => ?_⟩
    refine ⟨_, rfl, _, rfl, _, rfl, _, rfl, _, _, rfl, rfl, _, _, rfl, rfl, m, c, g, B + 18, _, rfl, (hM.same (Same.new nF)).le (by omega), by omega, by omega, fun r H1 s1 hM1 hr0 hr1 _ => ⟨_, _, rfl, rfl, _, _, rfl, ?_⟩⟩
    have hF1 := s1 _ _ upd_same trivial
    have s01 : SameS H H1 := (Same.new nF).s.trans s1
    refine ⟨_, rfl, _, rfl, by omega, by omega, for_it walk_range (fun i σ H' => SameS H H' ∧ (∃ (ys : List V) (bs : List PI2), H' F = some (.lst ys) ∧ DpAll K H' ys (prs bs) ∧ bs.length = i ∧ (∀ p ∈ bs, inB lo hi p)) ∧ MAt H' m c g (B + 3 * (n - i)) ∧ ∃ here a b, lo ≤ here ∧ here ≤ hi ∧ σ = [some (.ref m), some (.int lo), some (.int hi), some (.int (n : Nat)), some (.ref F), some (.int here), a, b]) ⟨s01, ⟨[], [], hF1, .nil, rfl, (fun _ m => nomatch m)⟩, hM1.le (by omega), _, _, _, ?_, ?_, rfl⟩ (fun i σ H' _ q => trivial) ?_ ?_⟩
    · omega
    · omega
    · rintro i x σ H3 H4 hi' ⟨s3, ⟨ys, bs, hF, dy, hbl, hbb⟩, hM3, here, a, b, hh0, hh1, rfl⟩ ⟨rfl, rfl⟩
      have hi2 : i < n := by
        have z : i < ((n : Nat) : Int).toNat := hi'
        omega
      refine ⟨_, rfl, m, c, g, B + 3 * (n - (i + 1)) + 2, _, rfl, hM3.le (by omega), by decide, by decide, fun r5 H5 s5 hM5 hr50 hr51 _ => ⟨rfl, _, rfl, iteB (fun e => ?_) (fun e => ?_)⟩⟩
      · refine ⟨_, rfl, _, rfl, _, rfl, _, rfl, _, _, rfl, rfl, _, _, rfl, rfl, m, c, g, B + 3 * (n - (i + 1)) + 1, _, rfl, hM5.le (by omega), by omega, by omega, fun r6 H6 s6 hM6 hr60 hr61 _ => ⟨_, _, rfl, rfl, ?_⟩⟩
        have s56 := s5.trans s6
        refine ⟨_, rfl, _, rfl, _, rfl, _, rfl, _, _, rfl, rfl, _, _, rfl, rfl, m, c, g, B + 3 * (n - (i + 1)), _, rfl, hM6.le (by omega), by omega, by omega, fun r7 H7 s7 hM7 hr70 hr71 _ => ⟨_, _, rfl, rfl, ?_⟩⟩
        have hF7 := s7 _ _ (s56 _ _ hF (noInt_prs dy)) (noInt_prs dy)
        have dy7 := Dp.samesAll (s56.trans s7) _ (calm_prs bs) dy
        refine ⟨_, rfl, .inl ⟨rfl, _, SqL.of hF7⟩, _, rfl, _, rfl, by show 2 ≤ sizeLine; decide, fun t nt => ?_⟩
        have hF8 := (Same.new (o := .tup [.int (here + r6), .int (lo + r7)]) nt) _ _ hF7
        have dy8 := Dp.sameAll (Same.new (o := .tup [.int (here + r6), .int (lo + r7)]) nt) _ dy7
        refine ⟨F, ys, _, rfl, rfl, hF8, Nat.lt_of_lt_of_le (show ys.length < 101 by rw [Prs.len dy]; omega) (by decide), ?_⟩
        refine ⟨_, rfl, SameS.put (((s3.trans s56).trans s7).trans (Same.new nt).s) nF, ⟨_, bs ++ [(here + r6, lo + r7)], upd_same, ?_, ?_, ?_⟩, ?_, _, _, _, ?_, ?_, rfl⟩
        · exact prs_set hF8 (by rw [prs_append]; exact dy8.append (.cons (Dp.mkpr upd_same) .nil))
        · rw [List.length_append, hbl] <;> rfl
        · intro p hp
          rcases List.mem_append.mp hp with hp | hp
          · exact hbb p hp
          · rw [List.mem_singleton.mp hp]
            exact ⟨by constructor <;> show _ ≤ _ <;> omega, by constructor <;> show _ ≤ _ <;> omega⟩
        · exact (hM7.same (Same.new nt)).upd hM nF
        · omega
        · omega
      · refine ⟨_, rfl, _, rfl, _, rfl, _, rfl, _, _, rfl, rfl, _, _, rfl, rfl, m, c, g, B + 3 * (n - (i + 1)), _, rfl, hM5.le (by omega), by omega, by omega, fun r7 H7 s7 hM7 hr70 hr71 _ => ⟨_, _, rfl, rfl, ?_⟩⟩
        have hF7 := s7 _ _ (s5 _ _ hF (noInt_prs dy)) (noInt_prs dy)
        have dy7 := Dp.samesAll (s5.trans s7) _ (calm_prs bs) dy
        refine ⟨_, rfl, .inl ⟨rfl, _, SqL.of hF7⟩, _, rfl, _, rfl, by show 2 ≤ sizeLine; decide, fun t nt => ?_⟩
        have hF8 := (Same.new (o := .tup [.int (here), .int (lo + r7)]) nt) _ _ hF7
        have dy8 := Dp.sameAll (Same.new (o := .tup [.int (here), .int (lo + r7)]) nt) _ dy7
        refine ⟨F, ys, _, rfl, rfl, hF8, Nat.lt_of_lt_of_le (show ys.length < 101 by rw [Prs.len dy]; omega) (by decide), ?_⟩
        refine ⟨_, rfl, SameS.put (((s3.trans s5).trans s7).trans (Same.new nt).s) nF, ⟨_, bs ++ [(here, lo + r7)], upd_same, ?_, ?_, ?_⟩, ?_, _, _, _, ?_, ?_, rfl⟩
        · exact prs_set hF8 (by rw [prs_append]; exact dy8.append (.cons (Dp.mkpr upd_same) .nil))
        · rw [List.length_append, hbl] <;> rfl
        · intro p hp
          rcases List.mem_append.mp hp with hp | hp
          · exact hbb p hp
          · rw [List.mem_singleton.mp hp]
            exact ⟨by constructor <;> show _ ≤ _ <;> omega, by constructor <;> show _ ≤ _ <;> omega⟩
        · exact (hM7.same (Same.new nt)).upd hM nF
        · omega
        · omega
    · rintro σ H3 ⟨s3, ⟨ys, bs, hF, dy, hbl, hbb⟩, hM3, here, a, b, hh0, hh1, rfl⟩
      have e : bs.length ≤ 6 := by
        have z : bs.length = ((n : Nat) : Int).toNat := hbl
        omega
      exact ⟨_, rfl, k _ _ bs s3 (hM3.le (by omega)) ⟨F, ys, rfl, hF, dy⟩ e hbb⟩

end
end K41

set_option maxHeartbeats 4000000
namespace K41
open PySem PySem.Spec PyProof.Rows L2 CT
local macro_rules | `(tactic| walk_at "room") => `(tactic| first | assumption | exact Room.mono (by assumption) (by decide))
local macro_rules | `(tactic| walk_at "room64") => `(tactic| exact Room.units (by assumption))
local macro_rules | `(tactic| walk_at "room65") => `(tactic| exact room65 (by assumption))
local macro_rules | `(tactic| walk_at "hu") => `(tactic| exact hu_of (by assumption))
local macro_rules | `(tactic| walk_at "loc") => `(tactic| first | exact Or.inl rfl | exact Or.inr rfl)
local macro_rules | `(tactic| walk_at "hp") => `(tactic| first
  | assumption
  | exact upd_same
  | (refine upd_get (by assumption) ?_; walk_at "hp")
  | (refine Same.get (by assumption) ?_; walk_at "hp")
  | (refine SameS.get (by assumption) (by first | trivial | exact ⟨rfl, rfl⟩) ?_; walk_at "hp"))
local macro_rules | `(tactic| walk_at "same") => `(tactic| first
  | assumption
  | exact Same.refl _
  | (refine Same.trans ?_ (Same.new (by assumption)); walk_at "same")
  | (refine Same.trans ?_ (by assumption); walk_at "same"))
section
variable {P : Program} {w : World} {K : PySem.W.Frag} {mg : Str → Option Value} {base : Heap}
section
variable {L : Hp → Hp → Prop} {ok : V → Prop} {J : It} {n : Nat} {G : Hp → Prop} {Y : Nat → Hp → V → Hp → Prop} {g : TG} {tt : TT} {te : TE} {vs : List Nat} {σ : L2.St} {H1 : Hp} {D : Addr} {Qd : Hp → Prop}
/-- as lc_gen, with a state M that goes along -/
theorem lc_genM (w : Way L ok) (wk : Walk J n G Y) (hD : H1 D = none) (hn : n ≤ 100000) (P : Nat → Bool) (R : Nat → V → Hp → Prop) (hR : ∀ i y H H', L H H' → R i y H → R i y H') (hc : ∀ i y H, R i y H → ok y) (hG : ∀ H, L H1 H → G H)
    (M : Nat → Hp → Prop) (hM0 : M 0 H1) (hMu : ∀ i H o, M i H → M i (upd H D o))
    (hs : ∀ acc i x H H' (C : V → Hp → Prop) (C0 : Hp → Prop), i < n → L H1 H → M i H → H D = some (.lst acc) → (∀ y ∈ acc, ok y) → Y i H x H' → (∀ y H4, L H H4 → M (i + 1) H4 → P i = true → (∀ o, R i y (upd H4 D o)) → C y H4) → (∀ H3, L H H3 → M (i + 1) H3 → P i = false → C0 H3) →
      g x (wipe σ vs) H' fun σ2 H2 => wipe σ2 vs = wipe σ vs ∧ tt σ2 H2 fun b H3 => if b = true then te σ2 H3 C else C0 H3)
    (hd : ∀ H' ys, L H1 H' → M n H' → H' D = some (.lst ys) → Got P (fun i y => R i y H') n ys → Qd H') :
    ∃ W : Nat → Nat → Hp → Prop, (∃ m, W 0 m (upd H1 D (.lst []))) ∧ ∀ i m H, W i m H →
      (J.stop i H ∧ Qd H) ∨ (J.go i H ∧ ∃ Nx : Hp → Prop, (∀ H', Nx H' → ∃ m', m' < m ∧ W (i + 1) m' H') ∧ ∀ x H', J.yld i H x H' → g x (wipe σ vs) H' fun σ2 H2 => wipe σ2 vs = wipe σ vs ∧ tt σ2 H2 fun b H3 =>
        if b = true then te σ2 H3 fun y H4 => ∃ acc, H4 D = some (.lst acc) ∧ acc.length < sizeLine ∧ Nx (upd H4 D (.lst (acc ++ [y]))) else Nx H3) := by
  refine lc_it wk (fun i H => ∃ ys, L H1 H ∧ M i H ∧ H D = some (.lst ys) ∧ Got P (fun i y => ∀ o, R i y (upd H D o)) i ys) ⟨[], w.put (w.refl _) hD, hMu _ _ _ hM0, upd_same, .zero⟩ (fun i H _ ⟨ys, l, _, _⟩ => hG H l) (fun i x H H' hi p y => ?_) (fun H ⟨ys, l, m, e, g⟩ => ?_)
  · obtain ⟨ys, l, m, e, gg⟩ := p
    have hall : ∀ y ∈ ys, ok y := Got.all (fun i y r => hc i y _ (r (.lst []))) gg
    have z := Got.len gg
    refine hs ys i x H H' _ _ hi l m e hall y (fun y H4 l4 m4 hp r => ?_) (fun H3 l3 m3 hp => ?_)
    · refine ⟨ys, w.lst l4 e hall, Nat.lt_of_lt_of_le (show ys.length < 100001 by omega) (by decide), ys ++ [y], w.put (w.trans l l4) hD, hMu _ _ _ m4, upd_same, .keep (gg.mono fun i y r o => ?_) hp fun o => ?_⟩
      · rw [upd_upd]
        exact hR i y _ _ (w.upd l4) (r o)
      · rw [upd_upd]
        exact r o
    · exact ⟨ys, w.trans l l3, m3, w.lst l3 e hall, .skip (gg.mono fun i y r o => hR i y _ _ (w.upd l3) (r o)) hp⟩
  · refine hd H ys l m e (g.mono fun i y r => ?_)
    have z := r (.lst ys)
    rw [upd_self e] at z
    exact z
end
theorem got_some {K : PySem.W.Frag} {H : Hp} {P : PI2 → Prop} : ∀ {n : Nat} {ys : List V}, Got (fun _ => true) (fun _ y => ∃ p, Dp K H y (pr p) ∧ P p) n ys → ∃ ps : List PI2, ps.length = n ∧ DpAll K H ys (prs ps) ∧ ∀ p ∈ ps, P p
  | _, _, .zero => ⟨[], rfl, .nil, fun _ m => nomatch m⟩
  | _, _, .keep g _ ⟨p, d, hp⟩ => by
    obtain ⟨ps, e, da, h⟩ := got_some g
    refine ⟨ps ++ [p], by rw [List.length_append, e] <;> rfl, by rw [prs_append]; exact da.append (.cons d .nil), fun q m => ?_⟩
    rcases List.mem_append.mp m with m | m
    · exact h q m
    · rw [List.mem_singleton.mp m]
      exact hp
  | _, _, .skip _ p => nomatch p
theorem cat_pl {K : PySem.W.Frag} {H : Hp} {u v : V} {ps qs : List PI2} {Q : VK} (ha : IsPl K H u ps) (hb : IsPl K H v qs) (hl : ps.length + qs.length ≤ 1000) (q : ∀ p H', Same H H' → H p = none → IsPl K H' (.ref p) (ps ++ qs) → Q (.ref p) H') : rCat u v H Q := by
  obtain ⟨a, xs, rfl, h1, d1⟩ := ha
  obtain ⟨b, ys, rfl, h2, d2⟩ := hb
  refine ⟨a, b, xs, ys, rfl, rfl, h1, h2, Nat.le_trans (show xs.length + ys.length ≤ 1000 by rw [Prs.len d1, Prs.len d2]; exact hl) (by decide), fun p np => q p _ (Same.new np) np ⟨p, _, rfl, upd_same, ?_⟩⟩
  rw [prs_append]
  exact (Dp.sameAll (Same.new np) _ d1).append (Dp.sameAll (Same.new np) _ d2)
theorem cutV_toAny {xs : List V} (k : Nat) : cutV xs none (some (k : Int)) = xs.take k := by
  by_cases h : k ≤ xs.length
  · exact cutV_to h
  · unfold cutV
    rw [HT.sIx_nat]
    show (xs.drop 0).take (min k xs.length - 0) = xs.take k
    rw [List.drop_zero, Nat.sub_zero, Nat.min_eq_right (by omega), List.take_length, List.take_of_length_le (by omega)]
theorem prs_take (ps : List PI2) (k : Nat) : (prs ps).take k = prs (ps.take k) := by
  unfold prs
  rw [List.map_take]
theorem sl_pl {K : PySem.W.Frag} {H : Hp} {u : V} {ps : List PI2} {k : Int} {Q : VK} (ha : IsPl K H u ps) (hk : 0 ≤ k) (q : ∀ p H', Same H H' → IsPl K H' (.ref p) (ps.take k.toNat) → Q (.ref p) H') : rSlL K u none (some k) H Q := by
  obtain ⟨a, xs, rfl, h1, d1⟩ := ha
  obtain ⟨k, rfl⟩ := Int.eq_ofNat_of_zero_le hk
  refine ⟨a, xs, rfl, SqL.of h1, fun p np => q p _ (Same.new np) ⟨p, _, rfl, upd_same, ?_⟩⟩
  rw [cutV_toAny, Int.toNat_natCast, ← prs_take]
  exact (Dp.sameAll (Same.new np) _ d1).take k
theorem inB_take {lo hi : Int} {ps : List PI2} {k : Nat} (h : ∀ p ∈ ps, inB lo hi p) : ∀ p ∈ ps.take k, inB lo hi p := fun p m => h p (List.mem_of_mem_take m)
theorem inB_app {lo hi : Int} {ps qs : List PI2} (h : ∀ p ∈ ps, inB lo hi p) (g : ∀ p ∈ qs, inB lo hi p) : ∀ p ∈ ps ++ qs, inB lo hi p := fun p m => (List.mem_append.mp m).elim (h p) (g p)
abbrev N__law_lone : List Str := ["m", "low", "high", "found", "n", "near", "far", "some"]
theorem sc__law_lone : FnScope N__law_lone ["m", "low", "high"] (defScope s__law_lone) := ⟨rfl, rfl, rfl, by decide +kernel, rfl, by decide +kernel, by decide +kernel⟩
def sp__law_lone (K : PySem.W.Frag) : Sp := fun vs H Q _ => ∃ (m c g : Addr) (B : Nat) (lo hi : Int), vs = [.ref m, .int lo, .int hi] ∧ 0 ≤ lo ∧ lo ≤ hi ∧ hi ≤ 30 ∧ MAt H m c g (B + 20) ∧ ∀ (r : V) H' ps, SameS H H' → MAt H' m c g B → IsPl K H' r ps → ps.length ≤ 8 → (∀ p ∈ ps, inB lo hi p) → Q r H'
theorem ok__law_lone (T : Txt K mg) : FnR P w K mg base CX0 3 (He.ga K "_law_lone") (sp__law_lone K) := by
  obtain ⟨fd, F⟩ := T.d__law_lone
  refine plainR F sc__law_lone (fun _ _ _ _ _ _ us hl => match us, hl with | [_, _, _], _ => rfl) (fun vs H Q E h => ?_) (fun cdv A outer s H vs Q E hr h => ?_)
  · obtain ⟨m, c, g, B, lo, hi, rfl, _⟩ := h
    rfl
  · obtain ⟨m, c, g, B, lo, hi, rfl, h0, h1, h2, hM, k⟩ := h
    refine ⟨_, (pss_cons (ps_set (i := 3) sc__law_lone.nd rfl (by walk_at "loc") (pe_op op_rep (pe_lst (pa_cons (pe_tup (pa_cons (pv 1) (pa_cons (pv 2) pa_nil))) pa_nil)) (pe_op op_add pe_int (pe_callR (ok__law_draw T) (by walk_at "room") (by rfl) T.g__law_draw T.k__law_draw pass0 (pa_cons (pv 0) (pa_cons pe_int pa_nil))))))
      (pss_cons (ps_for PassesOwn.never rfl (pi_range1 (by rfl) T.f_range (pa_cons (pe_op op_add pe_int (pe_callR (ok__law_draw T) (by walk_at "room") (by rfl) T.g__law_draw T.k__law_draw pass0 (pa_cons (pv 0) (pa_cons pe_int pa_nil)))) pa_nil)) (pg_name (i := 4) sc__law_lone.nd rfl (by walk_at "loc"))
      (pss_cons (ps_set (i := 5) sc__law_lone.nd rfl (by walk_at "loc") (pe_op op_add (pv 1) (pe_callR (ok__law_draw T) (by walk_at "room") (by rfl) T.g__law_draw T.k__law_draw pass0 (pa_cons (pv 0) (pa_cons (pe_op op_add (pe_op op_sub (pv 2) (pv 1)) pe_int) pa_nil)))))
      (pss_cons (ps_set (i := 6) sc__law_lone.nd rfl (by walk_at "loc") (pe_op op_add (pv 1) (pe_callR (ok__law_draw T) (by walk_at "room") (by rfl) T.g__law_draw T.k__law_draw pass0 (pa_cons (pv 0) (pa_cons (pe_op op_add (pe_op op_sub (pv 2) (pv 1)) pe_int) pa_nil)))))
      (pss_cons (ps_set (i := 7) sc__law_lone.nd rfl (by walk_at "loc") (pe_slice (sl_listK K) (pe_lst (pa_cons (pe_tup (pa_cons (pv 5) (pa_cons (pv 6) pa_nil))) (pa_cons (pe_tup (pa_cons (pv 6) (pa_cons (pv 5) pa_nil))) pa_nil))) po_none (po_some (pe_op op_add pe_int (pe_callR (ok__law_draw T) (by walk_at "room") (by rfl) T.g__law_draw T.k__law_draw pass0 (pa_cons (pv 0) (pa_cons pe_int pa_nil)))))))
      (pss_one (ps_set (i := 3) sc__law_lone.nd rfl (by walk_at "loc") (pe_op op_cat (pv 3) (pe_ifExp (pt_cmpR op_gt (pe_callR (ok__law_draw T) (by walk_at "room") (by rfl) T.g__law_draw T.k__law_draw pass0 (pa_cons (pv 0) (pa_cons pe_int pa_nil))) pe_int (nomark _)) (pv 7) (pe_lst (pa_cons (pe_tup (pa_cons (pv 5) (pa_cons (pv 5) pa_nil))) pa_nil))))))))))
      (pss_one (ps_ret (pv 3))))), ?_⟩
    refine ⟨_, rfl, _, rfl, by show 2 ≤ sizeLine; decide, fun t nt => ⟨by show 1 ≤ sizeLine; decide, fun l nl => ?_⟩⟩
    have s1 := (Same.new (o := .tup [.int lo, .int hi]) nt).trans (Same.new (o := .lst [.ref t]) nl)
    have pl1 : IsPl K (upd (upd H t (.tup [.int lo, .int hi])) l (.lst [.ref t])) (.ref l) [(lo, hi)] := ⟨l, _, rfl, upd_same, .cons (Dp.mkpr (upd_get nl upd_same)) .nil⟩
    generalize upd (upd H t (.tup [.int lo, .int hi])) l (.lst [.ref t]) = H1 at s1 pl1
    refine ⟨_, rfl, m, c, g, B + 19, _, rfl, (hM.same s1).le (by omega), by decide, by decide, fun r H2 s2 hM2 hr0 hr1 _ => ⟨_, _, rfl, rfl, ?_⟩⟩
    obtain ⟨l', xs, el, hl2, dl2⟩ := pl1.s s2
    cases el
    have hxl := Prs.len dl2
    refine ⟨l, _, xs, rfl, rfl, hl2, by omega, by omega, ?_, fun F nF => ?_⟩
    · rw [hxl]
      refine Nat.le_trans (show [(lo, hi)].length * (1 + r).toNat ≤ 1000 from ?_) (by decide)
      show 1 * (1 + r).toNat ≤ 1000
      omega
    have plF : ∃ ps, IsPl K (upd H2 F (.lst (List.replicate (1 + r).toNat xs).flatten)) (.ref F) ps ∧ ps.length ≤ 2 ∧ ∀ p ∈ ps, inB lo hi p := by
      have dl3 := Dp.sameAll (Same.new (o := .lst (List.replicate (1 + r).toNat xs).flatten) nF) _ dl2
      have hb : inB lo hi (lo, hi) := ⟨⟨Int.le_refl _, h1⟩, h1, Int.le_refl _⟩
      rcases (by omega : r = 0 ∨ r = 1) with rfl | rfl
      · refine ⟨[(lo, hi)], ⟨F, _, rfl, upd_same, ?_⟩, (by show 1 ≤ 2; decide), fun p m => by rw [List.mem_singleton.mp m]; exact hb⟩
        have e : (List.replicate (1 + 0 : Int).toNat xs).flatten = xs := List.append_nil xs
        rw [e] at dl3 ⊢
        exact dl3
      · refine ⟨[(lo, hi)] ++ [(lo, hi)], ⟨F, _, rfl, upd_same, ?_⟩, (by show 2 ≤ 2; decide), inB_app (fun p m => by rw [List.mem_singleton.mp m]; exact hb) (fun p m => by rw [List.mem_singleton.mp m]; exact hb)⟩
        have e : (List.replicate (1 + 1 : Int).toNat xs).flatten = xs ++ xs := congrArg (xs ++ ·) (List.append_nil xs)
        rw [e] at dl3 ⊢
        rw [prs_append]
        exact dl3.append dl3
    have s02 : SameS H (upd H2 F (.lst (List.replicate (1 + r).toNat xs).flatten)) := (s1.s.trans s2).trans (Same.new nF).s
    have hM3 := hM2.same (Same.new (o := .lst (List.replicate (1 + r).toNat xs).flatten) nF)
    generalize upd H2 F (.lst (List.replicate (1 + r).toNat xs).flatten) = H3 at plF s02 hM3
    obtain ⟨ps0, pl0, pz0, pb0⟩ := plF
    refine ⟨_, rfl, m, c, g, B + 18, _, rfl, hM3.le (by omega), by decide, by decide, fun r2 H4 s4 hM4 hr20 hr21 _ => ⟨_, _, rfl, rfl, _, rfl, by omega, by omega, ?_⟩⟩
    refine for_it walk_range (fun i σ H' => SameS H H' ∧ (∃ (F : V) (ps : List PI2) (a b d e : Option V), IsPl K H' F ps ∧ ps.length ≤ 2 + 2 * i ∧ (∀ p ∈ ps, inB lo hi p) ∧ σ = [some (.ref m), some (.int lo), some (.int hi), some F, a, b, d, e]) ∧ MAt H' m c g (B + 4 * (4 - i))) ⟨s02.trans s4, ⟨_, ps0, _, _, _, _, pl0.s s4, by omega, pb0, rfl⟩, hM4.le (by omega)⟩ (fun i σ H' _ q => trivial) ?_ ?_
    · rintro i x σ H0x H5 hi' ⟨s5, ⟨F2, ps, a, b, d, e, pl5, pz5, pb5, rfl⟩, hM5⟩ ⟨rfl, rfl⟩
      have hi2 : i < 3 := by
        have z : i < (1 + r2).toNat := hi'
        omega
      refine ⟨_, rfl, _, rfl, _, rfl, _, rfl, _, _, rfl, rfl, _, _, rfl, rfl, m, c, g, B + 4 * (4 - i) - 1, _, rfl, hM5.le (by omega), by omega, by omega, fun r6 H6 s6 hM6 hr60 hr61 _ => ⟨_, _, rfl, rfl, ?_⟩⟩
      refine ⟨_, rfl, _, rfl, _, rfl, _, rfl, _, _, rfl, rfl, _, _, rfl, rfl, m, c, g, B + 4 * (4 - i) - 2, _, rfl, hM6.le (by omega), by omega, by omega, fun r7 H7 s7 hM7 hr70 hr71 _ => ⟨_, _, rfl, rfl, ?_⟩⟩
      refine ⟨_, rfl, _, rfl, by show 2 ≤ sizeLine; decide, fun t1 n1 => ⟨_, rfl, _, rfl, by show 2 ≤ sizeLine; decide, fun t2 n2 => ⟨by show 2 ≤ sizeLine; decide, fun l2 n3 => ?_⟩⟩⟩
      have s8 := ((Same.new (o := .tup [.int (lo + r6), .int (lo + r7)]) n1).trans (Same.new (o := .tup [.int (lo + r7), .int (lo + r6)]) n2)).trans (Same.new (o := .lst [.ref t1, .ref t2]) n3)
      have pl8 : IsPl K (upd (upd (upd H7 t1 (.tup [.int (lo + r6), .int (lo + r7)])) t2 (.tup [.int (lo + r7), .int (lo + r6)])) l2 (.lst [.ref t1, .ref t2])) (.ref l2) [(lo + r6, lo + r7), (lo + r7, lo + r6)] :=
        ⟨l2, _, rfl, upd_same, .cons (Dp.mkpr (upd_get n3 (upd_get n2 upd_same))) (.cons (Dp.mkpr (upd_get n3 upd_same)) .nil)⟩
      generalize upd (upd (upd H7 t1 (.tup [.int (lo + r6), .int (lo + r7)])) t2 (.tup [.int (lo + r7), .int (lo + r6)])) l2 (.lst [.ref t1, .ref t2]) = H8 at s8 pl8
      have b67 : ∀ p ∈ [(lo + r6, lo + r7), (lo + r7, lo + r6)], inB lo hi p := fun p m => by
        rcases List.mem_cons.mp m with e | m
        · rw [e]
          exact ⟨by constructor <;> show _ ≤ _ <;> omega, by constructor <;> show _ ≤ _ <;> omega⟩
        · rw [List.mem_singleton.mp m]
          exact ⟨by constructor <;> show _ ≤ _ <;> omega, by constructor <;> show _ ≤ _ <;> omega⟩
      have s58 : SameS H5 H8 := (s6.trans s7).trans s8.s
      have hM8 := hM7.same s8
      dsimp only [tNoPart]
      refine ⟨_, rfl, m, c, g, B + 4 * (4 - i) - 3, _, rfl, hM8.le (by omega), by decide, by decide, fun r9 H9 s9 hM9 hr90 hr91 _ => ⟨_, _, rfl, rfl, _, rfl, sl_pl (pl8.s s9) (by omega) fun p H10 s10 pl10 => ?_⟩⟩
      have s510 := (s58.trans s9).trans s10.s
      refine ⟨_, rfl, _, rfl, m, c, g, B + 4 * (4 - i) - 4, _, rfl, (hM9.same s10).le (by omega), by decide, by decide, fun r11 H11 s11 hM11 hr110 hr111 _ => ⟨_, _, rfl, rfl, _, rfl, iteB (fun e => ?_) (fun e => ?_)⟩⟩
      · have tz : ([(lo + r6, lo + r7), (lo + r7, lo + r6)].take (1 + r9).toNat).length ≤ 2 := Nat.le_trans (List.length_take_le' _ _) (by show 2 ≤ 2; decide)
        refine ⟨_, rfl, cat_pl (pl5.s (s510.trans s11)) (pl10.s s11) (by omega) fun q H12 s12 nq pl12 => ?_⟩
        exact ⟨(s5.trans (s510.trans s11)).trans s12.s, ⟨_, _, _, _, _, _, pl12, by rw [List.length_append]; omega, inB_app pb5 (inB_take b67), rfl⟩, (hM11.same s12).le (by omega)⟩
      · refine ⟨_, rfl, _, rfl, by show 2 ≤ sizeLine; decide, fun t5 n5 => ⟨by show 1 ≤ sizeLine; decide, fun l5 nl5 => ?_⟩⟩
        have s12 := (Same.new (o := .tup [.int (lo + r6), .int (lo + r6)]) n5).trans (Same.new (o := .lst [.ref t5]) nl5)
        have pl12 : IsPl K (upd (upd H11 t5 (.tup [.int (lo + r6), .int (lo + r6)])) l5 (.lst [.ref t5])) (.ref l5) [(lo + r6, lo + r6)] := ⟨l5, _, rfl, upd_same, .cons (Dp.mkpr (upd_get nl5 upd_same)) .nil⟩
        generalize upd (upd H11 t5 (.tup [.int (lo + r6), .int (lo + r6)])) l5 (.lst [.ref t5]) = H12 at s12 pl12
        refine cat_pl (pl5.s ((s510.trans s11).trans s12.s)) pl12 (by show ps.length + 1 ≤ 1000; omega) fun q H13 s13 nq pl13 => ?_
        refine ⟨(s5.trans ((s510.trans s11).trans s12.s)).trans s13.s, ⟨_, _, _, _, _, _, pl13, by rw [List.length_append]; show ps.length + 1 ≤ _; omega, inB_app pb5 (fun p m => ?_), rfl⟩, (hM11.same (s12.trans s13)).le (by omega)⟩
        rw [List.mem_singleton.mp m]
        exact ⟨by constructor <;> show _ ≤ _ <;> omega, by constructor <;> show _ ≤ _ <;> omega⟩
    · rintro σ H5 ⟨s5, ⟨F2, ps, a, b, d, e, pl5, pz5, pb5, rfl⟩, hM5⟩
      refine ⟨_, rfl, k _ _ ps s5 (hM5.le (by omega)) pl5 ?_ pb5⟩
      have z : ps.length ≤ 2 + 2 * (1 + r2).toNat := pz5
      omega

end
end K41

set_option maxHeartbeats 4000000
namespace K41
open PySem PySem.Spec PyProof.Rows L2 CT
local macro_rules | `(tactic| walk_at "room") => `(tactic| first | assumption | exact Room.mono (by assumption) (by decide))
local macro_rules | `(tactic| walk_at "room64") => `(tactic| exact Room.units (by assumption))
local macro_rules | `(tactic| walk_at "room65") => `(tactic| exact room65 (by assumption))
local macro_rules | `(tactic| walk_at "hu") => `(tactic| exact hu_of (by assumption))
local macro_rules | `(tactic| walk_at "loc") => `(tactic| first | exact Or.inl rfl | exact Or.inr rfl)
local macro_rules | `(tactic| walk_at "hp") => `(tactic| first
  | assumption
  | exact upd_same
  | (refine upd_get (by assumption) ?_; walk_at "hp")
  | (refine Same.get (by assumption) ?_; walk_at "hp")
  | (refine SameS.get (by assumption) (by first | trivial | exact ⟨rfl, rfl⟩) ?_; walk_at "hp"))
local macro_rules | `(tactic| walk_at "same") => `(tactic| first
  | assumption
  | exact Same.refl _
  | (refine Same.trans ?_ (Same.new (by assumption)); walk_at "same")
  | (refine Same.trans ?_ (by assumption); walk_at "same"))
section
variable {P : Program} {w : World} {K : PySem.W.Frag} {mg : Str → Option Value} {base : Heap}
theorem seq_fin {A R : TS} {D : Ends} {σ : L2.St} {H : Hp} (P : L2.St → Hp → Prop) (h1 : ∀ σ' H', P σ' H' → R D σ' H') (h2 : (∀ σ' H', P σ' H' → R D σ' H') → A { D with nx := R D } σ H) : tSeq A R D σ H := h2 h1
theorem inB_hgt {lo hi : Int} {p : PI2} (h0 : 0 ≤ lo) (h1 : hi ≤ 30) (h : inB lo hi p) : hgt2 p := ⟨⟨Int.le_trans h0 h.1.1, Int.le_trans h.1.2 h1⟩, Int.le_trans h0 h.2.1, Int.le_trans h.2.2 h1⟩
abbrev N__law_pairs : List Str := ["m", "most", "low", "high", "way", "found", "n", "near"]
theorem sc__law_pairs : FnScope N__law_pairs ["m", "most"] (defScope s__law_pairs) := ⟨rfl, rfl, rfl, by decide +kernel, rfl, by decide +kernel, by decide +kernel⟩
def sp__law_pairs (K : PySem.W.Frag) : Sp := fun vs H Q _ => ∃ (m c g : Addr) (B : Nat) (most : Int), vs = [.ref m, .int most] ∧ 1 ≤ most ∧ most ≤ 6 ∧ MAt H m c g (B + 400) ∧ ∀ (r : V) H' ps, SameS H H' → MAt H' m c g B → IsPl K H' r ps → ps.length ≤ 6 → (∀ p ∈ ps, hgt2 p) → Q r H'
theorem ok__law_pairs (T : Txt K mg) : FnR P w K mg base CX0 4 (He.ga K "_law_pairs") (sp__law_pairs K) := by
  obtain ⟨fd, F⟩ := T.d__law_pairs
  refine plainR F sc__law_pairs (fun _ _ _ _ _ _ us hl => match us, hl with | [_, _], _ => rfl) (fun vs H Q E h => ?_) (fun cdv A outer s H vs Q E hr h => ?_)
  · obtain ⟨m, c, g, B, most, rfl, _⟩ := h
    rfl
  · obtain ⟨m, c, g, B, most, rfl, hm0, hm1, hM, k⟩ := h
    refine ⟨_, (pss_cons (ps_set (i := 2) sc__law_pairs.nd rfl (by walk_at "loc") (pe_callR (ok__law_draw T) (by walk_at "room") (by rfl) T.g__law_draw T.k__law_draw pass0 (pa_cons (pv 0) (pa_cons pe_int pa_nil))))
      (pss_cons (ps_set (i := 3) sc__law_pairs.nd rfl (by walk_at "loc") (pe_op op_add (pe_op op_add (pv 2) pe_int) (pe_callR (ok__law_draw T) (by walk_at "room") (by rfl) T.g__law_draw T.k__law_draw pass0 (pa_cons (pv 0) (pa_cons (pe_ix (ix_listK K) (pe_lst (pa_cons pe_int (pa_cons pe_int (pa_cons pe_int pa_nil)))) (pe_callR (ok__law_draw T) (by walk_at "room") (by rfl) T.g__law_draw T.k__law_draw pass0 (pa_cons (pv 0) (pa_cons pe_int pa_nil))) (fun _ _ => rfl)) pa_nil)))))
      (pss_cons (ps_par (i := 4) (j := 5) (by rfl) sc__law_pairs.nd rfl rfl (by decide) rfl rfl (pa_cons (pe_callR (ok__law_draw T) (by walk_at "room") (by rfl) T.g__law_draw T.k__law_draw pass0 (pa_cons (pv 0) (pa_cons pe_int pa_nil))) (pa_cons (pe_lst pa_nil) pa_nil)) (by rfl))
      (pss_cons (ps_if (pt_cmpR op_eq (pv 4) pe_int (nomark _)) (pss_one (ps_setLc (i := 5) (own := [("n", 6)]) rfl sc__law_pairs.nd rfl rfl (sw_true rfl rfl rfl (by decide +kernel)) (pi_range1 (by rfl) T.f_range (pa_cons (pe_callR (ok__law_draw T) (by walk_at "room") (by rfl) T.g__law_draw T.k__law_draw pass0 (pa_cons (pv 0) (pa_cons (pe_op op_add (pv 1) pe_int) pa_nil))) pa_nil)) (blkOk_by (own := [("n", 6)]) (N := N__law_pairs) (sc := defScope s__law_pairs) (by decide +kernel)) (fun _ _ _ _ _ => (pg_name (i := 6) sc__law_pairs.nd rfl (by walk_at "loc"))) (fun _ _ _ _ _ => pts_nil) (fun _ _ _ _ _ => (pe_callR (ok__law_pair T) (by walk_at "room") (by rfl) T.g__law_pair T.k__law_pair pass0 (pa_cons (pv 0) (pa_cons (pv 2) (pa_cons (pv 3) pa_nil))))))) (pss_one (ps_if (pt_cmpR op_eq (pv 4) pe_int (nomark _)) (pss_one (ps_for PassesOwn.never rfl (pi_range1 (by rfl) T.f_range (pa_cons (pe_op op_add pe_int (pe_callR (ok__law_draw T) (by walk_at "room") (by rfl) T.g__law_draw T.k__law_draw pass0 (pa_cons (pv 0) (pa_cons pe_int pa_nil)))) pa_nil)) (pg_name (i := 6) sc__law_pairs.nd rfl (by walk_at "loc"))
      (pss_one (ps_set (i := 5) sc__law_pairs.nd rfl (by walk_at "loc") (pe_op op_cat (pv 5) (pe_callR (ok__law_path T) (by walk_at "room") (by rfl) T.g__law_path T.k__law_path pass0 (pa_cons (pv 0) (pa_cons (pv 2) (pa_cons (pv 3) (pa_cons (pe_op op_add pe_int (pe_callR (ok__law_draw T) (by walk_at "room") (by rfl) T.g__law_draw T.k__law_draw pass0 (pa_cons (pv 0) (pa_cons (pv 1) pa_nil)))) pa_nil)))))))))) (pss_one (ps_if (pt_cmpR op_eq (pv 4) pe_int (nomark _)) (pss_one (ps_set (i := 5) sc__law_pairs.nd rfl (by walk_at "loc") (pe_callR (ok__law_lone T) (by walk_at "room") (by rfl) T.g__law_lone T.k__law_lone pass0 (pa_cons (pv 0) (pa_cons (pv 2) (pa_cons (pv 3) pa_nil)))))) (pss_one (ps_if (pt_cmpR op_eq (pv 4) pe_int (nomark _)) (pss_one (ps_set (i := 5) sc__law_pairs.nd rfl (by walk_at "loc") (pe_op op_cat (pe_callR (ok__law_lone T) (by walk_at "room") (by rfl) T.g__law_lone T.k__law_lone pass0 (pa_cons (pv 0) (pa_cons (pv 2) (pa_cons (pv 3) pa_nil)))) (pe_lc (own := [("n", 6)]) rfl sc__law_pairs.nd (pi_range1 (by rfl) T.f_range (pa_cons (pe_callR (ok__law_draw T) (by walk_at "room") (by rfl) T.g__law_draw T.k__law_draw pass0 (pa_cons (pv 0) (pa_cons pe_int pa_nil))) pa_nil)) (blkOk_by (own := [("n", 6)]) (N := N__law_pairs) (sc := defScope s__law_pairs) (by decide +kernel)) (fun _ _ _ _ _ => (pg_name (i := 6) sc__law_pairs.nd rfl (by walk_at "loc"))) (fun _ _ _ _ _ => pts_nil) (fun _ _ _ _ _ => (pe_callR (ok__law_pair T) (by walk_at "room") (by rfl) T.g__law_pair T.k__law_pair pass0 (pa_cons (pv 0) (pa_cons (pv 2) (pa_cons (pv 3) pa_nil))))))))) (pss_cons (ps_setLc (i := 5) (own := [("near", 7)]) rfl sc__law_pairs.nd rfl rfl (sw_true rfl rfl rfl (by decide +kernel)) (pi_range2 (by rfl) T.f_range (pa_cons (pv 2) (pa_cons (pv 3) pa_nil))) (blkOk_by (own := [("near", 7)]) (N := N__law_pairs) (sc := defScope s__law_pairs) (by decide +kernel)) (fun _ _ _ _ _ => (pg_name (i := 7) sc__law_pairs.nd rfl (by walk_at "loc"))) (fun _ _ _ _ _ => pts_nil) (fun _ _ _ _ _ => (pe_tup (pa_cons (pv 7) (pa_cons (pe_ifExp (pt_cmpR op_lt (pv 7) pe_int (nomark _)) (pe_op op_add (pv 7) pe_int) (pv 7)) pa_nil)))))
      (pss_one (ps_set (i := 5) sc__law_pairs.nd rfl (by walk_at "loc") (pe_op op_cat (pv 5) (pe_callR (ok__law_path T) (by walk_at "room") (by rfl) T.g__law_path T.k__law_path pass0 (pa_cons (pv 0) (pa_cons (pv 2) (pa_cons (pv 3) (pa_cons (pe_op op_add pe_int (pe_callR (ok__law_draw T) (by walk_at "room") (by rfl) T.g__law_draw T.k__law_draw pass0 (pa_cons (pv 0) (pa_cons (pv 1) pa_nil)))) pa_nil))))))))))))))))
      (pss_one (ps_ret (pe_slice (sl_listK K) (pe_callR (ok__law_mixed_up T) (by walk_at "room") (by rfl) T.g__law_mixed_up T.k__law_mixed_up pass0 (pa_cons (pv 0) (pa_cons (pv 5) pa_nil))) po_none (po_some (pv 1))))))))), ?_⟩
    refine ⟨_, rfl, m, c, g, B + 399, _, rfl, hM, by decide, by decide, fun lo H1 s1 hM1 hlo0 hlo1 _ => ?_⟩
    refine ⟨_, rfl, _, _, rfl, rfl, _, rfl, by show 3 ≤ sizeLine; decide, fun l nl => ⟨_, rfl, m, c, g, B + 398, _, rfl, (hM1.same (Same.new nl)).le (by omega), by decide, by decide, fun j H2 s2 hM2 hj0 hj1 dd => ?_⟩⟩
    have hlm : l ≠ m ∧ l ≠ g := by
      obtain ⟨⟨_, _, _, e1, _, _, _, e5, _, _⟩, _⟩ := hM1
      exact ⟨(ne_of_none e1 nl).symm, (ne_of_none e5 nl).symm⟩
    have hl2 := dd _ _ upd_same hlm.1 hlm.2
    have top : ∃ t : Int, atI [V.int 3, V.int 6, V.int 18] j = some (.int t) ∧ 0 < t ∧ t ≤ 18 := by
      rcases (by omega : j = 0 ∨ j = 1 ∨ j = 2) with rfl | rfl | rfl
      · exact ⟨3, rfl, by decide, by decide⟩
      · exact ⟨6, rfl, by decide, by decide⟩
      · exact ⟨18, rfl, by decide, by decide⟩
    obtain ⟨t, et, ht0, ht1⟩ := top
    have s02 : SameS H H2 := (s1.trans (Same.new nl).s).trans s2
    refine ⟨l, _, j, _, rfl, rfl, SqL.of hl2, et, m, c, g, B + 397, _, rfl, hM2.le (by omega), ht0, by omega, fun r3 H3 s3 hM3 hr30 hr31 _ => ⟨_, _, rfl, rfl, ?_⟩⟩
    have h0hi : ∃ hi : Int, lo + 1 + r3 = hi ∧ lo < hi ∧ hi ≤ 30 := ⟨_, rfl, by omega, by omega⟩
    obtain ⟨hi, ehi, hlh, hhi⟩ := h0hi
    rw [show (fun i j => V.int (i + j)) (lo + 1) r3 = V.int hi from congrArg V.int ehi]
    refine ⟨_, rfl, m, c, g, B + 396, _, rfl, hM3.le (by omega), by decide, by decide, fun way H4 s4 hM4 hw0 hw1 _ => ⟨Nat.zero_le _, fun F nF => ⟨_, _, rfl, ?_⟩⟩⟩
    have s04 := ((s02.trans s3).trans s4).trans (Same.new (o := .lst []) nF).s
    have hM5 := hM4.same (Same.new (o := .lst []) nF)
    have hF5 : IsPl K (upd H4 F (.lst [])) (.ref F) [] := ⟨F, [], rfl, upd_same, .nil⟩
    generalize upd H4 F (.lst []) = H5 at s04 hM5 hF5
    clear s1 hM1 s2 hM2 dd hl2 hlm s02 s3 hM3 s4 hM4 nF nl
    have hR : ∀ (i : Nat) (y : V) (H H' : Hp), SameS H H' → (∃ p, Dp K H y (pr p) ∧ inB lo hi p) → ∃ p, Dp K H' y (pr p) ∧ inB lo hi p := fun i y H H' s ⟨p, d, hb⟩ => ⟨p, Dp.sames s _ (calm_pr p) d, hb⟩
    have hc : ∀ (i : Nat) (y : V) (H : Hp), (∃ p, Dp K H y (pr p) ∧ inB lo hi p) → NotInt y := fun i y H ⟨p, d, _⟩ j e => by
      subst e
      cases d
    dsimp only
    refine seq_fin (fun σ' H' => SameS H H' ∧ MAt H' m c g (B + 100) ∧ ∃ (Fv : V) (ps : List PI2) (a b d : Option V), IsPl K H' Fv ps ∧ ps.length ≤ 100 ∧ (∀ p ∈ ps, inB lo hi p) ∧ σ' = [some (.ref m), some (.int most), some (.int lo), some (.int hi), d, some Fv, a, b]) ?_ (fun fin => ?_)
    · rintro σ' H' ⟨s5, hM6, Fv, ps, a, b, d, pl, pz, pb, rfl⟩
      refine ⟨_, rfl, _, rfl, m, c, g, B, _, ps, rfl, pl, pz, hM6, fun r H6 qs s6 hM7 pl6 hp => ?_⟩
      dsimp only [tNoPart]
      refine ⟨_, rfl, _, rfl, sl_pl pl6 (by omega) fun p H7 s7 pl7 => k _ _ _ ((s5.trans s6).trans s7.s) (hM7.same s7) pl7 ?_ fun q hq => inB_hgt hlo0 hhi (pb q (hp.mem_iff.mp (List.mem_of_mem_take hq)))⟩
      have z := List.length_take_le most.toNat qs
      omega
    refine ⟨_, rfl, rfl, _, rfl, iteB (fun e => ?_) (fun e => ?_)⟩
    · -- way 0
      refine ⟨_, rfl, _, rfl, _, _, rfl, rfl, m, c, g, B + 200, _, rfl, hM5.le (by omega), by omega, by omega, fun r6 H6 s6 hM6 hr60 hr61 _ => ⟨r6, rfl, by omega, by omega, fun D hD => ?_⟩⟩
      refine lc_genM wSameS walk_range hD (by omega) (fun _ => true) (fun i y H => ∃ p, Dp K H y (pr p) ∧ inB lo hi p) hR hc (fun H s => trivial) (fun i H => MAt H m c g (B + 100 + 2 * (7 - i))) (hM6.le (by omega)) (fun i H o h => h.upd hM6 hD) ?_ ?_
      · rintro acc i x H7 H8 C C0 hi7 l7 m7 hDl hall ⟨rfl, rfl⟩ kC kC0
        have hi8 : i < 7 := by omega
        refine ⟨rfl, lc_yes ⟨_, rfl, _, rfl, _, rfl, m, c, g, B + 100 + 2 * (7 - (i + 1)), lo, hi, rfl, hlo0, by omega, hhi, m7.le (by omega), fun t H9 p s9 hM9 ht hb => kC _ _ s9 hM9 rfl fun o => ⟨p, Dp.mkprU (s9 _ _ hDl (noInt_ofAll hall)) ht o, hb⟩⟩⟩
      · intro H7 ys l7 m7 hDl got
        obtain ⟨ps, pn, pd, pb⟩ := got_some got
        exact fin _ _ ⟨(s04.trans s6).trans l7, m7.le (by omega), _, ps, _, _, _, ⟨D, ys, rfl, hDl, pd⟩, by omega, pb, rfl⟩
    refine ⟨_, rfl, rfl, _, rfl, iteB (fun e => ?_) (fun e => ?_)⟩
    · -- way 1
      refine ⟨_, rfl, m, c, g, B + 200, _, rfl, hM5.le (by omega), by decide, by decide, fun r6 H6 s6 hM6 hr60 hr61 _ => ⟨_, _, rfl, rfl, _, rfl, by omega, by omega, ?_⟩⟩
      refine for_it (D := { nx := _, rt := _, bk := fun _ _ => True, ct := fun _ _ => True }) walk_range (fun i σ H' => SameS H H' ∧ (∃ (Fv : V) (ps : List PI2) (a b d : Option V), IsPl K H' Fv ps ∧ ps.length ≤ 6 * i ∧ (∀ p ∈ ps, inB lo hi p) ∧ σ = [some (.ref m), some (.int most), some (.int lo), some (.int hi), d, some Fv, a, b]) ∧ MAt H' m c g (B + 100 + 21 * (4 - i))) ⟨s04.trans s6, ⟨_, [], _, _, _, hF5.s s6, Nat.zero_le _, (fun _ m => nomatch m), rfl⟩, hM6.le (by omega)⟩ (fun i σ H' _ q => trivial) ?_ ?_
      · rintro i x σ H0x H7 hi' ⟨s7, ⟨Fv, ps, a, b, d, pl7, pz7, pb7, rfl⟩, hM7⟩ ⟨rfl, rfl⟩
        have hi2 : i < 3 := by
          have z : i < (1 + r6).toNat := hi'
          omega
        refine ⟨_, rfl, _, rfl, _, rfl, _, rfl, _, rfl, _, rfl, m, c, g, B + 100 + 21 * (4 - i) - 1, _, rfl, hM7.le (by omega), by omega, by omega, fun r8 H8 s8 hM8 hr80 hr81 _ => ⟨_, _, rfl, rfl, m, c, g, B + 100 + 21 * (4 - i) - 21, lo, hi, _, rfl, hlo0, by omega, hhi, ⟨by omega, by omega⟩, hM8.le (by omega), fun r H9 qs s9 hM9 pl9 qz qb => ?_⟩⟩
        refine cat_pl (pl7.s (s8.trans s9)) pl9 (by omega) fun q H10 s10 nq pl10 => ?_
        exact ⟨((s7.trans s8).trans s9).trans s10.s, ⟨_, _, _, _, _, pl10, by rw [List.length_append]; omega, inB_app pb7 qb, rfl⟩, (hM9.same s10).le (by omega)⟩
      · rintro σ H7 ⟨s7, ⟨Fv, ps, a, b, d, pl7, pz7, pb7, rfl⟩, hM7⟩
        refine fin _ _ ⟨s7, hM7.le (by omega), _, ps, _, _, _, pl7, ?_, pb7, rfl⟩
        have z : ps.length ≤ 6 * (1 + r6).toNat := pz7
        omega
    refine ⟨_, rfl, rfl, _, rfl, iteB (fun e => ?_) (fun e => ?_)⟩
    · -- way 2
      exact ⟨_, rfl, _, rfl, _, rfl, m, c, g, B + 200, lo, hi, rfl, hlo0, by omega, hhi, hM5.le (by omega), fun r H6 ps s6 hM6 pl6 pz pb => fin _ _ ⟨s04.trans s6, hM6.le (by omega), _, ps, _, _, _, pl6, by omega, pb, rfl⟩⟩
    refine ⟨_, rfl, rfl, _, rfl, iteB (fun e => ?_) (fun e => ?_)⟩
    · -- way 3
      refine ⟨_, rfl, _, rfl, _, rfl, m, c, g, B + 220, lo, hi, rfl, hlo0, by omega, hhi, hM5.le (by omega), fun r H6a ps6 s6a hM6a pl6 pz6 pb6 => ?_⟩
      refine ⟨_, rfl, m, c, g, B + 200, _, rfl, hM6a.le (by omega), by decide, by decide, fun r6 H6 s6 hM6 hr60 hr61 _ => ⟨r6, rfl, by omega, by omega, fun D hD => ?_⟩⟩
      refine lc_genM wSameS walk_range hD (by omega) (fun _ => true) (fun i y H => ∃ p, Dp K H y (pr p) ∧ inB lo hi p) hR hc (fun H s => trivial) (fun i H => MAt H m c g (B + 100 + 2 * (7 - i))) (hM6.le (by omega)) (fun i H o h => h.upd hM6 hD) ?_ ?_
      · rintro acc i x H7 H8 C C0 hi7 l7 m7 hDl hall ⟨rfl, rfl⟩ kC kC0
        have hi8 : i < 7 := by omega
        refine ⟨rfl, lc_yes ⟨_, rfl, _, rfl, _, rfl, m, c, g, B + 100 + 2 * (7 - (i + 1)), lo, hi, rfl, hlo0, by omega, hhi, m7.le (by omega), fun t H9 p s9 hM9 ht hb => kC _ _ s9 hM9 rfl fun o => ⟨p, Dp.mkprU (s9 _ _ hDl (noInt_ofAll hall)) ht o, hb⟩⟩⟩
      · intro H7 ys l7 m7 hDl got
        obtain ⟨ps, pn, pd, pb⟩ := got_some got
        refine cat_pl (pl6.s (s6.trans l7)) ⟨D, ys, rfl, hDl, pd⟩ (by omega) fun q H10 s10 nq pl10 => ?_
        exact fin _ _ ⟨((((s04.trans s6a).trans s6).trans l7).trans s10.s), (m7.same s10).le (by omega), _, _, _, _, _, pl10, by rw [List.length_append]; omega, inB_app pb6 pb, rfl⟩
    · -- way 4
      refine ⟨_, rfl, _, rfl, lo, hi, rfl, ⟨by omega, by omega, by omega, by omega⟩, fun D hD => lc_gen wSame walk_range hD (by omega) (fun _ => true) (fun i y H => ∃ p, Dp K H y (pr p) ∧ inB lo hi p) (fun i y H H' s d => hR i y H H' s.s d) (fun _ _ _ _ => trivial) (fun H s => trivial) ?_ ?_⟩
      · rintro acc i x H7 H8 C C0 hi7 l7 hDl ⟨rfl, rfl⟩ kC kC0
        have hi8 : (i : Int) < hi - lo := by omega
        refine ⟨rfl, lc_yes ⟨_, rfl, _, rfl, _, _, rfl, rfl, _, rfl, iteB (fun e => ?_) (fun e => ?_)⟩⟩
        · refine ⟨_, rfl, _, _, rfl, rfl, by show 2 ≤ sizeLine; decide, fun t nt => kC _ _ (Same.new nt) rfl fun o => ⟨(lo + i, lo + i + 1), Dp.mkprU (upd_get nt hDl) upd_same o, ?_⟩⟩
          exact ⟨by constructor <;> show _ ≤ _ <;> omega, by constructor <;> show _ ≤ _ <;> omega⟩
        · refine ⟨_, rfl, by show 2 ≤ sizeLine; decide, fun t nt => kC _ _ (Same.new nt) rfl fun o => ⟨(lo + i, lo + i), Dp.mkprU (upd_get nt hDl) upd_same o, ?_⟩⟩
          exact ⟨by constructor <;> show _ ≤ _ <;> omega, by constructor <;> show _ ≤ _ <;> omega⟩
      · intro H7 ys l7 hDl got
        obtain ⟨ps, pn, pd, pb⟩ := got_some got
        have hM7 := hM5.same l7
        refine ⟨_, rfl, _, rfl, _, rfl, _, rfl, _, rfl, _, rfl, m, c, g, B + 200, _, rfl, hM7.le (by omega), by omega, by omega, fun r8 H8 s8 hM8 hr80 hr81 _ => ⟨_, _, rfl, rfl, m, c, g, B + 180, lo, hi, _, rfl, hlo0, by omega, hhi, ⟨by omega, by omega⟩, hM8.le (by omega), fun r H9 qs s9 hM9 pl9 qz qb => ?_⟩⟩
        have pl7 : IsPl K H7 (.ref D) ps := ⟨D, ys, rfl, hDl, pd⟩
        refine cat_pl (pl7.s (s8.trans s9)) pl9 (by omega) fun q H10 s10 nq pl10 => ?_
        exact fin _ _ ⟨(((s04.trans l7.s).trans s8).trans s9).trans s10.s, (hM9.same s10).le (by omega), _, _, _, _, _, pl10, by rw [List.length_append]; omega, inB_app pb qb, rfl⟩

end
end K41

set_option maxHeartbeats 4000000
namespace K41
open PySem PySem.Spec PyProof.Rows L2 CT
local macro_rules | `(tactic| walk_at "room") => `(tactic| first | assumption | exact Room.mono (by assumption) (by decide))
local macro_rules | `(tactic| walk_at "room64") => `(tactic| exact Room.units (by assumption))
local macro_rules | `(tactic| walk_at "room65") => `(tactic| exact room65 (by assumption))
local macro_rules | `(tactic| walk_at "hu") => `(tactic| exact hu_of (by assumption))
local macro_rules | `(tactic| walk_at "loc") => `(tactic| first | exact Or.inl rfl | exact Or.inr rfl)
local macro_rules | `(tactic| walk_at "hp") => `(tactic| first
  | assumption
  | exact upd_same
  | (refine upd_get (by assumption) ?_; walk_at "hp")
  | (refine Same.get (by assumption) ?_; walk_at "hp")
  | (refine SameS.get (by assumption) (by first | trivial | exact ⟨rfl, rfl⟩) ?_; walk_at "hp"))
local macro_rules | `(tactic| walk_at "same") => `(tactic| first
  | assumption
  | exact Same.refl _
  | (refine Same.trans ?_ (Same.new (by assumption)); walk_at "same")
  | (refine Same.trans ?_ (by assumption); walk_at "same"))
section
variable {P : Program} {w : World} {K : PySem.W.Frag} {mg : Str → Option Value} {base : Heap}
theorem desk_ne_ticket (T : Txt K mg) : He.ga K "Ticket" ≠ He.ga K "Desk" := fun e => by
  have z := T.kit_Desk_Ticket
  rw [← e, T.kit_Ticket_Ticket] at z
  cases z
theorem row_ne_ticket (T : Txt K mg) : He.ga K "Ticket" ≠ He.ga K "Row" := fun e => by
  have z := T.kit_Row_Ticket
  rw [← e, T.kit_Ticket_Ticket] at z
  cases z
abbrev N__law_desk : List Str := ["pairs", "table", "near", "far"]
theorem sc__law_desk : FnScope N__law_desk ["pairs"] (defScope s__law_desk) := ⟨rfl, rfl, rfl, by decide +kernel, rfl, by decide +kernel, by decide +kernel⟩
def sp__law_desk (K : PySem.W.Frag) : Sp := fun vs H Q _ => ∃ v ps, vs = [v] ∧ IsPl K H v ps ∧ ps.length ≤ 40 ∧ (∀ p ∈ ps, hgt2 p) ∧ ∀ r H', Same H H' → IsDesk K H' r ps → Q r H'
theorem ok__law_desk (T : Txt K mg) : FnR P w K mg base CX0 9 (He.ga K "_law_desk") (sp__law_desk K) := by
  obtain ⟨fd, F⟩ := T.d__law_desk
  refine plainR F sc__law_desk (fun _ _ _ _ _ _ us hl => match us, hl with | [_], _ => rfl) (fun vs H Q E h => ?_) (fun cdv A outer s H vs Q E hr h => ?_)
  · obtain ⟨v, ps, rfl, _⟩ := h
    rfl
  · obtain ⟨v, ps, rfl, ⟨b, zs, rfl, hb, dz⟩, hz, hh, k⟩ := h
    have hl := Prs.len dz
    refine ⟨_, (pss_cons (ps_set (i := 1) sc__law_desk.nd rfl (by walk_at "loc") (pe_makeR0 T.mk_Desk (ok_Desk___init__ T) (by walk_at "room") (by rfl) T.g_Desk pass0))
      (pss_cons (ps_for PassesOwn.never rfl (pi_list (pv 0)) (pg_tupK K 2 rfl (pgs_cons (pg_name (i := 2) sc__law_desk.nd rfl (by walk_at "loc")) (pgs_cons (pg_name (i := 3) sc__law_desk.nd rfl (by walk_at "loc")) pgs_nil)))
      (pss_one (ps_set (i := 1) sc__law_desk.nd rfl (by walk_at "loc") (pe_op (op_addOwn (op := .Add) T.s_Desk T.o_Desk_add.at_ T.o_Desk_add.fn (ok_Desk___add__ T) (by walk_at "room") pass0) (pv 1) (StX.pe_makeR T.mk_Ticket (ok_Ticket___init__ T) (by walk_at "room") (by rfl) T.g_Ticket pass0 (pa_cons (pv 2) (pa_cons (pv 3) pa_nil)))))))
      (pss_one (ps_ret (pv 1))))), ?_⟩
    refine fun a ax h1 h2 h3 => use_Desk h1 h2 h3 (ps := []) .nil (Nat.zero_le _) fun H1 s1 d1 => ?_
    refine ⟨_, rfl, b, rfl, ⟨_, SqL.of (s1 _ _ hb)⟩, for_it walk_list (fun i σ H' => Same H H' ∧ ∃ tv a b2, IsDesk K H' tv (ps.take i) ∧ σ = [some (.ref b), some tv, a, b2]) ⟨s1, _, _, _, d1, rfl⟩ (fun i σ H' _ q => SqL.of (q.1 _ _ hb)) ?_ ?_⟩
    · rintro i x σ H2 H3 hi ⟨s2, tv, a2, b2, d2, rfl⟩ ⟨rfl, ex⟩
      obtain ⟨p, ep, tp⟩ := Prs.of_at (Dp.sameAll s2 _ dz) ex
      refine gpr tp ?_
      have hp := hh p (List.mem_of_getElem? ep)
      refine ⟨_, rfl, _, rfl, _, rfl, fun c cx g1 g2 g3 => use_Ticket g1 g2 g3 hp.1 hp.2 fun H4 s4 tk => ?_⟩
      obtain ⟨da, dt, dus, du, rfl, ⟨ddx, df, hda, hdf⟩, hdr⟩ := id (d2.s s4.s)
      obtain ⟨ta, tdx, eta, hta⟩ := id tk
      have tk1 : ps.take (i + 1) = ps.take i ++ [p] := by rw [List.take_add_one, ep] <;> rfl
      refine ⟨da, ddx, _, ta, _, tdx, _, rfl, eta, hda, hta, .inr ⟨desk_ne_ticket T, T.ns_Ticket_add⟩, .ref da, .ref c, ps.take i, [p], rfl, d2.s s4.s, .inl ⟨p, rfl, tk⟩, ?_, fun r H5 s5 d5 => ⟨(s2.trans s4).trans s5, r, _, _, ?_, rfl⟩⟩
      · rw [← tk1]
        exact Nat.le_trans (List.length_take_le' _ _) hz
      · rw [tk1]
        exact d5
    · rintro σ H2 ⟨s2, tv, a2, b2, d2, rfl⟩
      rw [hl, List.take_length] at d2
      exact ⟨_, rfl, k _ _ s2 d2⟩
abbrev N__law_written : List Str := ["line", "one"]
theorem sc__law_written : FnScope N__law_written ["line"] (defScope s__law_written) := ⟨rfl, rfl, rfl, by decide +kernel, rfl, by decide +kernel, by decide +kernel⟩
def sp__law_written (K : PySem.W.Frag) : Sp := fun vs H Q _ => ∃ v ps, vs = [v] ∧ IsRow K H v ps ∧ ps.length ≤ 100 ∧ ∀ r H', Same H H' → IsPl K H' r ps → Q r H'
theorem ok__law_written (T : Txt K mg) : FnR P w K mg base CX0 3 (He.ga K "_law_written") (sp__law_written K) := by
  obtain ⟨fd, F⟩ := T.d__law_written
  refine plainR F sc__law_written (fun _ _ _ _ _ _ us hl => match us, hl with | [_], _ => rfl) (fun vs H Q E h => ?_) (fun cdv A outer s H vs Q E hr h => ?_)
  · obtain ⟨v, ps, rfl, _⟩ := h
    rfl
  · obtain ⟨v, ps, rfl, hrow, hz, k⟩ := h
    obtain ⟨a, t, us, u, rfl, ⟨dx, ha⟩, hrest⟩ := id hrow
    refine ⟨_, (pss_one (ps_ret (pe_lc (own := [("one", 1)]) rfl sc__law_written.nd (pi_tup (pe_propR (pv 0) T.c_Row T.p_Row_tickets (ok_Row_tickets T) (by walk_at "room") pass0)) (blkOk_by (own := [("one", 1)]) (N := N__law_written) (sc := defScope s__law_written) (by decide +kernel)) (fun _ _ _ _ _ => (pg_name (i := 1) sc__law_written.nd rfl (by walk_at "loc"))) (fun _ _ _ _ _ => pts_nil) (fun _ _ _ _ _ => (pe_tup (pa_cons (pe_propR (pv 1) T.c_Ticket T.p_Ticket_x (ok_Ticket_x T) (by walk_at "room") pass0) (pa_cons (pe_propR (pv 1) T.c_Ticket T.p_Ticket_y (ok_Ticket_y T) (by walk_at "room") pass0) pa_nil))))))), ?_⟩
    refine ⟨_, rfl, a, dx, _, rfl, ha, _, ps, rfl, hrow, fun t2 us2 ht tk => ⟨t2, rfl, ⟨us2, SqT.of ht⟩, fun D hD => lc_gen wSame walk_tup hD (by rw [tk.len]; omega) (fun _ => true) (fun i y H => Dp K H y (pr (ps.getD i (0, 0)))) (fun i y H H' s d => d.same s) (fun _ _ _ _ => trivial) (fun H s => s.tup (SqT.of ht)) ?_ ?_⟩⟩
    · rintro acc i x H3 H4 C C0 hi s3 hDl ⟨rfl, ex⟩ kC kC0
      obtain ⟨p, ep, tp⟩ := tk.at_ ex
      have tp3 := tp.s s3.s
      obtain ⟨b, dy, rfl, hb⟩ := id tp3
      refine ⟨rfl, lc_yes ⟨_, rfl, b, dy, _, rfl, hb, _, p, rfl, tp3, _, rfl, b, dy, _, rfl, hb, _, p, rfl, tp3, by show 2 ≤ sizeLine; decide, fun q nq => ?_⟩⟩
      refine kC _ _ (Same.new nq) rfl ?_
      rw [getD_of ep]
      exact Dp.mkprU (upd_get nq hDl) upd_same
    · intro H3 ys s3 hDl got
      exact k _ _ s3 ⟨D, ys, rfl, hDl, got_prs tk.len got⟩
theorem got_none {R : Nat → V → Prop} : ∀ {n : Nat} {ys : List V}, Got (fun _ => false) R n ys → ys = []
  | _, _, .zero => rfl
  | _, _, .keep _ p _ => nomatch p
  | _, _, .skip g _ => got_none g
abbrev N__law_same : List Str := ["pairs", "others", "one"]
theorem sc__law_same : FnScope N__law_same ["pairs", "others"] (defScope s__law_same) := ⟨rfl, rfl, rfl, by decide +kernel, rfl, by decide +kernel, by decide +kernel⟩
def sp__law_same (K : PySem.W.Frag) : Sp := fun vs H Q _ => ∃ v u ps qs, vs = [v, u] ∧ IsPl K H v ps ∧ IsPl K H u qs ∧ ps.length ≤ 100 ∧ ps.Perm qs ∧ ∀ H', Same H H' → Q (.bl true) H'
theorem ok__law_same (T : Txt K mg) : FnR P w K mg base CX0 1 (He.ga K "_law_same") (sp__law_same K) := by
  obtain ⟨fd, F⟩ := T.d__law_same
  refine plainR F sc__law_same (fun _ _ _ _ _ _ us hl => match us, hl with | [_, _], _ => rfl) (fun vs H Q E h => ?_) (fun cdv A outer s H vs Q E hr h => ?_)
  · obtain ⟨v, u, ps, qs, rfl, _⟩ := h
    rfl
  · obtain ⟨v, u, ps, qs, rfl, ⟨a, xs, rfl, ha, da⟩, ⟨b, ys, rfl, hb, db⟩, hz, hp, k⟩ := h
    have hl := Prs.len da
    have hl2 := Prs.len db
    refine ⟨_, (pss_cons (ps_if (pt_cmpR op_ne (pe_callB (call_lenK K) (by rfl) T.f_len boot_len (pa_cons (pv 0) pa_nil)) (pe_callB (call_lenK K) (by rfl) T.f_len boot_len (pa_cons (pv 1) pa_nil)) (nomark _)) (pss_one (ps_ret pe_bl)) pss_nil)
      (pss_one (ps_ret (pe_cmpR (op_eqDK K (by walk_at "room64")) (pe_lc (own := [("one", 2)]) rfl sc__law_same.nd (pi_list (pv 0)) (blkOk_by (own := [("one", 2)]) (N := N__law_same) (sc := defScope s__law_same) (by decide +kernel)) (fun _ _ _ _ _ => (pg_name (i := 2) sc__law_same.nd rfl (by walk_at "loc"))) (fun _ _ _ _ _ => (pts_one (pt_cmpR op_ne (pe_bmK K PySem.F.plainAttrs_list PySem.F.slot_list_count PySem.F.type_list_count (mt_countDK K (by walk_at "room65")) (pv 0) (pa_cons (pv 2) pa_nil)) (pe_bmK K PySem.F.plainAttrs_list PySem.F.slot_list_count PySem.F.type_list_count (mt_countDK K (by walk_at "room65")) (pv 1) (pa_cons (pv 2) pa_nil)) (nomark _)))) (fun _ _ _ _ _ => (pv 2))) (pe_lst pa_nil) (nomark _))))), ?_⟩
    refine ⟨_, rfl, a, xs, rfl, .inl (SqL.of ha), _, rfl, b, ys, rfl, .inl (SqL.of hb), rfl, _, rfl, ?_⟩
    rw [hl, hl2, hp.length_eq]
    refine iteNS rfl ?_
    refine ⟨_, rfl, a, rfl, ⟨xs, SqL.of ha⟩, fun D hD => lc_gen wSame walk_list hD (by omega) (fun _ => false) (fun i y H => True) (fun i y H H' s d => trivial) (fun _ _ _ _ => trivial) (fun H s => SqL.of (s _ _ ha)) ?_ ?_⟩
    · rintro acc i x H3 H4 C C0 hi s3 hDl ⟨rfl, ex⟩ kC kC0
      have da3 := Dp.sameAll s3 _ da
      have db3 := Dp.sameAll s3 _ db
      obtain ⟨p, ep, tp⟩ := Prs.of_at da3 ex
      refine ⟨rfl, _, rfl, .inl ⟨rfl, _, SqL.of (s3 _ _ ha)⟩, _, rfl, a, x, pr p, prs ps, rfl, rfl, .lst (SqL.of (s3 _ _ ha)) da3, tp, shaped_lprs _, shaped_pr _, ?_⟩
      refine ⟨_, rfl, .inl ⟨rfl, _, SqL.of (s3 _ _ hb)⟩, _, rfl, b, x, pr p, prs qs, rfl, rfl, .lst (SqL.of (s3 _ _ hb)) db3, tp, shaped_lprs _, shaped_pr _, rfl, _, rfl, ?_⟩
      rw [countP_prs, countP_prs, hp.count_eq]
      refine iteNS rfl ?_
      exact kC0 _ (Same.refl _) rfl
    · intro H3 zs s3 hDl got
      rw [got_none got] at hDl
      refine ⟨Nat.zero_le _, fun e ne => ⟨.list [], .list [], .lst (SqL.of (upd_get ne hDl)) .nil, .lst (SqL.of upd_same) .nil, shaped_lprs [], shaped_lprs [], ?_⟩⟩
      exact k _ (s3.trans (Same.new ne))
abbrev N__law_is_path : List Str := ["pairs", "n"]
theorem sc__law_is_path : FnScope N__law_is_path ["pairs"] (defScope s__law_is_path) := ⟨rfl, rfl, rfl, by decide +kernel, rfl, by decide +kernel, by decide +kernel⟩
def sp__law_is_path (K : PySem.W.Frag) : Sp := fun vs H Q _ => ∃ v ps, vs = [v] ∧ IsPl K H v ps ∧ ps.length ≤ 100 ∧ path ps ∧ ∀ H', Same H H' → Q (.bl true) H'
theorem ok__law_is_path (T : Txt K mg) : FnR P w K mg base CX0 1 (He.ga K "_law_is_path") (sp__law_is_path K) := by
  obtain ⟨fd, F⟩ := T.d__law_is_path
  refine plainR F sc__law_is_path (fun _ _ _ _ _ _ us hl => match us, hl with | [_], _ => rfl) (fun vs H Q E h => ?_) (fun cdv A outer s H vs Q E hr h => ?_)
  · obtain ⟨v, ps, rfl, _⟩ := h
    rfl
  · obtain ⟨v, ps, rfl, ⟨a, xs, rfl, ha, da⟩, hz, hp, k⟩ := h
    have hl := Prs.len da
    refine ⟨_, (pss_one (ps_ret (pe_cmpR (op_eqDK K (by walk_at "room64")) (pe_lc (own := [("n", 1)]) rfl sc__law_is_path.nd (pi_range2 (by rfl) T.f_range (pa_cons pe_int (pa_cons (pe_callB (call_lenK K) (by rfl) T.f_len boot_len (pa_cons (pv 0) pa_nil)) pa_nil))) (blkOk_by (own := [("n", 1)]) (N := N__law_is_path) (sc := defScope s__law_is_path) (by decide +kernel)) (fun _ _ _ _ _ => (pg_name (i := 1) sc__law_is_path.nd rfl (by walk_at "loc"))) (fun _ _ _ _ _ => (pts_one (pt_cmpR op_lt (pe_ix (ix_tupK K) (pe_ix (ix_listK K) (pv 0) (pv 1) (fun _ _ => rfl)) pe_int (fun _ _ => rfl)) (pe_ix (ix_tupK K) (pe_ix (ix_listK K) (pv 0) (pe_op op_sub (pv 1) pe_int) (fun _ _ => rfl)) pe_int (fun _ _ => rfl)) (nomark _)))) (fun _ _ _ _ _ => (pv 1))) (pe_lst pa_nil) (nomark _)))), ?_⟩
    refine ⟨_, rfl, a, xs, rfl, .inl (SqL.of ha), 1, _, rfl, ⟨by decide, by decide, by omega, by omega⟩, fun D hD => lc_gen wSame walk_range hD (by omega) (fun _ => false) (fun i y H => True) (fun i y H H' s d => trivial) (fun _ _ _ _ => trivial) (fun H s => trivial) ?_ ?_⟩
    · rintro acc i x H3 H4 C C0 hi s3 hDl ⟨rfl, rfl⟩ kC kC0
      have h1 : i + 1 < xs.length := by omega
      have h0 : i < xs.length := by omega
      have da3 := Dp.sameAll s3 _ da
      obtain ⟨p, ep, tp⟩ := Prs.of_at da3 (List.getElem?_eq_getElem h1)
      obtain ⟨q, eq, tq⟩ := Prs.of_at da3 (List.getElem?_eq_getElem h0)
      have g1 := List.getElem?_eq_getElem h1
      have g0 := List.getElem?_eq_getElem h0
      generalize xs[i + 1] = y1 at tp g1
      generalize xs[i] = y0 at tq g0
      obtain ⟨pt, rfl, hpt⟩ := tp.pr_inv
      obtain ⟨qt, rfl, hqt⟩ := tq.pr_inv
      refine ⟨rfl, _, rfl, _, rfl, a, xs, _, _, rfl, rfl, SqL.of (s3 _ _ ha), at_of (j := i + 1) (by omega) g1, pt, _, 0, _, rfl, rfl, hpt, at_of (j := 0) rfl rfl, ?_⟩
      refine ⟨_, rfl, _, rfl, _, _, rfl, rfl, a, xs, _, _, rfl, rfl, SqL.of (s3 _ _ ha), at_of (j := i) (by omega) g0, qt, _, 1, _, rfl, rfl, hqt, at_of (j := 1) rfl rfl, _, _, rfl, rfl, _, rfl, ?_⟩
      have le := hp i q p eq ep
      rw [decide_eq_false (show ¬ p.1 < q.2 by omega)]
      exact iteF (kC0 _ (Same.refl _) rfl)
    · intro H3 zs s3 hDl got
      rw [got_none got] at hDl
      refine ⟨Nat.zero_le _, fun e ne => ⟨.list [], .list [], .lst (SqL.of (upd_get ne hDl)) .nil, .lst (SqL.of upd_same) .nil, shaped_lprs [], shaped_lprs [], ?_⟩⟩
      exact k _ (s3.trans (Same.new ne))

end
end K41

set_option maxHeartbeats 4000000
namespace K41
open PySem PySem.Spec PyProof.Rows L2 CT
local macro_rules | `(tactic| walk_at "room") => `(tactic| first | assumption | exact Room.mono (by assumption) (by decide))
local macro_rules | `(tactic| walk_at "room64") => `(tactic| exact Room.units (by assumption))
local macro_rules | `(tactic| walk_at "room65") => `(tactic| exact room65 (by assumption))
local macro_rules | `(tactic| walk_at "hu") => `(tactic| exact hu_of (by assumption))
local macro_rules | `(tactic| walk_at "loc") => `(tactic| first | exact Or.inl rfl | exact Or.inr rfl)
local macro_rules | `(tactic| walk_at "hp") => `(tactic| first
  | assumption
  | exact upd_same
  | (refine upd_get (by assumption) ?_; walk_at "hp")
  | (refine Same.get (by assumption) ?_; walk_at "hp")
  | (refine SameS.get (by assumption) (by first | trivial | exact ⟨rfl, rfl⟩) ?_; walk_at "hp"))
local macro_rules | `(tactic| walk_at "same") => `(tactic| first
  | assumption
  | exact Same.refl _
  | (refine Same.trans ?_ (Same.new (by assumption)); walk_at "same")
  | (refine Same.trans ?_ (by assumption); walk_at "same"))
section
variable {P : Program} {w : World} {K : PySem.W.Frag} {mg : Str → Option Value} {base : Heap}
theorem planOk_one {ps q : List PI2} (h : q.Perm ps) : planOk ps [q] ↔ ps ≠ [] := by
  constructor
  · intro ⟨h1, _⟩ e
    rw [e] at h
    exact h1 q (List.mem_singleton.mpr rfl) h.eq_nil
  · intro ne
    refine ⟨fun r m e => ?_, fun p _ => ?_⟩
    · rw [List.mem_singleton.mp m] at e
      rw [e] at h
      exact ne h.nil_eq.symm
    · rw [List.flatten_singleton]
      exact h.count_eq p
theorem eqv_ints : ∀ gs : List Int, PyData.eqvAll (gs.map PyData.int) (gs.map PyData.int) = true
  | [] => by simp [PyData.eqvAll]
  | a :: r => by
    have z := eqv_ints r
    simp [PyData.eqvAll, PyData.eqv, z]
theorem IsRow.perm_len {ps q : List PI2} (h : q.Perm ps) (hz : ps.length ≤ 6) : q.length ≤ 6 := by rw [h.length_eq]; exact hz
abbrev N__law_row_right : List Str := ["m", "pairs", "gate", "n", "line", "path", "cut_so", "other", "told"]
theorem sc__law_row_right : FnScope N__law_row_right ["m", "pairs", "gate", "n"] (defScope s__law_row_right) := ⟨rfl, rfl, rfl, by decide +kernel, rfl, by decide +kernel, by decide +kernel⟩
def sp__law_row_right (K : PySem.W.Frag) : Sp := fun vs H Q _ => ∃ (m c g : Addr) (B : Nat) (v gate : V) (ps q : List PI2) (n : Nat), vs = [.ref m, v, gate, .int ((n : Nat) : Int)] ∧ MAt H m c g (B + 150) ∧ IsPl K H v ps ∧ IsDesk K H gate ps ∧ ps.length ≤ 6 ∧ (∀ p ∈ ps, hgt2 p) ∧ (listing ps)[n]? = some q ∧ ∀ H', SameS H H' → MAt H' m c g B → Q (.bl true) H'
theorem ok__law_row_right (T : Txt K mg) : FnR P w K mg base CX0 11 (He.ga K "_law_row_right") (sp__law_row_right K) := by
  obtain ⟨fd, F⟩ := T.d__law_row_right
  refine plainR F sc__law_row_right (fun _ _ _ _ _ _ us hl => match us, hl with | [_, _, _, _], _ => rfl) (fun vs H Q E h => ?_) (fun cdv A outer s H vs Q E hr h => ?_)
  · obtain ⟨m, c, g, B, v, gate, ps, q, n, rfl, _⟩ := h
    rfl
  · obtain ⟨m, c, g, B, v, gate, ps, q, n, rfl, hM, hpl, hd, hz, hh, en, k⟩ := h
    have hm : q ∈ listing ps := List.mem_of_getElem? en
    have hpq := listing_perm hh hm
    have hpa := listing_path hm
    have hql : q.length ≤ 6 := IsRow.perm_len hpq hz
    refine ⟨_, (pss_cons (ps_set (i := 4) sc__law_row_right.nd rfl (by walk_at "loc") (pe_callR (ok_row_by_rank T) (by walk_at "room") (by rfl) T.g_row_by_rank T.k_row_by_rank pass0 (pa_cons (pv 2) (pa_cons (pv 3) pa_nil))))
      (pss_cons (ps_set (i := 5) sc__law_row_right.nd rfl (by walk_at "loc") (pe_callR (ok__law_written T) (by walk_at "room") (by rfl) T.g__law_written T.k__law_written pass0 (pa_cons (pv 4) pa_nil)))
      (pss_cons (ps_if (PW.pt (pw_or (pt_not (pt_val (pe_callR (ok__law_is_path T) (by walk_at "room") (by rfl) T.g__law_is_path T.k__law_is_path pass0 (pa_cons (pv 5) pa_nil)))) (pw_or1 (pt_not (pt_val (pe_callR (ok__law_same T) (by walk_at "room") (by rfl) T.g__law_same T.k__law_same pass0 (pa_cons (pv 5) (pa_cons (pv 1) pa_nil)))))))) (pss_one (ps_ret pe_bl)) pss_nil)
      (pss_cons (ps_if (pt_cmpR op_ne (pe_smeth (pe_globR (by rfl) T.g_Plan) T.sm_Plan_is_plan.1 T.sm_Plan_is_plan.2 (ok_Plan_is_plan T) (by walk_at "room") pass0 (pa_cons (pv 2) (pa_cons (pv 4) pa_nil))) (pe_cmpR (op_neDK K (by walk_at "room64")) (pv 1) (pe_lst pa_nil) (nomark _)) (nomark _)) (pss_one (ps_ret pe_bl)) pss_nil)
      (pss_cons (ps_set (i := 6) sc__law_row_right.nd rfl (by walk_at "loc") (CT.pe_methR (pv 4) T.c_Row T.m_Row_cut (ok_Row_cut T) (by walk_at "room") pass0 (pa_cons (pe_callR (ok__law_draw T) (by walk_at "room") (by rfl) T.g__law_draw T.k__law_draw pass0 (pa_cons (pv 0) (pa_cons (pe_op op_add (pe_callB (call_lenK K) (by rfl) T.f_len boot_len (pa_cons (pv 5) pa_nil)) pe_int) pa_nil))) pa_nil)))
      (pss_cons (ps_set (i := 7) sc__law_row_right.nd rfl (by walk_at "loc") (pe_callR (ok__law_desk T) (by walk_at "room") (by rfl) T.g__law_desk T.k__law_desk pass0 (pa_cons (pe_callR (ok__law_mixed_up T) (by walk_at "room") (by rfl) T.g__law_mixed_up T.k__law_mixed_up pass0 (pa_cons (pv 0) (pa_cons (pv 1) pa_nil))) pa_nil)))
      (pss_cons (ps_set (i := 8) sc__law_row_right.nd rfl (by walk_at "loc") (pe_lst (pa_cons (pe_callR (ok_rank_of_row T) (by walk_at "room") (by rfl) T.g_rank_of_row T.k_rank_of_row pass0 (pa_cons (pv 2) (pa_cons (pv 4) pa_nil))) (pa_cons (pe_callR (ok_rank_of_row T) (by walk_at "room") (by rfl) T.g_rank_of_row T.k_rank_of_row pass0 (pa_cons (pv 2) (pa_cons (pe_op (op_addOwn (op := .Add) T.s_Row T.o_Row_add.at_ T.o_Row_add.fn (ok_Row___add__ T) (by walk_at "room") pass0) (pe_ix (ix_tupK K) (pv 6) pe_int (fun _ _ => rfl)) (pe_ix (ix_tupK K) (pv 6) pe_int (fun _ _ => rfl))) pa_nil))) (pa_cons (pe_callR (ok_rank_of_row T) (by walk_at "room") (by rfl) T.g_rank_of_row T.k_rank_of_row pass0 (pa_cons (pv 7) (pa_cons (pv 4) pa_nil))) pa_nil)))))
      (pss_one (ps_ret (pe_and (pe_cmpR (op_eqDK K (by walk_at "room64")) (pv 8) (pe_op op_rep (pe_lst (pa_cons (pv 3) pa_nil)) pe_int) (nomark _)) (pe_one (pe_cmpR (op_ownC (op := .Eq) (fun _ _ => rfl) T.o_Row_eq.at_ T.o_Row_eq.fn (ok_Row___eq__ T) (by walk_at "room") pass0) (pe_callR (ok_row_by_rank T) (by walk_at "room") (by rfl) T.g_row_by_rank T.k_row_by_rank pass0 (pa_cons (pv 7) (pa_cons (pv 3) pa_nil))) (pv 4) (nomark _))))))))))))), ?_⟩
    refine ⟨_, rfl, _, rfl, gate, ps, n, q, rfl, hd, by omega, hh, en, fun line H1 s1 r1 => ?_⟩
    refine ⟨_, rfl, line, q, rfl, r1, by omega, fun wv H2 s2 w2 => ?_⟩
    refine ⟨_, rfl, wv, q, rfl, w2, by omega, hpa, fun H3 s3 => ⟨_, rfl, iteF ?_⟩⟩
    have s13 := (s1.trans s2).trans s3
    refine ⟨_, rfl, _, rfl, wv, v, q, ps, rfl, w2.same s3, hpl.same s13, by omega, hpq, fun H4 s4 => ⟨_, rfl, iteF ?_⟩⟩
    have s14 := s13.trans s4
    have r4 := r1.s ((s2.trans s3).trans s4).s
    -- is_plan
    refine ⟨rfl, _, rfl, _, rfl, spStar.mk (ws := [gate]) (rest := [line]) (by show 1 ≤ 100000; decide) fun t H5 nt s5 ht _ => ?_⟩
    have s15 := s14.trans s5
    refine ⟨gate, t, [line], ps, [q], rfl, hd.s s15.s, ht, .cons (r4.s s5.s) .nil, by omega, (by show 1 ≤ 1000; decide), (by rw [List.flatten_singleton]; omega), fun b H6 s6 eb => ?_⟩
    have s16 := s15.trans s6
    refine ⟨_, rfl, Nat.zero_le _, fun e ne => ?_⟩
    have s17 := s16.trans (Same.new (o := .lst []) ne)
    obtain ⟨va, vz, rfl, hva, hvd⟩ := hpl
    refine ⟨.list (prs ps), .list (prs []), .lst (SqL.of (s17 _ _ hva)) (Dp.sameAll s17 _ hvd), .lst (SqL.of upd_same) .nil, shaped_lprs _, shaped_lprs [], ?_⟩
    rw [eqv_lprs]
    have e1 : b = !decide (ps = []) := by
      have z := eb.trans (planOk_one hpq)
      cases b with
      | true => rw [decide_eq_false (z.mp rfl)] <;> rfl
      | false =>
        by_cases h : ps = []
        · rw [decide_eq_true h] <;> rfl
        · exact absurd (z.mpr h) (by simp)
    refine ⟨rfl, _, rfl, ?_⟩
    rw [e1, decide_eq_true (rfl : V.bl (!decide (ps = [])) = V.bl (!decide (ps = [])))]
    refine iteF ?_
    have s67 : Same H6 (upd H6 e (.lst [])) := Same.new ne
    generalize upd H6 e (.lst []) = H7 at s17 s67
    have r7 := r4.s ((s5.trans s6).trans s67).s
    have w7 := w2.same ((((s3.trans s4).trans s5).trans s6).trans s67)
    obtain ⟨wa, wz, rfl, hwa, hwd⟩ := id w7
    have hwl := Prs.len hwd
    -- cut
    obtain ⟨ra, rt, rus, ru, rfl, ⟨rdx, hra⟩, hrest⟩ := id r7
    refine ⟨_, rfl, ra, rdx, _, rfl, hra, rfl, _, rfl, _, rfl, wa, wz, rfl, .inl (SqL.of hwa), _, _, rfl, rfl, m, c, g, B + 149, _, rfl, (hM.same s17).le (by omega), by omega, by omega, fun x H8 s8 hM8 hx0 hx1 _ => ?_⟩
    obtain ⟨x, rfl⟩ := Int.eq_ofNat_of_zero_le hx0
    have s18 := s17.s.trans s8
    refine ⟨.ref ra, q, x, rfl, r7.s s8, hpa, by omega, by omega, fun ct cx cy H9 s9 hct hcx hcy => ?_⟩
    have s19 := s18.trans s9.s
    have hM9 := hM8.same s9
    have pl9 : IsPl K H9 (.ref va) ps := (show IsPl K H (.ref va) ps from ⟨va, vz, rfl, hva, hvd⟩).s s19
    -- other
    refine ⟨_, rfl, _, rfl, m, c, g, B, .ref va, ps, rfl, pl9, by omega, hM9.le (by omega), fun mv H10 qs s10 hM10 pl10 hperm => ?_⟩
    have hhq : ∀ p ∈ qs, hgt2 p := fun p hp => hh p (hperm.mem_iff.mp hp)
    have enq : (listing qs)[n]? = some q := by rw [listing_congr hperm]; exact en
    have hqz : qs.length ≤ 6 := by rw [hperm.length_eq]; exact hz
    refine ⟨mv, qs, rfl, pl10, by omega, hhq, fun od H11 s11 od11 => ?_⟩
    have s1b := (s19.trans s10).trans s11.s
    have hd11 := hd.s s1b
    have r11 := r7.s (((s8.trans s9.s).trans s10).trans s11.s)
    have hM11 := hM10.same s11
    -- told
    refine ⟨_, rfl, _, rfl, gate, .ref ra, ps, n, q, rfl, hd11, r11, by omega, hh, en, fun H12 s12 => ?_⟩
    have s9c := (s10.trans s11.s).trans s12.s
    have ct12 := s9c _ _ hct trivial
    have cx12 := hcx.s s9c
    have cy12 := hcy.s s9c
    obtain ⟨xa, xt, xus, xu, rfl, ⟨xdx, hxa⟩, hxr⟩ := id cx12
    obtain ⟨ya, yt, yus, yu, rfl, ⟨ydx, hya⟩, hyr⟩ := id cy12
    refine ⟨_, rfl, _, rfl, ct, _, 0, _, rfl, rfl, SqT.of ct12, at_of (j := 0) rfl rfl, _, rfl, ct, _, 1, _, rfl, rfl, SqT.of ct12, at_of (j := 1) rfl rfl, ?_⟩
    refine ⟨xa, xdx, _, ya, _, ydx, _, rfl, rfl, hxa, hya, .inl rfl, .ref xa, .ref ya, q.take x, q.drop x, rfl, cx12, .inr cy12, ?_, ?_, fun jr H13 s13' j13 => ?_⟩
    · rw [List.take_append_drop]; exact hpa
    · rw [List.take_append_drop]; omega
    rw [List.take_append_drop] at j13
    refine ⟨gate, jr, ps, n, q, rfl, hd11.s (s12.trans s13').s, j13, by omega, hh, en, fun H14 s14' => ?_⟩
    have sb := (s12.trans s13').trans s14'
    refine ⟨_, rfl, _, rfl, od, .ref ra, qs, n, q, rfl, od11.s sb.s, r11.s sb.s, by omega, hhq, enq, fun H15 s15' => ?_⟩
    refine ⟨by show 3 ≤ sizeLine; decide, fun tl ntl => ?_⟩
    have sb2 := (sb.trans s15').trans (Same.new (o := .lst [.int (n : Nat), .int (n : Nat), .int (n : Nat)]) ntl)
    have htl : upd H15 tl (.lst [.int (n : Nat), .int (n : Nat), .int (n : Nat)]) tl = some (.lst [.int (n : Nat), .int (n : Nat), .int (n : Nat)]) := upd_same
    generalize upd H15 tl (.lst [.int (n : Nat), .int (n : Nat), .int (n : Nat)]) = H16 at sb2 htl
    refine ⟨_, rfl, _, rfl, by show 1 ≤ sizeLine; decide, fun l2 nl2 => ⟨l2, 3, _, rfl, rfl, upd_same, by decide, by decide, (by show 3 ≤ sizeLine; decide), fun pp npp => ?_⟩⟩
    have s1617 := (Same.new (o := .lst [.int (n : Nat)]) nl2).trans (Same.new (o := .lst (List.replicate (3 : Int).toNat [.int (n : Nat)]).flatten) npp)
    refine ⟨.list ([(n : Int), n, n].map PyData.int), .list ([(n : Int), n, n].map PyData.int), .lst (SqL.of (s1617 _ _ htl)) (DpAll.ints [(n : Int), n, n]), .lst (SqL.of upd_same) (DpAll.ints [(n : Int), n, n]), shaped_ints _, shaped_ints _, ?_⟩
    have ee : PyData.eqv (.list ([(n : Int), n, n].map PyData.int)) (.list ([(n : Int), n, n].map PyData.int)) = true := by
      have z := eqv_ints [(n : Int), n, n]
      simp only [PyData.eqv]
      exact z
    rw [ee]
    refine ⟨_, rfl, iteT ?_⟩
    have sb3 := sb2.trans s1617
    generalize upd (upd H16 l2 (.lst [.int (n : Nat)])) pp (.lst (List.replicate (3 : Int).toNat [.int (n : Nat)]).flatten) = H17 at sb3
    refine ⟨_, rfl, _, rfl, od, qs, n, q, rfl, od11.s sb3.s, by omega, hhq, enq, fun rr H18 s18' rr18 => ?_⟩
    have r18 := r11.s (sb3.trans s18').s
    obtain ⟨pa, pt, pus, pu, rfl, ⟨pdx, hpa2⟩, hprest⟩ := id rr18
    obtain ⟨la, lt, lus, lu, ela, ⟨ldx, hla2⟩, hlrest⟩ := id r18
    cases ela
    refine ⟨_, rfl, pa, pdx, _, ra, _, ldx, _, rfl, rfl, hpa2, hla2, T.nf_Row_Row, .ref pa, .ref ra, q, q, rfl, rr18, r18, ?_⟩
    rw [decide_eq_true rfl]
    exact k _ (s1b.trans (sb3.trans s18').s) (hM11.same (sb3.trans s18'))

end
end K41

set_option maxHeartbeats 4000000
namespace K41
open PySem PySem.Spec PyProof.Rows L2 CT
local macro_rules | `(tactic| walk_at "room") => `(tactic| first | assumption | exact Room.mono (by assumption) (by decide))
local macro_rules | `(tactic| walk_at "room64") => `(tactic| exact Room.units (by assumption))
local macro_rules | `(tactic| walk_at "room65") => `(tactic| exact room65 (by assumption))
local macro_rules | `(tactic| walk_at "hu") => `(tactic| exact hu_of (by assumption))
local macro_rules | `(tactic| walk_at "loc") => `(tactic| first | exact Or.inl rfl | exact Or.inr rfl)
local macro_rules | `(tactic| walk_at "hp") => `(tactic| first
  | assumption
  | exact upd_same
  | (refine upd_get (by assumption) ?_; walk_at "hp")
  | (refine Same.get (by assumption) ?_; walk_at "hp")
  | (refine SameS.get (by assumption) (by first | trivial | exact ⟨rfl, rfl⟩) ?_; walk_at "hp"))
local macro_rules | `(tactic| walk_at "same") => `(tactic| first
  | assumption
  | exact Same.refl _
  | (refine Same.trans ?_ (Same.new (by assumption)); walk_at "same")
  | (refine Same.trans ?_ (by assumption); walk_at "same"))
section
variable {P : Program} {w : World} {K : PySem.W.Frag} {mg : Str → Option Value} {base : Heap}
abbrev N__law_right : List Str := ["m", "pairs", "gate", "many", "turn", "near", "far"]
theorem sc__law_right : FnScope N__law_right ["m", "pairs"] (defScope s__law_right) := ⟨rfl, rfl, rfl, by decide +kernel, rfl, by decide +kernel, by decide +kernel⟩
def sp__law_right (K : PySem.W.Frag) : Sp := fun vs H Q _ => ∃ (m c g : Addr) (B : Nat) (v : V) (ps : List PI2), vs = [.ref m, v] ∧ MAt H m c g (B + 400) ∧ IsPl K H v ps ∧ ps.length ≤ 6 ∧ (∀ p ∈ ps, hgt2 p) ∧ ∀ H', SameS H H' → MAt H' m c g B → Q (.bl true) H'
theorem ok__law_right (T : Txt K mg) : FnR P w K mg base CX0 12 (He.ga K "_law_right") (sp__law_right K) := by
  obtain ⟨fd, F⟩ := T.d__law_right
  refine plainR F sc__law_right (fun _ _ _ _ _ _ us hl => match us, hl with | [_, _], _ => rfl) (fun vs H Q E h => ?_) (fun cdv A outer s H vs Q E hr h => ?_)
  · obtain ⟨m, c, g, B, v, ps, rfl, _⟩ := h
    rfl
  · obtain ⟨m, c, g, B, v, ps, rfl, hM, hpl, hz, hh, k⟩ := h
    refine ⟨_, (pss_cons (ps_set (i := 2) sc__law_right.nd rfl (by walk_at "loc") (pe_callR (ok__law_desk T) (by walk_at "room") (by rfl) T.g__law_desk T.k__law_desk pass0 (pa_cons (pv 1) pa_nil)))
      (pss_cons (ps_set (i := 3) sc__law_right.nd rfl (by walk_at "loc") (pe_callR (ok_count_rows T) (by walk_at "room") (by rfl) T.g_count_rows T.k_count_rows pass0 (pa_cons (pv 2) pa_nil)))
      (pss_cons (ps_if (pt_cmpR op_ne (pe_callR (ok_count_rows T) (by walk_at "room") (by rfl) T.g_count_rows T.k_count_rows pass0 (pa_cons (pe_op (op_addOwn (op := .Add) T.s_Desk T.o_Desk_add.at_ T.o_Desk_add.fn (ok_Desk___add__ T) (by walk_at "room") pass0) (pe_makeR0 T.mk_Desk (ok_Desk___init__ T) (by walk_at "room") (by rfl) T.g_Desk pass0) (pv 2)) pa_nil)) (pv 3) (nomark _)) (pss_one (ps_ret pe_bl)) pss_nil)
      (pss_cons (ps_for PassesOwn.never rfl (pi_range1 (by rfl) T.f_range (pa_cons (pe_ifExp (pt_cmpR op_gt (pv 3) pe_int (nomark _)) pe_int pe_int) pa_nil)) (pg_name (i := 4) sc__law_right.nd rfl (by walk_at "loc"))
      (pss_cons (ps_par (i := 5) (j := 6) (by rfl) sc__law_right.nd rfl rfl (by decide) rfl rfl (pa_cons (pe_callR (ok__law_draw T) (by walk_at "room") (by rfl) T.g__law_draw T.k__law_draw pass0 (pa_cons (pv 0) (pa_cons (pv 3) pa_nil))) (pa_cons (pe_callR (ok__law_draw T) (by walk_at "room") (by rfl) T.g__law_draw T.k__law_draw pass0 (pa_cons (pv 0) (pa_cons (pv 3) pa_nil))) pa_nil)) (by rfl))
      (pss_cons (ps_if (pt_not (pt_val (pe_callR (ok__law_row_right T) (by walk_at "room") (by rfl) T.g__law_row_right T.k__law_row_right pass0 (pa_cons (pv 0) (pa_cons (pv 1) (pa_cons (pv 2) (pa_cons (pv 5) pa_nil))))))) (pss_one (ps_ret pe_bl)) pss_nil)
      (pss_one (ps_if (pt_cmpR op_ne (pe_cmpR (op_ownC (op := .Lt) (fun _ _ => rfl) T.o_Row_lt.at_ T.o_Row_lt.fn (ok_Row___lt__ T) (by walk_at "room") pass0) (pe_callR (ok_row_by_rank T) (by walk_at "room") (by rfl) T.g_row_by_rank T.k_row_by_rank pass0 (pa_cons (pv 2) (pa_cons (pv 5) pa_nil))) (pe_callR (ok_row_by_rank T) (by walk_at "room") (by rfl) T.g_row_by_rank T.k_row_by_rank pass0 (pa_cons (pv 2) (pa_cons (pv 6) pa_nil))) (nomark _)) (pe_cmpR op_lt (pv 5) (pv 6) (nomark _)) (nomark _)) (pss_one (ps_ret pe_bl)) pss_nil)))))
      (pss_one (ps_ret pe_bl)))))), ?_⟩
    refine ⟨_, rfl, v, ps, rfl, hpl, by omega, hh, fun gate H1 s1 hd1 => ?_⟩
    refine ⟨_, rfl, gate, ps, rfl, hd1, by omega, hh, fun H2 s2 => ?_⟩
    refine fun a ax h1 h2 h3 => use_Desk h1 h2 h3 (ps := []) .nil (Nat.zero_le _) fun H3 s3 d3 => ?_
    have hd3 := hd1.s (s2.trans s3).s
    obtain ⟨ea, et, eus, eu, eea, ⟨edx, ef, hea, _⟩, _⟩ := id d3
    obtain ⟨ga, gt, gus, gu, rfl, ⟨gdx, gf, hga, _⟩, _⟩ := id hd3
    refine ⟨_, rfl, ea, edx, _, ga, _, gdx, _, eea, rfl, hea, hga, .inl rfl, .ref a, .ref ga, [], ps, rfl, d3, .inr hd3, (by show ps.length ≤ 40; omega), fun g2 H4 s4 d4 => ?_⟩
    refine ⟨g2, ps, rfl, d4, by omega, hh, fun H5 s5 => ⟨_, rfl, rfl, _, rfl, iteNS rfl ?_⟩⟩
    have s15 := ((s1.trans s2).trans s3).trans (s4.trans s5)
    have hd5 := hd3.s (s4.trans s5).s
    refine ⟨_, rfl, _, _, rfl, rfl, _, rfl, iteB (fun e => ?_) (fun e => ?_)⟩
    · have hpos : 0 < (listing ps).length := by
        have z : (0 : Int) < ((listing ps).length : Nat) := of_decide_eq_true e
        omega
      have hlen : (listing ps).length ≤ 5040 := listing_len (by omega)
      refine ⟨2, rfl, by decide, by decide, for_it walk_range (fun i σ H' => SameS H5 H' ∧ MAt H' m c g (B + 160 * (2 - i)) ∧ ∃ a b d, σ = [some (.ref m), some v, some (.ref ga), some (.int ((listing ps).length : Nat)), a, b, d]) ⟨SameS.refl _, (hM.same s15).le (by omega), _, _, _, rfl⟩ (fun i σ H' _ q => trivial) ?_ ?_⟩
      · rintro i x σ H0x H6 hi ⟨s6, hM6, a6, b6, d6, rfl⟩ ⟨rfl, rfl⟩
        have hi2 : i < 2 := hi
        refine ⟨_, rfl, _, rfl, m, c, g, B + 160 * (2 - i) - 1, _, rfl, hM6.le (by omega), by omega, by omega, fun n1 H7 s7 hM7 h10 h11 _ => ?_⟩
        refine ⟨_, rfl, _, rfl, m, c, g, B + 160 * (2 - i) - 2, _, rfl, hM7.le (by omega), by omega, by omega, fun n2 H8 s8 hM8 h20 h21 _ => ⟨_, _, rfl, ?_⟩⟩
        obtain ⟨n1, rfl⟩ := Int.eq_ofNat_of_zero_le h10
        obtain ⟨n2, rfl⟩ := Int.eq_ofNat_of_zero_le h20
        have l1 : n1 < (listing ps).length := by omega
        have l2 : n2 < (listing ps).length := by omega
        have e1 := List.getElem?_eq_getElem l1
        have e2 := List.getElem?_eq_getElem l2
        generalize (listing ps)[n1] = q1 at e1
        generalize (listing ps)[n2] = q2 at e2
        have s58 := (s6.trans s7).trans s8
        have hd8 := hd5.s s58
        have hpl8 := (hpl.same s15).s s58
        refine ⟨_, rfl, _, rfl, _, rfl, _, rfl, m, c, g, B + 160 * (2 - i) - 160, v, .ref ga, ps, q1, n1, rfl, hM8.le (by omega), hpl8, hd8, hz, hh, e1, fun H9 s9 hM9 => ⟨_, rfl, iteF ?_⟩⟩
        have hd9 := hd8.s s9
        refine ⟨_, rfl, _, rfl, .ref ga, ps, n1, q1, rfl, hd9, by omega, hh, e1, fun ra H10 s10 r10 => ?_⟩
        refine ⟨_, rfl, _, rfl, .ref ga, ps, n2, q2, rfl, hd9.s s10.s, by omega, hh, e2, fun rb H11 s11 r11 => ?_⟩
        have ra11 := r10.s s11.s
        obtain ⟨pa, pt, pus, pu, rfl, ⟨pdx, hpa⟩, hprest⟩ := id ra11
        obtain ⟨qa, qt, qus, qu, rfl, ⟨qdx, hqa⟩, hqrest⟩ := id r11
        refine ⟨pa, pdx, _, qa, _, qdx, _, rfl, rfl, hpa, hqa, T.nf_Row_Row, .ref pa, .ref qa, q1, q2, rfl, ra11, r11, ?_⟩
        refine ⟨_, rfl, _, rfl, _, _, rfl, rfl, rfl, _, rfl, ?_⟩
        have el : ltPs q1 q2 = decide ((n1 : Int) < (n2 : Int)) := by
          rw [listing_lt e1 e2 hh]
          exact decide_eq_decide.mpr (by omega)
        rw [el]
        refine iteNS rfl ?_
        exact ⟨(s58.trans s9).trans (s10.trans s11).s, (hM9.same (s10.trans s11)).le (by omega), _, _, _, rfl⟩
      · rintro σ H6 ⟨s6, hM6, a6, b6, d6, rfl⟩
        exact k _ (s15.s.trans s6) (hM6.le (by omega))
    · refine ⟨0, rfl, by decide, by decide, for_it walk_range (fun i σ H' => SameS H H' ∧ MAt H' m c g B) ⟨s15.s, (hM.same s15).le (by omega)⟩ (fun i σ H' _ q => trivial) ?_ ?_⟩
      · intro i x σ H6 H7 hi
        exact absurd hi (Nat.not_lt_zero _)
      · rintro σ H6 ⟨s6, hM6⟩
        exact k _ s6 hM6

end
end K41

set_option maxHeartbeats 4000000
namespace K41
open PySem PySem.Spec PyProof.Rows L2 CT
local macro_rules | `(tactic| walk_at "room") => `(tactic| first | assumption | exact Room.mono (by assumption) (by decide))
local macro_rules | `(tactic| walk_at "room64") => `(tactic| exact Room.units (by assumption))
local macro_rules | `(tactic| walk_at "room65") => `(tactic| exact room65 (by assumption))
local macro_rules | `(tactic| walk_at "hu") => `(tactic| exact hu_of (by assumption))
local macro_rules | `(tactic| walk_at "loc") => `(tactic| first | exact Or.inl rfl | exact Or.inr rfl)
local macro_rules | `(tactic| walk_at "hp") => `(tactic| first
  | assumption
  | exact upd_same
  | (refine upd_get (by assumption) ?_; walk_at "hp")
  | (refine Same.get (by assumption) ?_; walk_at "hp")
  | (refine SameS.get (by assumption) (by first | trivial | exact ⟨rfl, rfl⟩) ?_; walk_at "hp"))
local macro_rules | `(tactic| walk_at "same") => `(tactic| first
  | assumption
  | exact Same.refl _
  | (refine Same.trans ?_ (Same.new (by assumption)); walk_at "same")
  | (refine Same.trans ?_ (by assumption); walk_at "same"))
section
variable {P : Program} {w : World} {K : PySem.W.Frag} {mg : Str → Option Value} {base : Heap}
theorem down6_eq : down 6 = [(9, 0), (9, 1), (9, 2), (9, 3), (9, 4), (9, 5)] := by decide
theorem down7_eq : down 7 = [(9, 0), (9, 1), (9, 2), (9, 3), (9, 4), (9, 5), (9, 6)] := by decide
theorem hgt_down6 : ∀ p ∈ down 6, hgt2 p := by
  unfold hgt2
  decide
theorem hgt_down7 : ∀ p ∈ down 7, hgt2 p := by
  unfold hgt2
  decide
theorem h9 : hgt 9 := ⟨by decide, by decide⟩
abbrev N_law : List Str := ["script", "m", "bout", "gate"]
theorem sc_law : FnScope N_law ["script"] (defScope s_law) := ⟨rfl, rfl, rfl, by decide +kernel, rfl, by decide +kernel, by decide +kernel⟩
def sp_law (K : PySem.W.Frag) : Sp := fun vs H Q _ => ∃ s, ∃ xs : List Int, vs = [.ref s] ∧ SqF K H s (xs.map V.int) ∧ xs.length ≤ 63 ∧ ∀ H', Q (.bl true) H'
theorem at_law (T : Txt K mg) : mg "law" = some (.ref (He.ga K "law")) := T.g_law
theorem ok_law (T : Txt K mg) {fd : FuncData} (F : FunD K "law" "law" (defArgs s_law) (defBody s_law) (defScope s_law) [] [] (He.ga K "law") fd) : FnOk P w K mg base CX0 13 (He.ga K "law") fd ["script"] (sp_law K) := by
  refine F.ok sc_law (fun vs H Q E h => ?_) (fun cdv A outer s H vs Q E hr h => ?_)
  · obtain ⟨s, xs, rfl, _⟩ := h
    rfl
  · obtain ⟨s0, xs, rfl, hs, hl, k⟩ := h
    refine (fun ⟨t, h1, h2⟩ => ⟨t, PSs.nox h1, h2⟩ : (∃ t, PSs (cxOf CX0 P w K mg base N_law "law" (defScope s_law) (He.ga K "law") cdv A outer s H E).nox (defBody s_law) t ∧ t { nx := fun _ H' => Q .non H', rt := Q } (L2.start N_law [.ref s0]) H) → _) ?_
    refine ⟨_, (pss_cons (ps_set (i := 1) sc_law.nd rfl (by walk_at "loc") (pe_callR (ok__law_begun T) (by walk_at "room") (by rfl) T.g__law_begun T.k__law_begun pass0 (pa_cons (pv 0) pa_nil)))
      (pss_cons (ps_for PassesOwn.never rfl (pi_range1 (by rfl) T.f_range (pa_cons (pe_op op_add pe_int (pe_callB (call_min2 rfl) (by rfl) T.f_min boot_min (pa_cons pe_int (pa_cons (pe_callB (call_lenK K) (by rfl) T.f_len boot_len (pa_cons (pv 0) pa_nil)) pa_nil)))) pa_nil)) (pg_name (i := 2) sc_law.nd rfl (by walk_at "loc"))
      (pss_one (ps_if (pt_not (pt_val (pe_callR (ok__law_right T) (by walk_at "room") (by rfl) T.g__law_right T.k__law_right pass0 (pa_cons (pv 1) (pa_cons (pe_callR (ok__law_pairs T) (by walk_at "room") (by rfl) T.g__law_pairs T.k__law_pairs pass0 (pa_cons (pv 1) (pa_cons (pe_ix (ix_listK K) (pe_lst (pa_cons pe_int (pa_cons pe_int (pa_cons pe_int (pa_cons pe_int pa_nil))))) (pe_op op_mod (pv 2) pe_int) (fun _ _ => rfl)) pa_nil))) pa_nil))))) (pss_one (ps_ret pe_bl)) pss_nil)))
      (pss_cons (ps_set (i := 3) sc_law.nd rfl (by walk_at "loc") (StX.pe_makeR T.mk_Desk (ok_Desk___init__ T) (by walk_at "room") (by rfl) T.g_Desk pass0 (pa_cons (StX.pe_makeR T.mk_Ticket (ok_Ticket___init__ T) (by walk_at "room") (by rfl) T.g_Ticket pass0 (pa_cons pe_int (pa_cons pe_int pa_nil))) (pa_cons (StX.pe_makeR T.mk_Ticket (ok_Ticket___init__ T) (by walk_at "room") (by rfl) T.g_Ticket pass0 (pa_cons pe_int (pa_cons pe_int pa_nil))) (pa_cons (StX.pe_makeR T.mk_Ticket (ok_Ticket___init__ T) (by walk_at "room") (by rfl) T.g_Ticket pass0 (pa_cons pe_int (pa_cons pe_int pa_nil))) (pa_cons (StX.pe_makeR T.mk_Ticket (ok_Ticket___init__ T) (by walk_at "room") (by rfl) T.g_Ticket pass0 (pa_cons pe_int (pa_cons pe_int pa_nil))) (pa_cons (StX.pe_makeR T.mk_Ticket (ok_Ticket___init__ T) (by walk_at "room") (by rfl) T.g_Ticket pass0 (pa_cons pe_int (pa_cons pe_int pa_nil))) (pa_cons (StX.pe_makeR T.mk_Ticket (ok_Ticket___init__ T) (by walk_at "room") (by rfl) T.g_Ticket pass0 (pa_cons pe_int (pa_cons pe_int pa_nil))) pa_nil))))))))
      (pss_cons (ps_if (PW.pt (pw_or (pt_cmpR (op_neOwn T.ne_Ticket (ok_Ticket___eq__ T) (by walk_at "room") pass0) (pe_ixOwn (pe_callR (ok_row_by_rank T) (by walk_at "room") (by rfl) T.g_row_by_rank T.k_row_by_rank pass0 (pa_cons (pv 3) (pa_cons pe_int pa_nil))) pe_int T.o_Row_getitem.at_ T.o_Row_getitem.fn T.o_Row_getitem.fi (ok_Row___getitem__ T) (by walk_at "room") pass0) (StX.pe_makeR T.mk_Ticket (ok_Ticket___init__ T) (by walk_at "room") (by rfl) T.g_Ticket pass0 (pa_cons pe_int (pa_cons pe_int pa_nil))) (nomark _)) (pw_or1 (pt_cmpR op_ne (pe_callB (call_lenOwn T.o_Row_len.at_ T.o_Row_len.fn (ok_Row___len__ T) (by walk_at "room") pass0) (by rfl) T.f_len boot_len (pa_cons (pe_op (op_addOwn (op := .Add) T.s_Row T.o_Row_add.at_ T.o_Row_add.fn (ok_Row___add__ T) (by walk_at "room") pass0) (pe_makeR0 T.mk_Row (ok_Row___init__ T) (by walk_at "room") (by rfl) T.g_Row pass0) (StX.pe_makeR T.mk_Ticket (ok_Ticket___init__ T) (by walk_at "room") (by rfl) T.g_Ticket pass0 (pa_cons pe_int (pa_cons pe_int pa_nil)))) pa_nil)) pe_int (nomark _))))) (pss_one (ps_ret pe_bl)) pss_nil)
      (pss_cons (ps_set (i := 3) sc_law.nd rfl (by walk_at "loc") (pe_op (op_addOwn (op := .Add) T.s_Desk T.o_Desk_add.at_ T.o_Desk_add.fn (ok_Desk___add__ T) (by walk_at "room") pass0) (pv 3) (StX.pe_makeR T.mk_Ticket (ok_Ticket___init__ T) (by walk_at "room") (by rfl) T.g_Ticket pass0 (pa_cons pe_int (pa_cons pe_int pa_nil)))))
      (pss_one (ps_ret (pe_and (pe_cmpR op_eq (pe_callR (ok_count_rows T) (by walk_at "room") (by rfl) T.g_count_rows T.k_count_rows pass0 (pa_cons (pv 3) pa_nil)) pe_int (nomark _)) (pe_one (pe_or (pe_cmpR (op_neDK K (by walk_at "room64")) (pv 0) (pe_lst pa_nil) (nomark _)) (pe_one (pe_cmpR (op_ownC (op := .Eq) (fun _ _ => rfl) T.o_Ticket_eq.at_ T.o_Ticket_eq.fn (ok_Ticket___eq__ T) (by walk_at "room") pass0) (pe_ixOwn (pe_callR (ok_row_by_rank T) (by walk_at "room") (by rfl) T.g_row_by_rank T.k_row_by_rank pass0 (pa_cons (pv 3) (pa_cons pe_int pa_nil))) pe_int T.o_Row_getitem.at_ T.o_Row_getitem.fn T.o_Row_getitem.fi (ok_Row___getitem__ T) (by walk_at "room") pass0) (StX.pe_makeR T.mk_Ticket (ok_Ticket___init__ T) (by walk_at "room") (by rfl) T.g_Ticket pass0 (pa_cons pe_int (pa_cons pe_int pa_nil))) (nomark _))))))))))))), ?_⟩
    refine ⟨_, rfl, s0, xs, rfl, hs, by omega, fun m c g H1 s1 hM1 => ?_⟩
    have hxl : (xs.map V.int).length = xs.length := List.length_map _
    refine ⟨_, rfl, s0, _, rfl, .inl (hs.s s1.s).l, _, _, rfl, _, _, rfl, rfl, _, rfl, ?_⟩
    rw [hxl]
    have hmin : ∃ N : Nat, (2 + (if ((xs.length : Nat) : Int) < 4 then ((xs.length : Nat) : Int) else 4)) = (N : Int) ∧ N ≤ 6 := by
      split
      · exact ⟨2 + xs.length, by omega, by omega⟩
      · exact ⟨6, by omega, by omega⟩
    obtain ⟨N, eN, hN⟩ := hmin
    rw [eN]
    refine ⟨by omega, by omega, ?_⟩
    have bud : ∀ i, i ≤ N → (7 - i) * 800 ≤ 2 ^ 40 := fun i _ => Nat.le_trans (Nat.mul_le_mul_right 800 (Nat.sub_le 7 i)) (by decide)
    refine for_it walk_range (fun i σ H' => SameS H1 H' ∧ MAt H' m c g ((7 - i) * 800) ∧ ∃ a b, σ = [some (.ref s0), some (.ref m), a, b]) ⟨SameS.refl _, hM1.le (by decide), _, _, rfl⟩ (fun i σ H' _ q => trivial) ?_ ?_
    · rintro i x σ H0x H2 hi ⟨s2, hM2, a, b, rfl⟩ ⟨rfl, rfl⟩
      have hi2 : i < 6 := by
        have z : i < ((N : Nat) : Int).toNat := hi
        omega
      refine ⟨_, rfl, _, rfl, by show 4 ≤ sizeLine; decide, fun l nl => ⟨_, rfl, _, _, rfl, rfl, (by show (0 : Int) < 4; decide), ?_⟩⟩
      have top : ∃ t : Int, atI [V.int 6, V.int 4, V.int 5, V.int 6] ((0 + (i : Int)) % 4) = some (.int t) ∧ 1 ≤ t ∧ t ≤ 6 := by
        rcases (by omega : (0 + (i : Int)) % 4 = 0 ∨ (0 + (i : Int)) % 4 = 1 ∨ (0 + (i : Int)) % 4 = 2 ∨ (0 + (i : Int)) % 4 = 3) with e | e | e | e
        · rw [e]; exact ⟨6, rfl, by decide, by decide⟩
        · rw [e]; exact ⟨4, rfl, by decide, by decide⟩
        · rw [e]; exact ⟨5, rfl, by decide, by decide⟩
        · rw [e]; exact ⟨6, rfl, by decide, by decide⟩
      obtain ⟨t, et, ht0, ht1⟩ := top
      have e800 : (7 - i) * 800 = (7 - (i + 1)) * 800 + 400 + 400 := by omega
      refine ⟨l, _, _, _, rfl, rfl, SqL.of upd_same, et, m, c, g, (7 - (i + 1)) * 800 + 400, t, rfl, ht0, ht1, (hM2.same (Same.new nl)).le (by omega), fun r H3 ps s3 hM3 pl pz ph => ?_⟩
      refine ⟨m, c, g, (7 - (i + 1)) * 800, r, ps, rfl, hM3, pl, pz, ph, fun H4 s4 hM4 => ⟨_, rfl, iteF ?_⟩⟩
      exact ⟨((s2.trans (Same.new nl).s).trans s3).trans s4, hM4, _, _, rfl⟩
    · rintro σ H2 ⟨s2, hM2, a, b, rfl⟩
      have hs2 := hs.s (s1.s.trans s2)
      refine fun c0 x0 p0 q0 n0 => use_Ticket p0 q0 n0 h9 ⟨by decide, by decide⟩ fun G0 g0 t0 => ?_
      refine fun c1 x1 p1 q1 n1 => use_Ticket p1 q1 n1 h9 ⟨by decide, by decide⟩ fun G1 g1 t1 => ?_
      refine fun c2 x2 p2 q2 n2 => use_Ticket p2 q2 n2 h9 ⟨by decide, by decide⟩ fun G2 g2 t2 => ?_
      refine fun c3 x3 p3 q3 n3 => use_Ticket p3 q3 n3 h9 ⟨by decide, by decide⟩ fun G3 g3 t3 => ?_
      refine fun c4 x4 p4 q4 n4 => use_Ticket p4 q4 n4 h9 ⟨by decide, by decide⟩ fun G4 g4 t4 => ?_
      refine fun c5 x5 p5 q5 n5 => use_Ticket p5 q5 n5 h9 ⟨by decide, by decide⟩ fun G5 g5 t5 => ?_
      have tks : IsTks K G5 [.ref c0, .ref c1, .ref c2, .ref c3, .ref c4, .ref c5] (down 6) := by
        rw [down6_eq]
        exact .cons (t0.s ((((g1.trans g2).trans g3).trans g4).trans g5).s) (.cons (t1.s (((g2.trans g3).trans g4).trans g5).s) (.cons (t2.s ((g3.trans g4).trans g5).s) (.cons (t3.s (g4.trans g5).s) (.cons (t4.s g5.s) (.cons t5 .nil)))))
      refine fun d dx h1 h2 h3 => use_Desk h1 h2 h3 tks (by decide) fun H5 s5 d5 => ?_
      obtain ⟨len6, r6, e719⟩ := last_down6
      refine ⟨_, rfl, .ref d, down 6, 719, _, rfl, d5, by decide, hgt_down6, e719, fun ln H6 s6 rw6 => ?_⟩
      obtain ⟨la, lt, lus, lu, rfl, ⟨ldx, hla⟩, hlr⟩ := id rw6
      refine ⟨la, ldx, _, rfl, hla, .ref la, _, 0, (9, 5), rfl, rw6, rfl, fun u tu => ?_⟩
      refine fun c6 x6 p6 q6 n6 => use_Ticket p6 q6 n6 h9 ⟨by decide, by decide⟩ fun G6 g6 t6 => ?_
      have tu6 := tu.s g6.s
      obtain ⟨ua, ux, eua, hua⟩ := id tu6
      obtain ⟨va, vx, eva, hva⟩ := id t6
      refine ⟨ua, ux, _, va, _, vx, _, eua, eva, hua, hva, T.nf_Ticket_Ticket, u, .ref c6, (9, 5), (9, 5), rfl, tu6, t6, _, rfl, _, rfl, iteNS rfl ?_⟩
      refine fun ra rx h4 h5 h6 => use_Row h4 h5 h6 (us := []) (ps := []) .nil path_nil (by decide) fun H7 s7 rw7 => ?_
      refine fun c7 x7 p7 q7 n7 => use_Ticket p7 q7 n7 ⟨by decide, by decide⟩ ⟨by decide, by decide⟩ fun G7 g7 t7 => ?_
      have rw8 := rw7.s g7.s
      obtain ⟨ka, kt, kus, ku, eka, ⟨kdx, hka⟩, hkr⟩ := id rw8
      obtain ⟨wa, wx, ewa, hwa⟩ := id t7
      refine ⟨ka, kdx, _, wa, _, wx, _, eka, ewa, hka, hwa, .inr ⟨row_ne_ticket T, T.ns_Ticket_add⟩, .ref ra, .ref c7, [], [(1, 1)], rfl, rw8, .inl ⟨_, rfl, t7⟩, path_one _, by decide, fun rr H8 s8 rw9 => ?_⟩
      obtain ⟨ja, jt, jus, ju, eja, ⟨jdx, hja⟩, hjr⟩ := id rw9
      subst eja
      refine ⟨ja, jdx, _, rfl, hja, _, _, rfl, rw9, 1, rfl, by decide, rfl, _, rfl, iteNS rfl ?_⟩
      have s58 : Same H5 H8 := ((s6.trans g6).trans s7).trans (g7.trans s8)
      have d8 := d5.s s58.s
      refine ⟨_, rfl, fun c8 x8 p8 q8 n8 => use_Ticket p8 q8 n8 h9 ⟨by decide, by decide⟩ fun G8 g8 t8 => ?_⟩
      have d9 := d8.s g8.s
      obtain ⟨da, dt, dus, du, eda, ⟨ddx, df, hda, hdf⟩, hdr⟩ := id d9
      obtain ⟨ya, yx, eya, hya⟩ := id t8
      refine ⟨da, ddx, _, ya, _, yx, _, eda, eya, hda, hya, .inr ⟨desk_ne_ticket T, T.ns_Ticket_add⟩, .ref d, .ref c8, down 6, [(9, 6)], rfl, d9, .inl ⟨_, rfl, t8⟩, by decide, fun g7' H9 s9 d10 => ?_⟩
      have e7 : down 6 ++ [(9, 6)] = down 7 := by decide
      rw [e7] at d10
      have g25 : Same H2 G5 := ((((g0.trans g1).trans g2).trans g3).trans g4).trans g5
      have s29 : Same H2 H9 := (((g25.trans s5).trans s58).trans g8).trans s9
      refine ⟨_, rfl, g7', down 7, rfl, d10, by decide, hgt_down7, fun H10 s10 => ?_⟩
      rw [len_down7]
      refine ⟨rfl, true, rfl, iteT ?_⟩
      refine ⟨_, rfl, Nat.zero_le _, fun e ne => ?_⟩
      have s210 := (s29.trans s10).trans (Same.new (o := .lst []) ne)
      have d11 := d10.s (s10.trans (Same.new (o := .lst []) ne)).s
      have he : upd H10 e (.lst []) e = some (.lst []) := upd_same
      generalize upd H10 e (.lst []) = H11 at s210 d11 he
      refine ⟨.list (xs.map PyData.int), .list [], .lst (hs2.s s210.s).l (DpAll.ints xs), .lst (SqL.of he) .nil, shaped_ints xs, shaped_ints [], _, rfl, iteB (fun e => k _) (fun e => ?_)⟩
      obtain ⟨r7, e5039⟩ := last_down7
      refine ⟨_, rfl, g7', down 7, 5039, _, rfl, d11, by decide, hgt_down7, e5039, fun ln2 H12 s12 rw12 => ?_⟩
      obtain ⟨oa, ot, ous, ou, rfl, ⟨odx, hoa⟩, hor⟩ := id rw12
      refine ⟨oa, odx, _, rfl, hoa, .ref oa, _, 0, (9, 6), rfl, rw12, rfl, fun u2 tu2 => ?_⟩
      refine fun c9 x9 p9 q9 n9 => use_Ticket p9 q9 n9 h9 ⟨by decide, by decide⟩ fun G9 g9 t9 => ?_
      have tu9 := tu2.s g9.s
      obtain ⟨ba, bx, eba, hba⟩ := id tu9
      obtain ⟨fa2, fx2, efa, hfa⟩ := id t9
      refine ⟨ba, bx, _, fa2, _, fx2, _, eba, efa, hba, hfa, T.nf_Ticket_Ticket, u2, .ref c9, (9, 6), (9, 6), rfl, tu9, t9, ?_⟩
      rw [decide_eq_true rfl]
      exact k _

end
end K41

set_option maxHeartbeats 0
namespace K41
open PySem PySem.Spec PyProof.Rows L2
abbrev R : PySem.W.OpenRow := PySem.W.OpenLaw.row PySem.Challenge.rw_climbtickets_k41_whole_ranks_of_rows
abbrev hk : PySem.W.Hook := CT.hookM 5 fa more fn
def ob (s : PySem.W.SharedT) : CT.SeenM := CT.lookM 5 fa more fn (HandSHeadRun.getT s)
theorem ob_eq (s : PySem.W.SharedT) : ob s = hk.obs s.abs := CT.lookM_eq (HandSHeadRun.getT_eq s)
def loose0 : List PySem.Str := ["_wall", "__name__", "ClimbticketsError", "InvalidTicket", "BrokenRow", "InvalidProfile", "InvalidDesk", "MissingTicket", "InvalidNumber", "InvalidPlan", "LimitExceeded", "is_integer", "is_between", "Ticket", "first_break", "Row", "Profile", "excess_numbers", "desk_break", "Desk", "plan_problem", "Plan", "MAX_LISTED", "CODE", "check_listed"]
def loose1 : List PySem.Str := ["orders_from", "listed", "row_of", "count_rows", "row_by_rank", "rank_of_row", "_law_mixed", "_law_folded", "_law_draw", "_law_begun", "_law_mixed_up", "_law_pair", "_law_path", "_law_lone", "_law_pairs", "_law_desk", "_law_written", "_law_same", "_law_is_path", "_law_row_right", "_law_right"]
theorem run (w : World) : HandSHeadRun.RunEq R (PySem.W.view R.prog [51]) hk ob 9000 (loose0 ++ loose1) w := by
  intro os
  kernel_rfl
end K41
open PySem PySem.W PySem.Calls PyProof.Rows
theorem PySem.Challenge.cw_climbtickets_k41_whole_ranks_of_rows_holds : PySem.Challenge.rw_climbtickets_k41_whole_ranks_of_rows.Holds := by
  w_on; o_law
  refine HandSHeadRun.head_any (r := OpenLaw.row PySem.Challenge.rw_climbtickets_k41_whole_ranks_of_rows) (q := view (OpenLaw.row PySem.Challenge.rw_climbtickets_k41_whole_ranks_of_rows).prog [51]) (H := K41.hk) (ob := K41.ob) (M := 9000) (loose := (K41.loose0 ++ K41.loose1)) (d := HandSHeadRun.topDef (OpenLaw.row PySem.Challenge.rw_climbtickets_k41_whole_ranks_of_rows).prog 51) (kwd := []) K41.ob_eq
    (by kernel_rfl) (fun s => by kernel_rfl) K41.run (by kernel_rfl) (by kernel_rfl) (by kernel_rfl) (by rfl) (by first | assumption | decide +kernel) (by decide +kernel) ⟨rfl, rfl, rfl, rfl, rfl, by decide +kernel⟩ ?hw ?hc
  case hw => w_witness2
  case hc =>
    refine L2.walk_ofE (l := PySem.Challenge.rw_climbtickets_k41_whole_ranks_of_rows) (n := 63) (k := 13) (x := "script") (CX := L2.CX0) rfl (by decide) (by kernel_rfl) ⟨rfl, by decide, by decide⟩ ?F (fun _ _ _ _ z => z)
    intro w mg fa h Y G hmg0
    obtain ⟨K, KX, c⟩ := Y
    have T := K41.mkTxt KX G c
    have hmg : mg ("law" : PySem.Str) = some (.ref fa) := by
      have e : (HandSHeadRun.topDef (OpenLaw.row PySem.Challenge.rw_climbtickets_k41_whole_ranks_of_rows).prog 51).name = ("law" : PySem.Str) := by kernel_rfl
      rw [← e]
      exact hmg0
    have e := hmg.symm.trans T.g_law
    cases e
    obtain ⟨fd, F⟩ := T.d_law
    have b := L2.FunD.bindsA (ps := ["script"]) F fun _ _ _ _ _ _ us hl => match us, hl with | [_], _ => rfl
    refine ⟨K, fd, K41.sp_law K, KX, fun s v => b s [v] rfl, fun H a ns hl hO hS => ?_, fun base KB GB => ?_⟩
    · exact ⟨a, ns, rfl, K41.SqF.of hO hS, hl, fun _ => rfl⟩
    · exact K41.ok_law T F
