import PyProof.Rows.All
import Wide.All
import OpenK.AllK
import Wide.FinOn
import PyProof.EqAt
import PyProof.EqKinds
import PyProof.TupleCall
import KE.KStateDown
import KE.KExcInit
import Lean
import HandS.ForMost
import HandS.ForExc
import HandS.More
import HandS.TryMany
import HandS.ExcField
import HandS.Star
import HandS.MethStar
import HandS.Property
import HandS.ClsMeth
import HandS.Codes
import HandS.Lambda
import HandS.EndBits
import HandS.EndTab
import HandS.HeadWalk
import HandS.Style
import HandS.IsInst
import HandS.Flow
import HandS.OwnEq
import HandS.CallLocal
import HandS.Defaults
import HandS.SlotsOwn
import HandS.ExcInit
import HandS.Head0
import HandS.Head1
import HandS.Head2
import HandS.HeadEnd
import HandS.HeadHook1
import HandS.HeadHook2
import HandS.HeadHook3
import HandS.HeadHook4
import HandS.HeadNt
import KE.KSuper
import KE.GoesEnum
import HandS.Walk
import PySem.Challenge.RW_dequeeffect_k72_whole_twins_replays_kept
set_option Elab.async false
set_option linter.all false
set_option maxRecDepth 100000
set_option maxHeartbeats 4000000
/-! The text by places. -/
namespace Dq
open PySem L2
abbrev prog : Program := PySem.Challenge.pw_dequeeffect_k72_whole_twins_replays_kept
def top (i : Nat) : Stmt := prog.main.body.getD i (.Pass ⟨0, 0, 0, 0⟩)
abbrev sFailsInit : Stmt := inClass (top 8) 0
abbrev sNothingInit : Stmt := inClass (top 9) 0
abbrev sIsInteger : Stmt := top 13
abbrev sIsWithin : Stmt := top 14
abbrev sIsItem : Stmt := top 15
abbrev sIsRow : Stmt := top 16
abbrev sIsWord : Stmt := top 17
abbrev sIsStep : Stmt := top 18
abbrev sCheckRow : Stmt := top 19
abbrev sCheckSteps : Stmt := top 20
abbrev sStepped : Stmt := top 21
abbrev sIsName : Stmt := top 25
abbrev sIsCall : Stmt := top 27
abbrev sInit : Stmt := inClass (top 28) 1
abbrev sRow : Stmt := inClass (top 28) 2
abbrev sLimit : Stmt := inClass (top 28) 3
abbrev sSetLimit : Stmt := inClass (top 28) 4
abbrev sAfter : Stmt := inClass (top 28) 5
abbrev sDo : Stmt := inClass (top 28) 6
abbrev sUndo : Stmt := inClass (top 28) 7
abbrev sRedo : Stmt := inClass (top 28) 8
abbrev sLog : Stmt := inClass (top 28) 9
abbrev sCopied : Stmt := inClass (top 28) 11
abbrev sTwin : Stmt := inClass (top 28) 12
abbrev sReplayed : Stmt := inClass (top 28) 13
abbrev sIsKept : Stmt := inClass (top 28) 15
abbrev sLen : Stmt := inClass (top 28) 16
abbrev sEq : Stmt := inClass (top 28) 17
abbrev sAfterK : Stmt := inClass (top 29) 0
abbrev sTwinK : Stmt := inClass (top 29) 1
abbrev sIsKeptK : Stmt := inClass (top 29) 2
abbrev sPool : Stmt := top 31
abbrev sTake : Stmt := top 32
abbrev sLAfter : Stmt := top 33
abbrev sLed : Stmt := top 34
abbrev sGuided : Stmt := top 36
abbrev sTried : Stmt := top 38
abbrev sTold : Stmt := top 39
abbrev sCalled : Stmt := top 40
abbrev sStep : Stmt := top 41
abbrev sState : Stmt := top 42
abbrev sLedBack : Stmt := top 43
abbrev sAlone : Stmt := top 44
abbrev sUnlike : Stmt := top 45
abbrev sFull : Stmt := top 46
abbrev sEmptyRight : Stmt := top 47
abbrev sLaw : Stmt := top 48
end Dq
set_option maxHeartbeats 4000000
/-! Rules by positional promises (FnR): calls, methods, properties, classes by a local name, len, ==, != of instances. -/
namespace Dq
open PySem PySem.Spec PyProof.Rows L2
/-! ### where a def stands, with its promise -/
/-- a def of the module -/
structure Glo (P : Program) (w : World) (K : PySem.W.Frag) (mg : Str → Option Value) (base : Heap) (CX : CXT) (k : Nat) (x : Str) (sp : Sp) : Prop where
  ex : ∃ f, FnR P w K mg base CX k f sp ∧ mg x = some (.ref f) ∧ PySem.W.keepIn K (.ref f) = true
/-- a method m of the class at C -/
structure Mtd (P : Program) (w : World) (K : PySem.W.Frag) (mg : Str → Option Value) (base : Heap) (CX : CXT) (k : Nat) (C : Addr) (m : Str) (sp : Sp) : Prop where
  ex : ∃ f, FnR P w K mg base CX k f sp ∧ Meth K C m f
  cl : Cls K C
/-- a class of the module, by its __init__ -/
structure Mak (P : Program) (w : World) (K : PySem.W.Frag) (mg : Str → Option Value) (base : Heap) (CX : CXT) (k : Nat) (C : Addr) (sp : Sp) : Prop where
  ex : ∃ f, FnR P w K mg base CX k f sp ∧ Mk K C f
/-- a property f of the class at C -/
structure Prp (P : Program) (w : World) (K : PySem.W.Frag) (mg : Str → Option Value) (base : Heap) (CX : CXT) (k : Nat) (C : Addr) (f : Str) (sp : Sp) : Prop where
  ex : ∃ p g, FnR P w K mg base CX k g sp ∧ PropOf K C f p g
  cl : Cls K C
def tCallR (sp : Sp) (E : XK) (t : TA) : TE := fun σ H Q => t σ H fun vs H1 => sp vs H1 Q E
section
variable {X : Cx} {CX : CXT} {k j : Nat} {C : Addr} {sp : Sp} {E : XK} {x m f : Str} {p pos apos : Pos} {e o : Expr} {es : List Expr} {ta : TE} {t : TA}
theorem pe_g (c : Glo X.prog X.w X.K X.mg X.base CX j x sp) (hr : Room k X.A) (hx : Passes CX X E) (ha : PA X (e :: es) t) (hj : j ≤ k := by decide) (hg : Gl X x := by rfl) (hdb : (x == ("__debug__" : Str)) = false := by decide)
    (he : starEach (e :: es) X.env = (false, eval e X.env) :: starEach es X.env := by rfl) (hpl : (backTo pos (starEach es X.env)).any (·.1) = false := by rfl) :
    PE X (.Call (.Name x p) (e :: es) [] pos) (tCallR sp E t) := by
  obtain ⟨f, F, hm, hk⟩ := c.ex
  refine ⟨fun pins s σ H Q I h => ?_⟩
  refine wpAny_Call_Name_kw (ld_glob I hg hm ?_ hdb)
  refine PySem.W.callWith_K (h₀ := X.base) I.ok.mod.kin hk (thn (ha.run pos pins s σ H _ I h) fun us s1 ⟨vs, H1, I1, r, q⟩ => ⟨I1.kIn, ?_⟩) he hpl
  exact wpAny_call (run_fnR F (hr.mono hj) hx I1 r q)
theorem pe_g0 (c : Glo X.prog X.w X.K X.mg X.base CX j x sp) (hr : Room k X.A) (hx : Passes CX X E) (hj : j ≤ k := by decide) (hg : Gl X x := by rfl) (hdb : (x == ("__debug__" : Str)) = false := by decide) :
    PE X (.Call (.Name x p) [] [] pos) (tCallR sp E tNil) := by
  obtain ⟨f, F, hm, hk⟩ := c.ex
  refine ⟨fun pins s σ H Q I h => ?_⟩
  refine wpAny_Call_Name_kw (ld_glob I hg hm ?_ hdb)
  exact PySem.W.callWith_K0 I.kIn hk (wpAny_call (run_fnR (us := []) (vs := []) F (hr.mono hj) hx I .nil h))
theorem pe_m {pl : Sem Bool} (he : PE X o ta) (c : Mtd X.prog X.w X.K X.mg X.base CX j C m sp) (hr : Room k X.A) (hx : Passes CX X E) (ha : PA X (e :: es) t) (hj : j ≤ k := by decide)
    (hst : starEach (e :: es) X.env = (false, eval e X.env) :: starEach es X.env := by rfl) (hpl : (backTo pos (starEach es X.env)).any (·.1) = false := by rfl)
    (ht : eval (.Call (.Attribute o m apos) (e :: es) [] pos) X.env = (do
      let ov ← eval o X.env
      standAt apos.atName
      let (f, first) ← holding [ov] (getMethod ov m pl)
      callWith pos f first (backTo pos (starEach (e :: es) X.env)) (backToKw pos (keywordEach [] X.env))) := by rfl) :
    PE X (.Call (.Attribute o m apos) (e :: es) [] pos) (tMethR C m sp E ta t) := by
  obtain ⟨f, F, hm⟩ := c.ex
  exact pe_methR he c.cl hm F (hr.mono hj) hx ha hst hpl ht
theorem pe_m0 {pl : Sem Bool} (he : PE X o ta) (c : Mtd X.prog X.w X.K X.mg X.base CX j C m sp) (hr : Room k X.A) (hx : Passes CX X E) (hj : j ≤ k := by decide)
    (ht : eval (.Call (.Attribute o m apos) [] [] pos) X.env = (do
      let ov ← eval o X.env
      standAt apos.atName
      let (f, first) ← holding [ov] (getMethod ov m pl)
      callWith pos f first (backTo pos (starEach [] X.env)) (backToKw pos (keywordEach [] X.env))) := by rfl) :
    PE X (.Call (.Attribute o m apos) [] [] pos) (tMethR C m sp E ta tNil) := by
  obtain ⟨f, F, hm⟩ := c.ex
  refine ⟨fun pins s σ H Q I h => ?_⟩
  refine PySem.W.methodCall_KW (pl := pl) (thn (he.run pins s σ H _ I h) fun u s1 ⟨x, H1, I1, rx, a, dx, fs, ex, ea, l, q⟩ => ?_) ht
  subst ex
  obtain rfl : u = Value.ref a := rx
  refine getmeth_ok I1 ea c.cl hm l ?_
  exact PySem.W.callWith_K0 (first := [.ref a]) I1.kIn hm.kp (wpAny_call (run_fnR (us := [.ref a]) (vs := [.ref a]) F (hr.mono hj) hx I1 (.cons rfl .nil) q))
/-- C(e, ..), C of the module -/
theorem pe_mk (c : Mak X.prog X.w X.K X.mg X.base CX j C sp) (hm : X.mg x = some (.ref C)) (hr : Room (k + 1) X.A) (hx : Passes CX X E) (ha : PA X (e :: es) t) (hj : j ≤ k := by decide) (hg : Gl X x := by rfl) (hdb : (x == ("__debug__" : Str)) = false := by decide)
    (he : starEach (e :: es) X.env = (false, eval e X.env) :: starEach es X.env := by rfl) (hpl : (backTo pos (starEach es X.env)).any (·.1) = false := by rfl) : PE X (.Call (.Name x p) (e :: es) [] pos) (StX.tMakeR C sp E t) := by
  obtain ⟨f, F, M⟩ := c.ex
  exact StX.pe_makeR M (F.mono hj) hr hg hm hx ha hdb he hpl
/-- c(e, ..), c a local name that holds a class -/
def tMakeL (i : Nat) (C : Addr) (sp : Sp) (E : XK) (t : TA) : TE := fun σ H Q => σ[i]? = some (some (.ref C)) ∧ StX.tMakeR C sp E t σ H Q
theorem pe_mkL (i : Nat) (c : Mak X.prog X.w X.K X.mg X.base CX j C sp) (hr : Room (k + 1) X.A) (hx : Passes CX X E) (ha : PA X (e :: es) t) (hj : j ≤ k := by decide) (hN : X.N[i]? = some x := by rfl) (hv : Vis X.env.scope x := by first | exact Or.inl rfl | exact Or.inr (Or.inl rfl) | exact Or.inr (Or.inr rfl))
    (hdb : (x == ("__debug__" : Str)) = false := by decide) (hcd : (x == ("__classdict__" : Str)) = false := by decide)
    (he : starEach (e :: es) X.env = (false, eval e X.env) :: starEach es X.env := by rfl) (hpl : (backTo pos (starEach es X.env)).any (·.1) = false := by rfl) : PE X (.Call (.Name x p) (e :: es) [] pos) (tMakeL i C sp E t) := by
  obtain ⟨f, F, M⟩ := c.ex
  refine ⟨fun pins s σ H Q I h => ?_⟩
  obtain ⟨hs, h⟩ := h
  refine wpAny_Call_Name_kw (thn ((pe_var (pos := p) (i := i) hN hv hdb hcd).run pins s σ H (fun v H1 => v = .ref C ∧ H1 = H) I ⟨.ref C, hs, rfl, rfl⟩) fun u s0 ⟨v, H0, I0, r0, q0⟩ => ?_)
  obtain ⟨ev, eH⟩ := q0
  subst ev eH
  obtain rfl : u = Value.ref C := r0
  refine PySem.W.callWith_K (h₀ := X.base) I.ok.mod.kin M.kp (thn (ha.run pos pins s0 σ H0 _ I0 h) fun us s1 ⟨vs, H1, I1, r, q⟩ => ⟨I1.kIn, ?_⟩) he hpl
  exact StX.run_makeR M (F.mono hj) hr hx I1 r q
/-- o.f, a property -/
def tPrp (C : Addr) (sp : Sp) (E : XK) (ta : TE) : TE := fun σ H Q => ta σ H fun x H1 => ∃ a dx fs, x = .ref a ∧ H1 a = some (.ins C dx fs) ∧ sp [.ref a] H1 Q E
theorem pe_p (he : PE X e ta) (c : Prp X.prog X.w X.K X.mg X.base CX0 j C f sp) (hr : Room (k + 1) X.A) (hj : j ≤ k := by decide) (hab : attributeBase e f X.env (eval e X.env) = eval e X.env := by rfl) : PE X (.Attribute e f pos) (tPrp C sp E ta) := by
  obtain ⟨p, g, F, hp⟩ := c.ex
  refine ⟨fun pins s σ H Q I h => ?_⟩
  refine attr_of hab (thn (he.run pins s σ H _ I h) fun u s1 ⟨x, H1, I1, rx, a, dx, fs, ex, ea, q⟩ => ?_)
  subst ex
  obtain rfl : u = Value.ref a := rx
  obtain ⟨mA, O, _, _, _, _⟩ := ins_get I1.hok ea
  obtain ⟨od, J, _⟩ := O.look
  obtain ⟨rest, hrec⟩ := hp.rec_
  have I2 := I1.tok (s1.toks + 1)
  have hc : (PySem.W.clsIn X.K C).isSome = true := by
    obtain ⟨cd, hc, _⟩ := PySem.W.any_some c.cl.hd
    rw [hc]
    rfl
  refine PySem.W.get_bind I1.kIn J (PySem.W.plainGet_of (c.cl.get f)).1 (PySem.W.findObj_data hc hp.at_ hp.get hp.tak) (PySem.W.plainGet_of (c.cl.get f)).2 (wpAny_call (PySem.W.prop_get (s := { s1 with toks := s1.toks + 1 }) I1.kIn hrec ?_))
  refine codeAny_mono (F X.A.in1 X.stack { s1 with toks := s1.toks + 1 } H1 [.ref a] [.ref a] Q E (hr.mono (Nat.succ_le_succ hj)).in1 I2.env0.in1 (.cons rfl .nil) q) fun r s' hq => ?_
  cases r with
  | error er => exact False.elim hq
  | ok fl =>
    cases fl with
    | ret u =>
      obtain ⟨v, H', I3, rv, q3⟩ := I2.after hq
      show wpAny _ _ (handedOut u) _ _ _
      rw [PySem.W.handedOut_of (handed_of rv)]
      exact wpAny_pure ⟨v, H', I3, rv, q3⟩
    | next => exact False.elim hq
    | brk => exact False.elim hq
    | cont => exact False.elim hq
end
/-! ### len(o) by an own __len__ -/
structure Lng (P : Program) (w : World) (K : PySem.W.Frag) (mg : Str → Option Value) (base : Heap) (k : Nat) (C : Addr) (sp : Sp) : Prop where
  ex : ∃ f, FnR P w K mg base CX0 k f sp ∧ PySem.W.findIn K (.ref C) "__len__" = some (some (.ref f)) ∧ PySem.W.isFn K (.ref f) = true
def rLenO (C : Addr) (sp : Sp) : List V → Hp → VK → Prop := fun xs H Q => ∃ a dx fs, xs = [.ref a] ∧ H a = some (.ins C dx fs) ∧ sp [.ref a] H (fun v H' => ∃ n : Nat, v = .int n ∧ n < 2 ^ 62 ∧ Q (.int n) H') E0
section
variable {X : Cx} {k j : Nat} {C : Addr} {sp : Sp}
theorem call_lenO (c : Lng X.prog X.w X.K X.mg X.base j C sp) (hr : Room (k + 1) X.A) (hj : j ≤ k := by decide) : CallR X (.builtin "len") (rLenO C sp) := by
  obtain ⟨f, F, hs, hf⟩ := c.ex
  intro pins s σ H xs us Q I r h
  obtain ⟨a, dx, fs, rfl, ea, q⟩ := h
  obtain ⟨u, rfl, ru⟩ := r.one
  cases (show u = Value.ref a from ru)
  obtain ⟨mA, O, _⟩ := ins_get I.hok ea
  obtain ⟨od, J, _⟩ := O.look
  obtain ⟨m, hF⟩ := I.fr
  refine PySem.W.len_K hF I.ok.mod.kin J hs hf (wpAny_mono (wpAny_call (SlX.run_at (us := [.ref a]) (ws := [.ref a]) F (hr.mono (Nat.succ_le_succ hj)).in1 I.env0.in1 pass0 I (.cons rfl .nil) q)) (fun w s' z => ?_) fun _ _ x => x)
  obtain ⟨z', H', I', rz, n, ez, hn, qz⟩ := z
  subst ez
  obtain ⟨t, e⟩ := (show ∃ t, w = Value.int n t from rz)
  cases e
  exact ⟨⟨Int.natCast_nonneg n, by show (n : Int) < 2 ^ 63; omega⟩, .int n, H', I'.tok _, ⟨_, rfl⟩, qz⟩
end
end Dq
set_option maxHeartbeats 4000000
/-! == and != by the one own __eq__ of a class and a class below it. -/
namespace Dq
open PySem PySem.Spec PyProof.Rows L2
def cof (CS CK : Addr) (k : Bool) : Addr := if k then CK else CS
structure EqS (P : Program) (w : World) (K : PySem.W.Frag) (mg : Str → Option Value) (base : Heap) (k : Nat) (CS CK : Addr) (sp : Sp) : Prop where
  ex : ∃ f, FnR P w K mg base CX0 k f sp ∧ (∀ b, PySem.W.findIn K (.ref (cof CS CK b)) "__eq__" = some (some (.ref f))) ∧ PySem.W.isFn K (.ref f) = true
  ne : ∀ b, PySem.W.findIn K (.ref (cof CS CK b)) "__ne__" = some (some (.builtin "object.__ne__"))
  ob : ∀ b, PySem.W.mroIn K (cof CS CK b) (.type "object") = some true
  d : CS ≠ CK
  ks : PySem.W.subIn K (.ref CK) (.ref CS) = some true
  sk : PySem.W.subIn K (.ref CS) (.ref CK) = some false
  li : ∀ b, PySem.W.subIn K (.type "list") (.ref (cof CS CK b)) = some false
def rEqS (CS CK : Addr) (sp : Sp) : R2 := fun x y H Q => ∃ a b, x = .ref a ∧ y = .ref b ∧ ∃ (k : Bool) (dx : Addr) (fs : List (Str × V)), H a = some (.ins (cof CS CK k) dx fs) ∧
  ((∃ (l : Bool) (dy : Addr) (gs : List (Str × V)), H b = some (.ins (cof CS CK l) dy gs) ∧ sp (if (!k && l) = true then [y, x] else [x, y]) H Q E0) ∨ (∃ xs, H b = some (.lst xs) ∧ sp [x, y] H Q E0))
def rNeS (CS CK : Addr) (sp : Sp) : R2 := fun x y H Q => ∃ a b, x = .ref a ∧ y = .ref b ∧ ∃ (k : Bool) (dx : Addr) (fs : List (Str × V)) (dy : Addr) (gs : List (Str × V)), H a = some (.ins (cof CS CK k) dx fs) ∧ H b = some (.ins (cof CS CK k) dy gs) ∧
  sp [x, y] H (fun v H' => ∃ r, v = .bl r ∧ Q (.bl (!r)) H') E0
section
variable {prog : Program} {w : World} {A : Around} {E : Value → Shared → Prop} {s : Shared} {K : PySem.W.Frag} {x C y C' L f : Addr} {h₀ : Heap} {m : Str → Option Value} {ox oy : Obj} {od od' : Option Obj}
open PySem.W
/-- the right one's class is below the left one's: it is asked first -/
theorem eq_first {Q : Value → Shared → Prop} (hu : A.units < cLine) (X : K.In s.heap) (I : InstAt s.heap x ox C od) (I' : InstAt s.heap y oy C' od') (hne : C' ≠ C) (hb : subIn K (.ref C') (.ref C) = some true)
    (hs : findIn K (.ref C') "__eq__" = some (some (.ref f))) (hf : isFn K (.ref f) = true)
    (h : wpAny (model prog w) A (call (.ref f) [.ref y, .ref x]) (PySem.W.CmpBack Q) E s) : wpAny (model prog w) A (richCompare .Eq (.ref x) (.ref y)) Q E s := by
  have one : wpAny (model prog w) A (tryCompare (.ref y) (cmpInfo .Eq).2.2 (.ref x)) (fun r s' => ∃ v, r = some v ∧ Q v s') E s := by
    unfold tryCompare
    refine wpAny_bind (ifBound_K X I' hs hf (wpAny_mono h (fun v s' hv => ?_) fun _ _ e => e))
    cases v <;> first | exact hv.elim | exact wpAny_pure ⟨_, rfl, hv⟩
  unfold richCompare
  simp only [oneThing_ref]
  refine wpAny_holding (wpAny_bind (wpAny_cRoomFor hu ?_))
  refine wpAny_bind (I.type.here (wpAny_bind (I'.type.here ?_)))
  rw [show (Value.ref C != Value.ref C') = true from by simp [Ne.symm hne]]
  refine wpAny_bind ((looks_subIn X hb).here ?_)
  simp only [if_true]
  refine wpAny_bind (wpAny_mono one (fun r s' z => ?_) fun _ _ e => e)
  obtain ⟨v, rfl, hq⟩ := z
  exact wpAny_bind (wpAny_rule (wpAny_pure hq))
/-- object.__ne__ found on the class, its own __eq__ asked -/
theorem ne_own {Q : Value → Shared → Prop} (hu : A.units + 1 < cLine) (X : K.In s.heap) (I : InstAt s.heap x ox C od) (I' : InstAt s.heap y oy C od')
    (hs : findIn K (.ref C) "__eq__" = some (some (.ref f))) (hf : isFn K (.ref f) = true) (hn : findIn K (.ref C) "__ne__" = some (some (.builtin "object.__ne__"))) (hm : mroIn K C (.type "object") = some true)
    (h : wpAny (model prog w) A.in1 (call (.ref f) [.ref x, .ref y]) (fun v s' => ∃ b, v = .bool b ∧ Q (.bool (!b)) s') E s) : wpAny (model prog w) A (richCompare .NotEq (.ref x) (.ref y)) Q E s := by
  have FB := F.cmp_object
  obtain ⟨hp, g, d, t, os⟩ := s
  have sub : Looks (model prog w) hp (isInstance (.ref x) (.type "object")) true := I.type.andThen (looks_mroIn X hm)
  have body : wpAny (model prog w) A (call (.builtin "object.__ne__") [.ref x, .ref y]) (fun v s' => ∃ b, v = .bool b ∧ Q (.bool b) s') E ⟨hp, g, d, t, os⟩ := by
    refine wpAny_call (codeAny_call_builtin FB.ne.plain F.cmpEntry_ne (@check_slot (model prog w) _ _ ⟨hp, g, d, t, os⟩ "object.__ne__" "object" "__ne__" (.ref x) [.ref y] [] _ F.cmpKind_ne F.cmpSplit_ne sub (F.cmpArgs_ne _ _) ?_))
    unfold Builtin.«object.__ne__»
    have hu' : A.in1.units < cLine := hu
    have ne_back : ∀ (v : Value) (s' : Shared), (∃ b, v = Value.bool b ∧ Q (.bool (!b)) s') → wpAny (model prog w) A.in1 (match some v with | some .notImplemented => ret .notImplemented | none => ret .notImplemented | some r => do ret (.bool (!(← truthy r))))
        (fun fin s' => match fin with | Fin.done f => (match (Except.ok f : Result) with | .ok (.ret v) => ∃ b, v = Value.bool b ∧ Q (.bool b) s' | .ok _ => False | .error e => E e s') | Fin.again c' => c'.quiet = true ∧ codeAny (model prog w) A c' (fun r s' => match r with | .ok (.ret v) => ∃ b, v = Value.bool b ∧ Q (.bool b) s' | .ok _ => False | .error e => E e s') s')
        (fun e s' => E e s') s' := by
      intro v s' hr
      obtain ⟨b, rfl, hq⟩ := hr
      refine wpAny_bind (m := truthy (.bool _)) (wpAny_truthy_bool ?_)
      exact wpAny_pure ⟨_, rfl, hq⟩
    repeat (first
      | with_reducible refine wpAny_cRoomFor hu' ?_
      | (refine wpAny_bind (m := callSpecialIfBound? (.ref x) (Str.ofString "__eq__") [.ref y]) (ifBound_K X I hs hf (wpAny_mono h ne_back fun _ _ e => e)))
      | wp_step)
  have one : wpAny (model prog w) A (tryCompare (.ref x) (cmpInfo .NotEq).2.1 (.ref y)) (fun r s' => ∃ v, r = some v ∧ Q v s') E ⟨hp, g, d, t, os⟩ := by
    unfold tryCompare
    refine wpAny_bind (m := callSpecialIfBound? (.ref x) (cmpInfo .NotEq).2.1 [.ref y]) ?_
    simp only [callSpecialIfBound?, bindSpecialIfBound?]
    refine wpAny_holding (wpAny_bind (wpAny_bind (wpAny_bind (I.type.here ((looks_findIn X hn).here ?_)))))
    simp only [FB.ne.bind]
    have fin : wpAny (model prog w) A (call (.builtin "object.__ne__") ([.ref x] ++ [.ref y]) >>= fun v => pure (some v)) (fun a s => wpAny (model prog w) A (match a with | some .notImplemented | none => pure none | some v => pure (some v)) (fun r s' => ∃ v, r = some v ∧ Q v s') E s) E ⟨hp, g, d, t, os⟩ :=
      wpAny_bind (wpAny_mono body (fun v s' hv => by
        obtain ⟨b, rfl, hq⟩ := hv
        exact wpAny_pure (wpAny_pure ⟨_, rfl, hq⟩)) fun _ _ e => e)
    refine wpAny_bind (wpAny_askSetting (wpAny_ite ?_))
    split
    · exact wpAny_bind (wpAny_pure (wpAny_pure fin))
    · exact wpAny_tryCatch (wpAny_bind (wpAny_pure (wpAny_pure fin)))
  unfold richCompare
  simp only [oneThing_ref]
  refine wpAny_holding (wpAny_bind (wpAny_cRoomFor (Nat.lt_of_succ_lt hu) ?_))
  refine wpAny_bind (I.type.here (wpAny_bind (I'.type.here ?_)))
  rw [show (Value.ref C != Value.ref C) = false from by simp]
  simp only [Bool.false_eq_true, if_false]
  refine wpAny_bind (wpAny_pure ?_)
  simp only [Bool.false_eq_true, if_false]
  refine wpAny_bind (wpAny_mono one (fun r s' z => ?_) fun _ _ e => e)
  obtain ⟨v, rfl, hq⟩ := z
  exact wpAny_pure hq
end
section
variable {X : Cx} {k j : Nat} {CS CK : Addr} {sp : Sp}
theorem inst_of {pins : List (Addr × Obj)} {σ : L2.St} {H : Hp} {s : Shared} {a C dx : Addr} {fs : List (Str × V)} (I : Inv X pins σ H s) (ea : H a = some (.ins C dx fs)) : ∃ ox od, PySem.W.InstAt s.heap a ox C (some od) := by
  obtain ⟨mA, O, _⟩ := ins_get I.hok ea
  obtain ⟨od, J, _⟩ := O.look
  exact ⟨_, od, J⟩
theorem op_eqS (c : EqS X.prog X.w X.K X.mg X.base j CS CK sp) (hr : Room k X.A) (hj : j ≤ k := by decide) : OpR X (compareOp .Eq) (rEqS CS CK sp) := by
  obtain ⟨f, F, hs, hf⟩ := c.ex
  intro pins s σ H x y v u Q I rx ry h
  obtain ⟨a, b, rfl, rfl, kk, dx, fs, ea, h⟩ := h
  cases (show v = Value.ref a from rx)
  cases (show u = Value.ref b from ry)
  obtain ⟨ox, od, J⟩ := inst_of I ea
  obtain ⟨m, hF⟩ := I.fr
  show wpAny _ _ (richCompare .Eq (.ref a) (.ref b)) _ _ _
  have one : ∀ {a b : Addr}, sp [.ref a, .ref b] H Q E0 → wpAny (model X.prog X.w) X.A (call (.ref f) [.ref a, .ref b]) (PySem.W.CmpBack (EP X pins σ Q)) X.xe s := fun {a b} q =>
    wpAny_mono (wpAny_call (run_fnR (us := [.ref a, .ref b]) (vs := [.ref a, .ref b]) F (hr.mono hj) pass0 I (.cons rfl (.cons rfl .nil)) q)) (fun w s' z => by
      obtain ⟨z', H', I', rz, qz⟩ := z
      exact SlX.cmpback rz ⟨z', H', I', rz, qz⟩) fun _ _ x => x
  rcases h with ⟨l, dy, gs, eb, q⟩ | ⟨xs, eb, q⟩
  · obtain ⟨oy, od', J'⟩ := inst_of I eb
    cases kk with
    | false =>
      cases l with
      | false => exact PySem.W.cmp_K (op := .Eq) (tb := .ref (cof CS CK false)) hr.units0 hF I.ok.mod.kin J J'.type (by simp [PySem.W.notFirst]) (hs false) hf (one q)
      | true => exact eq_first hr.units0 I.kIn J J' (Ne.symm c.d) c.ks (hs true) hf (one q)
    | true =>
      cases l with
      | false => exact PySem.W.cmp_K (op := .Eq) (tb := .ref (cof CS CK false)) hr.units0 hF I.ok.mod.kin J J'.type (by unfold PySem.W.notFirst; rw [show cof CS CK false = CS from rfl, show cof CS CK true = CK from rfl, c.sk]; simp) (hs true) hf (one q)
      | true => exact PySem.W.cmp_K (op := .Eq) (tb := .ref (cof CS CK true)) hr.units0 hF I.ok.mod.kin J J'.type (by simp [PySem.W.notFirst]) (hs true) hf (one q)
  · obtain ⟨z, its, n, r, e⟩ := I.hok b _ eb
    exact PySem.W.cmp_K (op := .Eq) (tb := .type "list") hr.units0 hF I.ok.mod.kin J (fun A Q E s k q => wpAny_typeOf_ref (k _ _ e) q) (by unfold PySem.W.notFirst; rw [c.li kk]; simp) (hs kk) hf (one q)
theorem op_neS (c : EqS X.prog X.w X.K X.mg X.base j CS CK sp) (hr : Room (k + 1) X.A) (hj : j ≤ k := by decide) : OpR X (compareOp .NotEq) (rNeS CS CK sp) := by
  obtain ⟨f, F, hs, hf⟩ := c.ex
  intro pins s σ H x y v u Q I rx ry h
  obtain ⟨a, b, rfl, rfl, kk, dx, fs, dy, gs, ea, eb, q⟩ := h
  cases (show v = Value.ref a from rx)
  cases (show u = Value.ref b from ry)
  obtain ⟨ox, od, J⟩ := inst_of I ea
  obtain ⟨oy, od', J'⟩ := inst_of I eb
  show wpAny _ _ (richCompare .NotEq (.ref a) (.ref b)) _ _ _
  refine ne_own (by have := hr.units; omega) I.kIn J J' (hs kk) hf (c.ne kk) (c.ob kk) (wpAny_mono (wpAny_call (SlX.run_at (us := [.ref a, .ref b]) (ws := [.ref a, .ref b]) F (hr.mono (Nat.succ_le_succ hj)).in1 I.env0.in1 pass0 I (.cons rfl (.cons rfl .nil)) q)) (fun w s' z => ?_) fun _ _ x => x)
  obtain ⟨z', H', I', rz, r, ez, qz⟩ := z
  subst ez
  cases (show w = Value.bool r from rz)
  exact ⟨r, rfl, .bl (!r), H', I', rfl, qz⟩
end
end Dq
set_option maxHeartbeats 4000000
/-! Own exceptions over RuntimeError and IndexError whose __init__ calls the base's by name. -/
namespace Dq
open PySem PySem.Spec PyProof.Rows L2
section
open Builtin Builtin.ObjectAttr PySem.W PySem.HandSPX
variable {prog : Program} {w : World} {A : Around} {E : Value → Shared → Prop} {R : Result → Shared → Prop} {hp : Heap} {g : Array GenState} {d : Drawn} {t : Nat} {os : OsState}
/-- the first field of an exception over the built-in whose chain is bmB -/
theorem osa_first {K : Frag} {name : Str} {tk : Tok} {v : Value} {x C : Addr} {fv : Array Value} {cd : ClassData} {B : String} {bmB : List Value}
    (SB : StoreFacts B bmB "object.__setattr__" "object") (X : K.In hp) (hx : hp.get? x = some { cls := .ref C, data := .fields fv }) (hcd : clsIn K C = some cd) (hm : excTail bmB cd.mro = true) (hne : cd.mro.isEmpty = false) (hh : cd.hasDict = true) (ha : findIn K (.ref C) name = some none)
    (hq : ∀ h' tk' dx, (∀ b o, b ≠ x → hp.get? b = some o → h'.get? b = some o) → hp.objs.size ≤ dx → dx ≠ x → h'.get? x = some { cls := .ref C, dict := some dx, data := .fields fv } →
      h'.Ns1 dx (fun y => if y = name then some v else none) → R (.ok (.ret .none)) ⟨h', g, d, tk', os⟩) :
    codeAny (model prog w) A (.call (.builtin "object.__setattr__") ⟨[.ref x, .str name tk, v], []⟩) R ⟨hp, g, d, t, os⟩ := by
  have I : InstAt hp x { cls := .ref C, data := .fields fv } C none := ⟨hx, rfl, rfl, trivial⟩
  have SF := F.store_object
  have hob : cd.mro.contains (.type "object") = true := (excTail_contains "object" _ hm).trans SB.hasOwner
  have hxs : x ≠ hp.objs.size := Nat.ne_of_lt (Heap.lt_size hx)
  have sub : Looks (model prog w) hp (isInstance (.ref x) (.type "object")) true := I.type.andThen (looks_mroIn X (by unfold mroIn; rw [hcd, Option.bind_some, if_neg (by rw [hne]; decide), hob]))
  refine codeAny_call_builtin SF.slot.plain SF.entry (@check_slot (model prog w) _ _ ⟨hp, g, d, t, os⟩ "object.__setattr__" "object" "__setattr__" (.ref x) [.str name tk, v] [] _ SF.kind SF.split sub (SF.args (.ref x) (.str name tk) v) ?_)
  have hmr : Looks (model prog w) hp (mroOf (.ref C)) cd.mro := (looks_clsIn X hcd).andThen .now
  have L3 : Looks (model prog w) hp (storeTaker? none) none := .now
  have hcls : Looks (model prog w) hp (classData C) cd := looks_clsIn X hcd
  rw [osa_eq, refuse_eq]
  refine wpAny_bind (wpAny_bind (I.type.at (wpAny_bind (hmr.at ?_))))
  rw [excTail_pass _ (SB.passes _) _ hm]
  refine wpAny_pure (wpAny_bind (I.type.at (wpAny_bind ((looks_findIn X ha).at (wpAny_bind (L3.at ?_))))))
  show wpAny _ _ (storeInOwnDict (.ref x) (.ref C) (.str name tk) name v false) _ _ _
  obtain ⟨nm, bs, mro, ns, qn, hd, sn, sb, ab, col, del⟩ := cd
  dsimp only at hh
  subst hh
  unfold storeInOwnDict ownDictForStores
  repeat (first | with_reducible refine store_in_new ?_ ?_ | with_reducible refine wpAny_loadPart_at hx ?_ | with_reducible refine hcls.at ?_ | wp_step)
  · exact ⟨_, #[], _, (Heap.get?_update_ne _ _ _ _ hxs.symm).trans (Heap.get?_push_at rfl rfl), rfl, fun e he => absurd he (by simp), fun _ => rfl⟩
  · intro h' tk' hn' hs
    have hx₁ : (hp.push { cls := .type "dict", data := .dict #[] }).get? x = some { cls := .ref C, data := .fields fv } := Heap.get?_push_of_some _ hx
    refine hq h' tk' hp.objs.size (fun b o hb ho => ?_) (Nat.le_refl _) hxs.symm ?_ hn'
    · exact (hs.2 b (Nat.ne_of_lt (Heap.lt_size ho))).trans ((Heap.get?_update_ne _ _ _ _ hb).trans (Heap.get?_push_of_some _ ho))
    · exact (hs.2 x hxs).trans (Heap.get?_update_self _ hx₁ rfl)
end
/-- what the written part says of such a class -/
structure OxC (K : PySem.W.Frag) (C : Addr) (B newId initId : String) (bmB : List Value) : Prop where
  cls : ∃ nm q N bs bm sn sub ab col dd k0 k1 k2 k3 k5, K.lookup C = some (excClassObj nm q C N bs bm true sn sub ab col dd k0 k1 k2 k3 k5 newId) ∧ PySem.W.excTail bmB bm = true
  sa : PySem.W.findIn K (.ref C) "__setattr__" = some (some (.builtin "object.__setattr__"))
  exC : PySem.W.subIn K (.ref C) (.type "BaseException") = some true
  tyC : PySem.W.typeIn K (.ref C) = some (.type "type")
  kC : PySem.W.keepIn K (.ref C) = true
  base : ExcBaseFacts B newId initId bmB
  store : StoreFacts B bmB "object.__setattr__" "object"
section
variable {X : Cx} {pins : List (Addr × Obj)} {σ : L2.St} {H : Hp} {s : Shared} {a C dx : Addr} {f : Str} {y : V} {u : Value} {Q : Unit → Shared → Prop} {E : Value → Shared → Prop} {A : Around} {B newId initId : String} {bmB : List Value}
theorem OxC.clsIn {K : PySem.W.Frag} (T : OxC K C B newId initId bmB) : ∃ cd, PySem.W.clsIn K C = some cd ∧ PySem.W.excTail bmB cd.mro = true ∧ cd.mro.isEmpty = false ∧ cd.hasDict = true := by
  obtain ⟨nm, q, N, bs, bm, sn, sub, ab, col, dd, k0, k1, k2, k3, k5, hC, hbm⟩ := T.cls
  refine ⟨_, by unfold PySem.W.clsIn; rw [hC] <;> rfl, ?_, rfl, rfl⟩
  exact (show PySem.W.excTail bmB (.ref C :: bm) = true from hbm)
/-- self.f = y, the first one -/
theorem ost_first (T : OxC X.K C B newId initId bmB) (I : Inv X pins σ H s) (e : H a = some (exo a C none)) (hno : PySem.W.findIn X.K (.ref C) f = some none) (ry : RelV y u)
    (h : ∀ dx s', H dx = none → dx ≠ a → Inv X pins σ (upd (upd H dx (exd dx [(f, y)])) a (exo a C (some dx))) s' → Q () s') : wpAny (model X.prog X.w) A (setAttr (.ref a) f u) Q E s := by
  obtain ⟨cd, hcl, hm, hne, hdct⟩ := T.clsIn
  obtain ⟨t1, ho⟩ := exo_at I.hok e
  obtain ⟨hp, g, d, t, os⟩ := s
  refine PySem.W.set_plain I.kIn (ox := { cls := .ref C, dict := none, data := .fields #[.ref t1, .none, .none, .none, .bool false, .none] }) (od := none) ⟨ho, rfl, rfl, trivial⟩ T.sa ?_
  refine osa_first T.store I.kIn ho hcl hm hne hdct hno (fun h' tk' dx k dn dne hx hn => ?_)
  have hnd : H dx = none := I.hok.fresh dn
  have nd : ∀ {b : Addr} {o : Obj}, hp.get? b = some o → b ≠ dx := fun {b o} q => Nat.ne_of_lt (Nat.lt_of_lt_of_le (Heap.lt_size q) dn)
  have na : ∀ {b : Addr}, H b = none → b ≠ a := fun {b} n z => by
    rw [z, e] at n
    cases n
  have Un1 : Un X.fs [] H (upd (upd H dx (exd dx [(f, y)])) a (exo a C (some dx))) hp h' := {
    keep := fun b o q n _ _ => k b o (na n) q
    slot := fun b o q n _ _ => ⟨o.slots, k b o (na n) q⟩
    free := fun b o q n _ => by rw [upd_ne (na n), upd_ne (nd q)]; exact n
    there := fun b o q _ => by
      by_cases hb : b = a
      · exact ⟨_, by rw [hb]; exact hx⟩
      · exact ⟨o, k b o hb q⟩
    tups := fun b xs q => by rw [upd_ne (at_ne e q exo_tup), upd_ne (ne_of_none q hnd)]; exact q
    frzs := fun b o v q => by rw [upd_ne (at_ne e q exo_frz), upd_ne (ne_of_none q hnd)]; exact q
    tbls := fun b ps q => ⟨#[], by rw [upd_ne (at_ne e q exo_tbl), upd_ne (ne_of_none q hnd), q]; simp⟩ }
  refine h dx _ hnd dne (I.un (t' := tk') Un1 fun b o q => ?_)
  by_cases hb : b = a
  · subst hb
    rw [upd_same] at q
    cases q
    exact exo_ok hx
  · rw [upd_ne hb] at q
    by_cases hd : b = dx
    · subst hd
      rw [upd_same] at q
      cases q
      exact exd_ok hn (relO_put (fs := []) ry fun g => True.intro)
    · rw [upd_ne hd] at q
      exact (I.hok b o q).stay (fun c v hc z => k c v (by
          rcases hc with hc | hc
          · rw [hc]
            exact hb
          · exact at_ne e hc exo_own) z)
        (fun c hc => by rw [upd_ne (at_ne e hc exo_own), upd_ne (ne_of_none hc hnd)]; exact hc) (fun c xs hc => by rw [upd_ne (at_ne e hc exo_tup), upd_ne (ne_of_none hc hnd)]; exact hc)
/-- B.__init__(self, ..): nothing of it is told -/
theorem binit_ok {us : List Value} {Q : Value → Shared → Prop} (T : OxC X.K C B newId initId bmB) (I : Inv X pins σ H s) (e : H a = some (exo a C none)) (hl : us.length ≤ sizeLine) (h : ∀ s', Inv X pins σ H s' → Q .none s') :
    wpAny (model X.prog X.w) A (call (.builtin initId) (.ref a :: us)) Q E s := by
  obtain ⟨nm, q, N, bs, bm, sn, sub, ab, col, dd, k0, k1, k2, k3, k5, hC, hbm⟩ := T.cls
  obtain ⟨t1, ho⟩ := exo_at I.hok e
  obtain ⟨hp, g, d, t, os⟩ := s
  refine wpAny_call (PySem.HandSPX.init_base T.base (fun Y => PySem.W.excTail_contains Y bm hbm) (I.kIn _ _ hC) ho hl fun h' t2 k hx => ?_)
  have J := I.write (t' := t) (x := a) (e := a) (o := exo a C none) (by rw [e]; exact True.intro) (.inl rfl) k ⟨_, hx⟩ (exo_ok hx)
  have eu : upd H a (exo a C none) = H := by
    funext b
    by_cases hb : b = a
    · rw [hb, upd_same, e]
    · rw [upd_ne hb]
  rw [eu] at J
  exact h _ J
end
/-- B.__init__(self, ..) -/
def tBIn (K : PySem.W.Frag) (B newId initId : String) (bmB : List Value) (ta : TA) : TE := fun σ H Q => ta σ H fun vs H1 => ∃ (a C : Addr) (ws : List V), vs = .ref a :: ws ∧ ws.length ≤ 1000 ∧ OxC K C B newId initId bmB ∧ H1 a = some (exo a C none) ∧ Q .non H1
/-- self.f = e, the first -/
def tOsF (K : PySem.W.Frag) (B newId initId : String) (bmB : List Value) (f : Str) (to te : TE) : TS := fun D σ H => te σ H fun y H1 => to σ H1 fun x H2 => ∃ a C : Addr, x = .ref a ∧ OxC K C B newId initId bmB ∧ PySem.W.findIn K (.ref C) f = some none ∧
  H2 a = some (exo a C none) ∧ ∀ dx, H2 dx = none → dx ≠ a → D.nx σ (upd (upd H2 dx (exd dx [(f, y)])) a (exo a C (some dx)))
section
variable {X : Cx} {o e : Expr} {es : List Expr} {to te : TE} {ta : TA} {f : Str} {p p' p1 p2 pos : Pos} {B newId initId : String} {bmB : List Value} {bx : Str}
theorem pe_binit {pl : Sem Bool} (hg : Gl X bx) (hm : X.mg bx = none) (hv : bootBuiltins bx = some (.type B)) (ht : typeOf (.type B) = pure (.type "type")) (hs : Manifest.isStub B = false)
    (vV : PySem.W.findCls X.K (.type B) (.type "type") "__init__" = some (.val (.builtin initId))) (hh : PySem.W.handedIn (.builtin initId) = true) (ha : PA X (e :: es) ta)
    (hn : bx ≠ "__name__" := by decide) (hdb : (bx == ("__debug__" : Str)) = false := by decide)
    (hc : eval (.Call (.Attribute (.Name bx p1) "__init__" p2) (e :: es) [] pos) X.env = (do
      let ov ← eval (.Name bx p1) X.env
      standAt p2.atName
      let (f, first) ← holding [ov] (getMethod ov "__init__" pl)
      callWith pos f first (backTo pos (starEach (e :: es) X.env)) (backToKw pos (keywordEach [] X.env))) := by rfl)
    (he : starEach (e :: es) X.env = (false, eval e X.env) :: starEach es X.env := by rfl) (hpl : (backTo pos (starEach es X.env)).any (·.1) = false := by rfl) :
    PE X (.Call (.Attribute (.Name bx p1) "__init__" p2) (e :: es) [] pos) (tBIn X.K B newId initId bmB ta) := by
  refine ⟨fun pins s σ H Q I h => ?_⟩
  refine PySem.W.methodCall_KW (ld_blt I hg hm hv ?_ hn hdb) hc
  obtain ⟨m, fr⟩ := I.fr
  refine PySem.W.method_type fr I.ok.mod.kin ht hs vV hh ?_
  show wpAny _ _ (callWith pos (Value.builtin initId) [] (backTo pos (starEach (e :: es) X.env)) []) _ _ _
  refine PyProof.Rows.callWith_method1 (thn (ha.run pos pins _ σ H _ (I.tok _) h) fun us s1 ⟨vs, H1, I1, r1, a, C, ws, ev, hl, T, ea, q⟩ => ?_) he hpl
  subst ev
  cases r1 with
  | @cons _ u0 _ ur ra rw' =>
    obtain rfl : u0 = Value.ref a := ra
    have hlen : ur.length ≤ sizeLine := by
      rw [← Paired.length rw', sizeLine_eq]
      omega
    exact binit_ok T I1 ea hlen fun s' J => ⟨.non, H1, J, rfl, q⟩
theorem ps_osf (ho : PE X o to) (he : PE X e te) (hs : swapsWith e (some (.Attribute o f p')) pos.line X.env = pure false := by rfl) : PS X (.Assign [.Attribute o f p'] e pos) (tOsF X.K B newId initId bmB f to te) := by
  refine ⟨fun pins s σ H D I h => ?_⟩
  refine plainObj_wpAny_Assign_Attribute (thn (he.run pins s σ H _ I h) fun v s1 ⟨y, H1, I1, r1, q1⟩ => thn (ho.run pins s1 σ H1 _ I1 q1) fun u s2 ⟨x, H2, I2, r2, a, C, ex, T, hno, ea, q⟩ => ?_) hs
  subst ex
  obtain rfl : u = Value.ref a := r2
  exact ost_first T I2 ea hno r1 fun dx s' n ne J => ⟨σ, _, J, q dx n ne⟩
/-- the end of C(..) where no dict was laid: the exception is let go -/
theorem mk_endN {pins : List (Addr × Obj)} {σ : L2.St} {H1 H2 : Hp} {Q : XK} {hp hp2 h2 : Heap} {g1 g2 : Array GenState} {d1 d2 : Drawn} {t1 t2 : Nat} {os1 os2 : OsState} {a C : Addr} (T : Raises X (.ref C)) (I1 : Inv X pins σ H1 ⟨hp, g1, d1, t1, os1⟩)
    (ha : hp.objs.size ≤ a) (k : ∀ b o, hp.get? b = some o → hp2.get? b = some o) (un : Un (frs X.stack) [] (upd H1 a (exo a C none)) H2 hp2 h2) (hok : HOk X.prog X.w H2 h2) (ho : os2 = os1) (hb : AllBare g2)
    (ea : H2 a = some (exo a C none)) (q : Q (.ref C) none (del H2 a)) : MkP X pins σ Q (.ref a) ⟨h2, g2, d2, t2, os2⟩ := by
  obtain ⟨t0, hoe⟩ := exo_at hok ea
  have hn : H1 a = none := I1.hok.fresh ha
  obtain ⟨G, g1', g2'⟩ := restrict h2 fun b => decide (b ≠ a)
  have gk : ∀ b, b ≠ a → G.get? b = h2.get? b := fun b hb => g1' b (decide_eq_true hb)
  have ge : G.get? a = none := g2' a (by simp)
  have nha : ∀ {b : Addr} {o : Obj}, hp.get? b = some o → b ≠ a := fun {b o} z => Nat.ne_of_lt (Nat.lt_of_lt_of_le (Heap.lt_size z) ha)
  have up : ∀ {b : Addr}, b ≠ a → H1 b = none → upd H1 a (exo a C none) b = none := fun {b} hb n => by rw [upd_ne hb]; exact n
  have U : Un (frs X.stack) [] H1 (del H2 a) hp G := {
    keep := fun b o z n hf hx => by
      rw [gk b (nha z)]
      exact un.keep b o (k b o z) (up (nha z) n) hf hx
    slot := fun b o z n hf hx => by
      rw [gk b (nha z)]
      exact un.slot b o (k b o z) (up (nha z) n) hf hx
    free := fun b o z n hx => by
      rw [del_ne (nha z)]
      exact un.free b o (k b o z) (up (nha z) n) hx
    there := fun b o z hx => by
      rw [gk b (nha z)]
      exact un.there b o (k b o z) hx
    tups := fun b xs z => by
      rw [del_ne (ne_of_none z hn)]
      exact un.tups b xs (by rw [upd_ne (ne_of_none z hn)]; exact z)
    frzs := fun b o v z => by
      rw [del_ne (ne_of_none z hn)]
      exact un.frzs b o v (by rw [upd_ne (ne_of_none z hn)]; exact z)
    tbls := fun b ps z => by
      rw [del_ne (ne_of_none z hn)]
      exact un.tbls b ps (by rw [upd_ne (ne_of_none z hn)]; exact z) }
  have hok3 : HOk X.prog X.w (del H2 a) G := fun b o z => by
    have hba : b ≠ a := fun e => by
      rw [e, del_same] at z
      cases z
    rw [del_ne hba] at z
    have noa : ∀ {c : Addr}, H2 c = some (.own b) → c ≠ a := fun {c} hc => at_ne ea hc exo_own
    exact (hok b o z).stay (fun c v hc y => by
        have hca : c ≠ a := by
          rcases hc with hc | hc
          · rw [hc]
            exact hba
          · exact noa hc
        rw [gk c hca]
        exact y)
      (fun c hc => by rw [del_ne (noa hc)]; exact hc) (fun c xs hc => by rw [del_ne (at_ne ea hc exo_tup)]; exact hc)
  have J : Inv X pins σ (del H2 a) ⟨G, g2, d2, t2, os2⟩ := I1.call' (ch := []) ho U hok3 hb (fun b z => absurd z (by simp))
  refine ⟨a, _, _, ⟨G, g2, d2, t2, os2⟩, del H2 a, .ref C, none, rfl, J, fun b o z => ?_, ge, hoe, ⟨rfl, rfl⟩, rfl, rfl, del_same, rfl, hb, T, q⟩
  by_cases hba : b = a
  · rw [hba, ge] at z
    cases z
  · exact (gk b hba).symm.trans z
end
/-- what is wanted behind __init__: a first field was stored, or none -/
def MkEnd (C a : Addr) (H1 : Hp) (Q : XK) : VK := fun v H2 => v = .non ∧ ((∃ (d : Addr) (fs : List (Str × V)), H2 a = some (exo a C (some d)) ∧ H2 d = some (exd d fs) ∧ H1 d = none ∧ Q (.ref C) (some d) (upd (del H2 a) d (.xd fs))) ∨ (H2 a = some (exo a C none) ∧ Q (.ref C) none (del H2 a)))
def tMkX (C : Addr) (sp : Sp) (ta : TA) : L2.St → Hp → XK → Prop := fun σ H Q => ta σ H fun vs H1 => vs.length ≤ 1000 ∧ ∀ a, H1 a = none → sp (.ref a :: vs) (upd H1 a (exo a C none)) (MkEnd C a H1 Q) E0
section
variable {X : Cx} {e : Expr} {es : List Expr} {ta : TA} {p pos : Pos} {B newId initId : String} {bmB : List Value} {C fI : Addr} {x : Str} {k j : Nat} {sp : Sp}
theorem make_x (T : OxC X.K C B newId initId bmB) (iC : PySem.W.findIn X.K (.ref C) "__init__" = some (some (.ref fI))) (tI : PySem.W.typeIn X.K (.ref fI) = some (.type "function"))
    (F1 : FnR X.prog X.w X.K X.mg X.base CX0 j fI sp) (hr : Room (k + 1) X.A) (hj : j ≤ k) {pins : List (Addr × Obj)} {σ : L2.St} {H1 : Hp} {s1 : Shared} {Q : XK} {us : List Value} {vs : List V} (I1 : Inv X pins σ H1 s1) (r1 : Vals vs us) (hz : vs.length ≤ 1000)
    (q1 : ∀ a, H1 a = none → sp (.ref a :: vs) (upd H1 a (exo a C none)) (MkEnd C a H1 Q) E0) : wpAny (model X.prog X.w) X.A (call (.ref C) us) (MkP X pins σ Q) X.xe s1 := by
  obtain ⟨nm, q, N, bs, bm, sn, sub, ab, col, dd, k0, k1, k2, k3, k5, hC, hbm⟩ := T.cls
  obtain ⟨hp, g, dr, tk, os⟩ := s1
  have hsz : hp.objs.size ≤ hp.objs.size + 1 := Nat.le_succ _
  have hn : H1 (hp.objs.size + 1) = none := I1.hok.fresh hsz
  have hq := q1 (hp.objs.size + 1) hn
  have kk : ∀ b o, hp.get? b = some o → ((hp.push (PySem.W.kdv_tup us)).push (PySem.HandSPX.excO C hp.objs.size)).get? b = some o := fun b o e => Heap.get?_push_of_some _ (Heap.get?_push_of_some _ e)
  have hget : ((hp.push (PySem.W.kdv_tup us)).push (PySem.HandSPX.excO C hp.objs.size)).get? (hp.objs.size + 1) = some (PySem.HandSPX.excO C hp.objs.size) := by heap_get
  have I2 : Inv X pins σ (upd H1 (hp.objs.size + 1) (exo (hp.objs.size + 1) C none)) ⟨(hp.push (PySem.W.kdv_tup us)).push (PySem.HandSPX.excO C hp.objs.size), g, dr, tk, os⟩ :=
    I1.laid (t' := tk) (a := hp.objs.size + 1) (o := exo (hp.objs.size + 1) C none) (h' := (hp.push (PySem.W.kdv_tup us)).push (PySem.HandSPX.excO C hp.objs.size)) kk hsz (exo_ok hget)
  have r2 : Vals (V.ref (hp.objs.size + 1) :: vs) (Value.ref (hp.objs.size + 1) :: us) := .cons rfl r1
  have hus : us.length ≤ sizeLine := by
    rw [← Paired.length r1, sizeLine_eq]
    omega
  refine wpAny_call (PySem.HandSPX.call_own T.base (fun Y => PySem.W.excTail_contains Y bm hbm) (I1.kIn _ _ hC) (PySem.W.looks_findIn I1.kIn iC) (fun self => PySem.W.bind_fn I1.kIn self tI) hus
    (codeAny_mono (F1 _ X.stack _ _ (Value.ref (hp.objs.size + 1) :: us) (V.ref (hp.objs.size + 1) :: vs) _ _ ((hr.mono (Nat.succ_le_succ hj)).make C us []) (I2.env0.make C us []) r2 hq) fun r s' hq' => ?_))
  cases r with
  | error er => exact False.elim hq'
  | ok fl =>
    cases fl with
    | ret u =>
      obtain ⟨v, H2, os2, bare2, un2, hok2, rv, ev, hend⟩ := hq'
      subst ev
      obtain ⟨h2, g2, d2, t2, os'⟩ := s'
      rcases hend with ⟨d, fs, ea, ed, hd1, q2⟩ | ⟨ea, q2⟩
      · exact ⟨rv, mk_end (raises_own T.exC T.tyC) I1 hsz kk un2 hok2 os2 bare2 ea ed hd1 q2⟩
      · exact ⟨rv, mk_endN (raises_own T.exC T.tyC) I1 hsz kk un2 hok2 os2 bare2 ea q2⟩
    | next => exact False.elim hq'
    | brk => exact False.elim hq'
    | cont => exact False.elim hq'
theorem pmk_x (T : OxC X.K C B newId initId bmB) (iC : PySem.W.findIn X.K (.ref C) "__init__" = some (some (.ref fI))) (tI : PySem.W.typeIn X.K (.ref fI) = some (.type "function"))
    (F1 : FnR X.prog X.w X.K X.mg X.base CX0 j fI sp) (hr : Room (k + 1) X.A) (hm : X.mg x = some (.ref C)) (ha : PA X (e :: es) ta) (hj : j ≤ k := by decide) (hg : Gl X x := by rfl)
    (hdb : (x == ("__debug__" : Str)) = false := by decide) (he : starEach (e :: es) X.env = (false, eval e X.env) :: starEach es X.env := by rfl) (hpl : (backTo pos (starEach es X.env)).any (·.1) = false := by rfl) :
    PMk X (.Call (.Name x p) (e :: es) [] pos) (tMkX C sp ta) := by
  intro pins s σ H Q I h
  refine wpAny_Call_Name_kw (ld_glob I hg hm ?_ hdb)
  refine PySem.W.callWith_K (h₀ := X.base) I.ok.mod.kin T.kC (thn (ha.run pos pins s σ H _ I h) fun us s1 ⟨vs, H1, I1, r1, hz, q1⟩ => ⟨I1.kIn, ?_⟩) he hpl
  exact make_x T iC tI F1 hr hj I1 r1 hz q1
theorem pmk_x0 (T : OxC X.K C B newId initId bmB) (iC : PySem.W.findIn X.K (.ref C) "__init__" = some (some (.ref fI))) (tI : PySem.W.typeIn X.K (.ref fI) = some (.type "function"))
    (F1 : FnR X.prog X.w X.K X.mg X.base CX0 j fI sp) (hr : Room (k + 1) X.A) (hm : X.mg x = some (.ref C)) (hj : j ≤ k := by decide) (hg : Gl X x := by rfl)
    (hdb : (x == ("__debug__" : Str)) = false := by decide) : PMk X (.Call (.Name x p) [] [] pos) (tMkX C sp tNil) := by
  intro pins s σ H Q I h
  refine wpAny_Call_Name_kw (ld_glob I hg hm ?_ hdb)
  exact PySem.W.callWith_K0 I.kIn T.kC (make_x (us := []) (vs := []) T iC tI F1 hr hj I .nil h.1 h.2)
end
end Dq
set_option maxHeartbeats 4000000
/-! A def of the text by its positional promise; the same where nothing is being shown (repr); repr of data. -/
namespace Dq
open PySem PySem.Spec PyProof.Rows L2
/-- the def st stands at f -/
structure IsFn (K : PySem.W.Frag) (x qual : Str) (st : Stmt) (f : Addr) : Prop where
  ex : ∃ (oc : Value) (od : Option Addr) (kV doc pm : Value) (an : Option Addr) (cdv ct : Value) (osl : Array (Option Value)),
    K.lookup f = some ⟨oc, od, .func (PySem.W.fnOf x qual (defArgs st) (defBody st) (defScope st) .none kV doc pm an cdv ct), osl⟩ ∧ PySem.W.codeIn K cdv qual = true
def BindOf (x qual : Str) (st : Stmt) (ps : List Str) : Prop :=
  ∀ (kV doc pm : Value) (an : Option Addr) (cdv ct : Value) (us : List Value), us.length = ps.length → bindArgs (PySem.W.fnOf x qual (defArgs st) (defBody st) (defScope st) .none kV doc pm an cdv ct) ⟨us, []⟩ = pure (ps.zip us)
section
variable {P : Program} {w : World} {K : PySem.W.Frag} {mg : Str → Option Value} {base : Heap} {x qual : Str} {st : Stmt} {f : Addr} {N ps : List Str} {k : Nat} {sp : Sp}
theorem fnX {CX : CXT} (F : IsFn K x qual st f) (S : FnScope N ps (defScope st)) (hb : BindOf x qual st ps) (len : ∀ vs H Q E, sp vs H Q E → vs.length = ps.length)
    (hbody : ∀ (cdv : Value) (A : Around) (outer : List Env) (s : Shared) (H : Hp) (vs : List V) (Q : VK) (E : XK), Room k (A.deeper (envOfC qual (defScope st) s.heap.objs.size f cdv)) → sp vs H Q E →
      ∃ t, PSs (cxOf CX P w K mg base N qual (defScope st) f cdv A outer s H E) (defBody st) t ∧ t { nx := fun _ H' => Q .non H', rt := Q } (start N vs) H) : FnR P w K mg base CX (k + 1) f sp := by
  obtain ⟨oc, od, kV, doc, pm, an, cdv, ct, osl, lk, hcd⟩ := F.ex
  have G := fn_of (CX := CX) (P := P) (w := w) (mg := mg) (base := base) (k := k) (sp := sp) lk hcd S len fun A outer s H vs Q E hr hsp => hbody cdv A outer s H vs Q E hr hsp
  intro A outer s H us vs Q E hr e0 r h
  exact G.run A outer s H ⟨us, []⟩ us vs Q E hr e0 (.of_eq (hb kV doc pm an cdv ct us (by rw [← r.length]; exact len _ _ _ _ h))) r h
/-- nothing raised leaves it -/
theorem fn0 (F : IsFn K x qual st f) (S : FnScope N ps (defScope st)) (hb : BindOf x qual st ps) (len : ∀ vs H Q E, sp vs H Q E → vs.length = ps.length)
    (hbody : ∀ (cdv : Value) (A : Around) (outer : List Env) (s : Shared) (H : Hp) (vs : List V) (Q : VK) (E : XK), Room k (A.deeper (envOfC qual (defScope st) s.heap.objs.size f cdv)) → sp vs H Q E →
      ∃ t, PSs (cxOf CX0 P w K mg base N qual (defScope st) f cdv A outer s H E).nox (defBody st) t ∧ t { nx := fun _ H' => Q .non H', rt := Q } (start N vs) H) : FnR P w K mg base CX0 (k + 1) f sp :=
  fnX F S hb len fun cdv A outer s H vs Q E hr h => let ⟨t, h1, h2⟩ := hbody cdv A outer s H vs Q E hr h; ⟨t, h1.nox, h2⟩
/-- def f(a, .., *v) -/
theorem fnStar {pv : Str} (F : IsFn K x qual st f) (S : FnScope N (ps ++ [pv]) (defScope st))
    (hb : ∀ (kV doc pm : Value) (an : Option Addr) (cdv ct : Value) (us rest : List Value), us.length = ps.length → bindArgs (PySem.W.fnOf x qual (defArgs st) (defBody st) (defScope st) .none kV doc pm an cdv ct) ⟨us ++ rest, []⟩ = (newTuple rest >>= fun t => pure (ps.zip us ++ [(pv, t)])))
    (hbody : ∀ (cdv : Value) (A : Around) (outer : List Env) (s : Shared) (H : Hp) (vs : List V) (Q : VK) (E : XK), Room k (A.deeper (envOfC qual (defScope st) s.heap.objs.size f cdv)) → sp vs H Q E →
      ∃ t, PSs (cxOf (L2.CX P w) P w K mg base N qual (defScope st) f cdv A outer s H E) (defBody st) t ∧ t { nx := fun _ H' => Q .non H', rt := Q } (start N vs) H) :
    FnR P w K mg base (L2.CX P w) (k + 1) f (fun vs H Q E => ∃ ws rest, vs = ws ++ rest ∧ ws.length = ps.length ∧ rest.length ≤ sizeLine ∧ ∀ p, H p = none → sp (ws ++ [V.ref p]) (upd H p (.tup rest)) Q E) := by
  obtain ⟨oc, od, kV, doc, pm, an, cdv, ct, osl, lk, hcd⟩ := F.ex
  exact StX.fn_star lk hcd S StX.cxUp (hb kV doc pm an cdv ct) fun A outer s H vs Q E hr h => hbody cdv A outer s H vs Q E hr h
end
/-! ### where no repr is under way -/
def FnG (P : Program) (w : World) (K : PySem.W.Frag) (mg : Str → Option Value) (base : Heap) (CX : CXT) (k : Nat) (f : Addr) (sp : Sp) : Prop :=
  ∀ (A : Around) (outer : List Env) (s : Shared) (H : Hp) (us : List Value) (vs : List V) (Q : VK) (E : XK), A.guards = some [] → Room k A → Env0 P w K mg base A outer s H → Vals vs us → sp vs H Q E → codeAny (model P w) A (.call (.ref f) ⟨us, []⟩) (CR CX outer P w H s Q E) s
structure GloG (P : Program) (w : World) (K : PySem.W.Frag) (mg : Str → Option Value) (base : Heap) (k : Nat) (x : Str) (sp : Sp) : Prop where
  ex : ∃ f, FnG P w K mg base CX0 k f sp ∧ mg x = some (.ref f) ∧ PySem.W.keepIn K (.ref f) = true
section
variable {P : Program} {w : World} {K : PySem.W.Frag} {mg : Str → Option Value} {base : Heap} {x qual : Str} {st : Stmt} {f : Addr} {N ps : List Str} {k : Nat} {sp : Sp}
theorem fnG (F : IsFn K x qual st f) (S : FnScope N ps (defScope st)) (hb : BindOf x qual st ps) (len : ∀ vs H Q E, sp vs H Q E → vs.length = ps.length)
    (hbody : ∀ (cdv : Value) (A : Around) (outer : List Env) (s : Shared) (H : Hp) (vs : List V) (Q : VK) (E : XK), (A.deeper (envOfC qual (defScope st) s.heap.objs.size f cdv)).guards = some [] → Room k (A.deeper (envOfC qual (defScope st) s.heap.objs.size f cdv)) → sp vs H Q E →
      (∃ oc od kV doc pm an ct osl, K.lookup f = some ⟨oc, od, .func (PySem.W.fnOf x qual (defArgs st) (defBody st) (defScope st) .none kV doc pm an cdv ct), osl⟩) →
      ∃ t, PSs (cxOf CX0 P w K mg base N qual (defScope st) f cdv A outer s H E).nox (defBody st) t ∧ t { nx := fun _ H' => Q .non H', rt := Q } (start N vs) H) : FnG P w K mg base CX0 (k + 1) f sp := by
  obtain ⟨oc, od, kV, doc, pm, an, cdv, ct, osl, lk, hcd⟩ := F.ex
  intro A outer s H us vs Q E hg hr e0 r h
  have hl := len _ _ _ _ h
  refine LamX.run_ofS (CX := CX0) lk hcd S hr e0 (.of_eq (hb kV doc pm an cdv ct us (by rw [← r.length]; exact hl))) r hl fun hr' => ?_
  obtain ⟨t, h1, h2⟩ := hbody cdv A outer s H vs Q E hg hr' h ⟨oc, od, kV, doc, pm, an, ct, osl, lk⟩
  exact ⟨t, h1.nox, h2⟩
end
section
variable {X : Cx} {k j : Nat} {sp : Sp} {E : XK} {x : Str} {p pos : Pos} {e : Expr} {es : List Expr} {t : TA}
theorem run_fnG {f : Addr} {pins : List (Addr × Obj)} {σ : L2.St} {H : Hp} {s : Shared} {Q : VK} {us : List Value} {vs : List V} (F : FnG X.prog X.w X.K X.mg X.base CX0 k f sp) (hg : X.A.guards = some []) (hr : Room k X.A) (I : Inv X pins σ H s) (r : Vals vs us) (h : sp vs H Q E0) :
    codeAny (model X.prog X.w) X.A (.call (.ref f) ⟨us, []⟩) (fun r s' => match r with | .ok (.ret v) => EP X pins σ Q v s' | .ok _ => False | .error e => X.xe e s') s := by
  refine codeAny_mono (F X.A X.stack s H us vs Q E0 hg hr I.env0 r h) fun r s' hq => ?_
  cases r with
  | error e => exact False.elim hq
  | ok fl =>
    cases fl with
    | ret u => exact I.after hq
    | next => exact False.elim hq
    | brk => exact False.elim hq
    | cont => exact False.elim hq
theorem pe_gG (c : GloG X.prog X.w X.K X.mg X.base j x sp) (hgd : X.A.guards = some []) (hr : Room k X.A) (ha : PA X (e :: es) t) (hj : j ≤ k := by decide) (hg : Gl X x := by rfl) (hdb : (x == ("__debug__" : Str)) = false := by decide)
    (he : starEach (e :: es) X.env = (false, eval e X.env) :: starEach es X.env := by rfl) (hpl : (backTo pos (starEach es X.env)).any (·.1) = false := by rfl) :
    PE X (.Call (.Name x p) (e :: es) [] pos) (tCallR sp E0 t) := by
  obtain ⟨f, F, hm, hk⟩ := c.ex
  refine ⟨fun pins s σ H Q I h => ?_⟩
  refine wpAny_Call_Name_kw (ld_glob I hg hm ?_ hdb)
  refine PySem.W.callWith_K (h₀ := X.base) I.ok.mod.kin hk (thn (ha.run pos pins s σ H _ I h) fun us s1 ⟨vs, H1, I1, r, q⟩ => ⟨I1.kIn, ?_⟩) he hpl
  exact wpAny_call (run_fnG F hgd (hr.mono hj) I1 r q)
/-- repr(x), x data -/
def rRepr (K : PySem.W.Frag) : List V → Hp → VK → Prop := fun xs H Q => ∃ (a : Addr) (d : PyData), xs = [.ref a] ∧ Dp K H (.ref a) d ∧ d.showable = true ∧ d.hasDict = false ∧ d.depth ≤ 50 ∧ d.shown.length ≤ sizeLine ∧ Q (.str d.shown) H
theorem call_repr (hg : X.A.guards = some []) (hr : Room k X.A) : CallR X (.builtin "repr") (rRepr X.K) := by
  intro pins s σ H xs us Q I r h
  obtain ⟨a, d, rfl, hd, h1, h2, h3, h4, q⟩ := h
  obtain ⟨u, rfl, ru⟩ := r.one
  cases (show u = Value.ref a from ru)
  obtain ⟨as, rd⟩ := Dp.reads I d _ _ hd rfl
  have hu := hr.units
  exact repr_of_reads' rd h1 (PyData.noDict_hsm h2) hg (by omega) (fun _ _ e => e) (fun h' u tk hk => ⟨.str d.shown, H, I.kept hk, ⟨u, rfl⟩, q⟩) h4
end
end Dq
set_option maxHeartbeats 4000000
/-! try: body, except X as n: suite, except Y: suite, where nothing else is raised; a def that calls the lambda it got within such a try. -/
namespace Dq
open PySem PySem.Spec PyProof.Rows L2
def wTwo (K : PySem.W.Frag) (c1 : Value) (i : Nat) (ts1 : Addr → Value → Option Addr → TS) (c2 : Value) (ts2 : Addr → Value → Option Addr → TS) (D : Ends) : WX := fun cls d σ H =>
  ∃ b, PySem.W.exmOne K cls c1 = some b ∧ (b = true → ∀ a, H a = none → ts1 a cls d { nx := fun σ' H' => D.nx (σ'.set i none) H', rt := D.rt, bk := fun σ' H' => D.bk (σ'.set i none) H', ct := fun σ' H' => D.ct (σ'.set i none) H' } (σ.set i (some (.ref a))) H) ∧
    (b = false → PySem.W.exmOne K cls c2 = some true ∧ ∀ a, H a = none → ts2 a cls d D σ H)
section
variable {X : Cx} {x n x2 : Str} {c c2 : Value} {i : Nat} {body suite suite2 : List Stmt} {b₀ b₂ : Stmt} {np pos pos' np2 pos2 : Pos} {tb : WX → TS} {ts ts2 : Addr → Value → Option Addr → TS}
theorem ps_try_two (hs : X.stack = X.env :: X.outer) (hf : X.env.frame = some X.env.locals) (hN : X.N.Nodup) (hi : X.N[i]? = some n) (hln : X.env.kindOf n = some .local) (hc : Names X x c) (hc2 : Names X x2 c2)
    (hb : ∀ (W : WX) (pn : List (Addr × Obj)) (xe : Value → Shared → Prop), Takes (X.tr pn xe) W → PassesOwn (model X.prog X.w) X.A X.env xe → PSs (X.tr pn xe) body (tb W))
    (hsu : ∀ (a : Addr) (oe : Obj) (cls : Value) (d : Option Addr) (pn : List (Addr × Obj)), Zc cls d oe → (∃ vs, oe.data = .fields vs) → PSs (X.suite a ((a, oe) :: pn)) (b₀ :: suite) (ts a cls d))
    (hsu2 : ∀ (a : Addr) (oe : Obj) (cls : Value) (d : Option Addr) (pn : List (Addr × Obj)), Zc cls d oe → (∃ vs, oe.data = .fields vs) → PSs (X.suite a ((a, oe) :: pn)) (b₂ :: suite2) (ts2 a cls d)) :
    PS X (.Try body [.ExceptHandler (some (.Name x np)) (some n) (b₀ :: suite) pos', .ExceptHandler (some (.Name x2 np2)) none (b₂ :: suite2) pos2] [] [] pos) (fun D σ H => tb (wTwo X.K c i ts c2 ts2 D) D σ H) := by
  refine ⟨fun pins s σ H D I h => ?_⟩
  have ok := I.ok
  have hfr : X.A.frames = some (X.env :: X.outer) := by rw [ok.frames, hs]
  have hloc : Loc X.env.scope n := .inl hln
  refine wpAny_Try_except ?_
  refine wpAny_mono ((hb (wTwo X.K c i ts c2 ts2 D) (X.pn ++ pins) (fun e s₁ => wpAny (model X.prog X.w) X.A (noteFrame e X.env) (fun _ s₂ => wpAny (model X.prog X.w) X.A (setFlight e none) (fun _ s₃ =>
    wpAny (model X.prog X.w) X.A (handleBy e X.env [.ExceptHandler (some (.Name x np)) (some n) (b₀ :: suite) pos', .ExceptHandler (some (.Name x2 np2)) none (b₂ :: suite2) pos2]) (SP X pins D) X.xe s₃) X.xe s₂) X.xe s₁) (fun u s' xx => ?_) PassesOwn.looking).run [] s σ H D (I.toTry _) h) (fun f s1 hsp => ?_) (fun e s1 he => he)
  · obtain ⟨a, B, sI, pins', σ', H', cls, d, rfl, J', nb, up, sky, na, os, ag, b, hb1, hyes, hno⟩ := xx
    have J : Inv X pins σ' H' sI := J'.ofTry ok
    have sky' : Sky B (X.env :: X.outer) a (Zc cls d) X.env.locals s'.heap := by rw [← hs]; exact sky
    show wpAny _ _ (noteFrame (.ref a) X.env) _ _ _
    refine Sky.land Zc.steady hfr hf sky' fun h3 fl3 up3 => ?_
    have J3 : Inv X pins σ' H' { s' with heap := h3 } := J.landed nb fl3.1 (up.trans up3) os ag
    obtain ⟨oe3, vs3, he3, hz3, hd3⟩ := fl3.there
    have nfr : a ∉ frs (X.env :: X.outer) := fun hm => by
      obtain ⟨_, o', e', hnf⟩ := fl3.2.2.1.mem hm
      rw [he3] at e'
      cases e'
      exact hnf _ hd3
    have nL : a ≠ X.env.locals := fun z => nfr (List.mem_filterMap.mpr ⟨X.env, List.mem_cons_self, by rw [hf, z]⟩)
    have nF : a ∉ X.fs := fun hm => by
      obtain ⟨e, he, q⟩ := List.mem_filterMap.mp hm
      exact nfr (List.mem_filterMap.mpr ⟨e, List.mem_cons_of_mem _ he, q⟩)
    have S3 := J3.suite he3 hd3 na nL nF
    have LT : PySem.W.Looks (model X.prog X.w) h3 (typeOf (.ref a)) cls := fun A Q E s k q => wpAny_typeOf_ref (k _ _ he3) (by rw [hz3.1]; exact q)
    have test : ∀ {y : Str} {cy : Value} {pp : Pos} {Q : Value → Shared → Prop} {E : Value → Shared → Prop}, Names X y cy → Q cy { s' with heap := h3 } → wpAny (model X.prog X.w) (X.A.mark (some (.ref a))) (eval (.Name y pp) X.env) Q E { s' with heap := h3 } := fun {y cy pp Q E} hy q => by
      obtain ⟨hg, hdbg, hm | ⟨hm, hv, hnn⟩⟩ := hy
      · exact ld_glob (X := X.suite a ((a, oe3) :: (X.pn ++ pins))) S3 hg hm q hdbg
      · exact ld_blt (X := X.suite a ((a, oe3) :: (X.pn ++ pins))) S3 hg hm hv q hnn hdbg
    refine wpAny_handleBy_cons (codeAny_handlers_test ?_) (by intro q; cases q)
    have LM := PySem.W.exm_one (M := model X.prog X.w) (J3.kIn) LT hb1
    refine test hc (LM.here ?_)
    cases b with
    | true =>
      refine codeAny_handlers_suite_as ?_
      refine HandSPX.lands_againZ fl3 fun h4 fl4 up4 => ?_
      have J4 : Inv X pins σ' H' { s' with heap := h4 } := J.landed nb fl4.1 ((up.trans up3).trans up4) os ag
      obtain ⟨oe4, vs4, he4, hz4, hd4⟩ := fl4.there
      have S4 := J4.suite he4 hd4 na nL nF
      refine store_ok (X := X.suite a ((a, oe4) :: (X.pn ++ pins))) (v := .ref a) S4 hN hi hloc rfl (fun s5 S5 => ?_) (.inr hln)
      refine wpAny_mono ((hsu a oe4 cls d (X.pn ++ pins) hz4 ⟨_, hd4⟩).run [] s5 _ H' _ S5 (hyes rfl a na)) (fun f s6 hsp => ?_) (fun _ _ z => False.elim z)
      have end_ : ∀ {σ6 : L2.St} {H6 : Hp} {Q : Shared → Prop}, Inv (X.suite a ((a, oe4) :: (X.pn ++ pins))) [] σ6 H6 s6 → (∀ s7, Inv X pins (σ6.set i none) H6 s7 → Q s7) →
          wpAny (model X.prog X.w) X.A (do bindName X.env n .none; unbindBehindTheSuite X.env n pos') (fun _ s7 => Q s7) X.xe s6 := fun {σ6 H6 Q} S6 hq => gone_ok (S6.unsuite ok) hN hi hln hq
      cases f with
      | next =>
        obtain ⟨σ6, H6, S6, q6⟩ := hsp
        exact end_ S6 fun s7 J7 => ⟨_, _, J7, q6⟩
      | brk =>
        obtain ⟨σ6, H6, S6, q6⟩ := hsp
        exact end_ S6 fun s7 J7 => ⟨_, _, J7, q6⟩
      | cont =>
        obtain ⟨σ6, H6, S6, q6⟩ := hsp
        exact end_ S6 fun s7 J7 => ⟨_, _, J7, q6⟩
      | ret u =>
        obtain ⟨v6, σ6, H6, S6, r6, q6⟩ := hsp
        exact end_ S6 fun s7 J7 => ⟨_, _, _, J7, r6, q6⟩
    | false =>
      show wpAny _ X.A (handleBy (.ref a) X.env [.ExceptHandler (some (.Name x2 np2)) none (b₂ :: suite2) pos2]) _ _ _
      obtain ⟨hb2, hsuite2⟩ := hno rfl
      refine wpAny_handleBy_cons (codeAny_handlers_test ?_) (by intro q; cases q)
      have LM2 := PySem.W.exm_one (M := model X.prog X.w) (J3.kIn) LT hb2
      refine test hc2 (LM2.here ?_)
      refine codeAny_handlers_suite ?_
      refine HandSPX.lands_againZ fl3 fun h4 fl4 up4 => ?_
      have J4 : Inv X pins σ' H' { s' with heap := h4 } := J.landed nb fl4.1 ((up.trans up3).trans up4) os ag
      obtain ⟨oe4, vs4, he4, hz4, hd4⟩ := fl4.there
      have S4 := J4.suite he4 hd4 na nL nF
      refine wpAny_mono ((hsu2 a oe4 cls d (X.pn ++ pins) hz4 ⟨_, hd4⟩).run [] _ _ H' _ S4 (hsuite2 a na)) (fun f s6 hsp => ?_) (fun _ _ z => False.elim z)
      cases f with
      | next =>
        obtain ⟨σ6, H6, S6, q6⟩ := hsp
        exact ⟨_, _, S6.unsuite ok, q6⟩
      | brk =>
        obtain ⟨σ6, H6, S6, q6⟩ := hsp
        exact ⟨_, _, S6.unsuite ok, q6⟩
      | cont =>
        obtain ⟨σ6, H6, S6, q6⟩ := hsp
        exact ⟨_, _, S6.unsuite ok, q6⟩
      | ret u =>
        obtain ⟨v6, σ6, H6, S6, r6, q6⟩ := hsp
        exact ⟨_, _, _, S6.unsuite ok, r6, q6⟩
  · cases f with
    | next =>
      obtain ⟨σ', H', J', q⟩ := hsp
      exact wpAny_execs_nil ⟨σ', H', J'.ofTry ok, q⟩
    | brk =>
      obtain ⟨σ', H', J', q⟩ := hsp
      exact ⟨σ', H', J'.ofTry ok, q⟩
    | cont =>
      obtain ⟨σ', H', J', q⟩ := hsp
      exact ⟨σ', H', J'.ofTry ok, q⟩
    | ret u =>
      obtain ⟨v, σ', H', J', r, q⟩ := hsp
      exact ⟨v, σ', H', J'.ofTry ok, r, q⟩
end
/-! ### a lambda handed to a def that calls it within such a try: what is raised is wished for at the def's slots -/
section
variable {X : Cx} {pins : List (Addr × Obj)} {σ : L2.St} {H HZ : Hp} {s s1 : Shared}
open LamX
theorem pe_actS {CXg : CXT} {Eg : XK} {Ng : List Str} {qg : Str} {sg : Scope} {g f c' : Addr} {cdg pm ctv : Value} {params : Arguments} {body : Expr} {scope : Scope} {k i : Nat} {a : Str} {pn : List (Addr × Obj)} {xe : Value → Shared → Prop} {W : WX} {tb : XK → TE} {p1 p2 : Pos}
    (I : Inv X pins σ H s) (L : LamS X.env.scope scope) (hf : s.heap.get? f = some (PySem.W.kla_obj "<lambda>" (X.env.qual ++ "<lambda>") params body scope (cloFrom X.env.cells scope.names []) pm c' ctv)) (hfn : H f = none) (hfr : f ∉ frs X.stack)
    (hbind : bindArgs (PySem.W.kla_fn "<lambda>" (X.env.qual ++ "<lambda>") params body scope (cloFrom X.env.cells scope.names []) pm (.ref c') ctv) ⟨[], []⟩ = pure [])
    (tk : Takes ((cxOf CXg X.prog X.w X.K X.mg X.base Ng qg sg g cdg X.A X.stack s H Eg).tr pn xe) W) (hr : Room (k + 1) (X.A.deeper (envOfC qg sg s.heap.objs.size g cdg)))
    (hbody : ∀ (A : Around) (outer : List Env) (s : Shared) (H : Hp) (E : XK), Room k (A.deeper (lamEnv X scope s.heap.objs.size f c')) → PE (lamCx X A outer s H E scope f c') body (tb E))
    (hN : Ng[i]? = some a) (hv : Vis sg a) (hd : (a == ("__debug__" : Str)) = false := by decide) (hcd : (a == ("__classdict__" : Str)) = false := by decide) :
    PE ((cxOf CXg X.prog X.w X.K X.mg X.base Ng qg sg g cdg X.A X.stack s H Eg).tr pn xe) (.Call (.Name a p1) [] [] p2)
      (fun σZ HZ Q => σZ[i]? = some (some (.ref f)) ∧ HZ c' = some (CodeO c' (X.env.qual ++ "<lambda>")) ∧ tb (fun cls d H' => W cls d σZ H') σ HZ Q) := by
  refine ⟨fun pinsZ sZ σZ HZ Q IZ h => ?_⟩
  obtain ⟨hs, hc, ht⟩ := h
  refine wpAny_Call_Name_kw (thn ((pe_var (pos := p1) (i := i) hN hv hd hcd).run pinsZ sZ σZ HZ (fun v H1 => v = .ref f ∧ H1 = HZ) IZ ⟨.ref f, hs, rfl, rfl⟩) fun u s1 ⟨v, H1, I1, r1, q1⟩ => ?_)
  obtain ⟨ev, eH⟩ := q1
  subst ev
  rw [eH] at I1
  obtain rfl : u = Value.ref f := r1
  have of1 : s1.heap.get? f = some (PySem.W.kla_obj "<lambda>" (X.env.qual ++ "<lambda>") params body scope (cloFrom X.env.cells scope.names []) pm c' ctv) := I1.base.keep f _ hf hfn hfr (fun z => nomatch (show f ∈ ([] : List Addr) from z))
  refine PySem.W.callWith_F0 ⟨_, _, _, _, of1⟩ ?_
  have un : Un (frs X.stack) [] H HZ s.heap s1.heap := I1.base
  obtain ⟨⟨oc, vs, t, hoc, hdc, hvc⟩, _, _⟩ := I1.hok c' _ hc
  have rc : codeAny (model X.prog X.w) (X.A.deeper (envOfC qg sg s.heap.objs.size g cdg)) (.call (.ref f) ⟨[], []⟩) (CR (L2.CX X.prog X.w) (envOfC qg sg s.heap.objs.size g cdg :: X.stack) X.prog X.w HZ s1 Q (fun cls d H' => W cls d σZ H')) s1 := by
    refine PySem.W.kla_callFunE hr.depth of1 rfl L.co L.gen rfl ⟨c', oc, vs, t, rfl, hoc, hdc, hvc⟩ ?_
    rw [hbind]
    refine wpAny_pure (wpAny_newFunctionEnv (fun y hy => (L.own y hy).2) (fun y hy => absurd hy (by simp)) (fun h₁ hns hsb => ⟨I1.nolimit.fresh _ hsb, ?_⟩) L.kind)
    show codeAny _ _ (.expr body (lamEnv X scope s1.heap.objs.size f c')) _ _
    have kp : ∀ b o, s1.heap.get? b = some o → h₁.get? b = some o := fun b o e => hsb.extBut b o (Nat.ne_of_lt (Heap.lt_size e)) (Heap.get?_push_of_some _ e)
    have J : Inv (lamCx X (X.A.deeper (envOfC qg sg s.heap.objs.size g cdg)) (envOfC qg sg s.heap.objs.size g cdg :: X.stack) s1 HZ (fun cls d H' => W cls d σZ H') scope f c') [] σ HZ { s1 with heap := h₁, toks := s1.toks + ([] : List (Str × Value)).length } :=
      lam_start2 I L I1.env0 hr.hd un hns kp
    refine PySem.W.kla_codeExpr (wpAny_mono ((hbody _ _ s1 HZ _ (hr.deeper _)).run [] _ _ HZ Q J ht) (fun v s' hq => ?_) fun e s' hq => hq)
    obtain ⟨w', H', J', rv, q⟩ := hq
    exact ⟨w', H', J'.os, J'.bare, J'.base, J'.hok, rv, q⟩
  have hx : PassesAt (L2.CX X.prog X.w) ((cxOf CXg X.prog X.w X.K X.mg X.base Ng qg sg g cdg X.A X.stack s H Eg).tr pn xe) σZ (fun cls d H' => W cls d σZ H') := passAt tk σZ
  refine wpAny_call (codeAny_mono rc fun r s' hq => ?_)
  cases r with
  | error e => exact hx pinsZ HZ s1 e s' I1 hq
  | ok fl =>
    cases fl with
    | ret u => exact I1.after hq
    | next => exact False.elim hq
    | brk => exact False.elim hq
    | cont => exact False.elim hq
end
/-- the def that calls what it got: a calls it; TT: what it makes of the lambda's reading -/
def Gives (X : Cx) (Ng : List Str) (x : Str) (sg : Scope) (g : Addr) (cdg : Value) (bg : List Stmt) (a : Str) (q : Str) (TT : (XK → Hp → VK → Prop) → Hp → VK → Prop) : Prop :=
  ∀ (f c' : Addr) (s : Shared) (H : Hp) (Q : VK) (tl : XK → Hp → VK → Prop),
    (∀ (W : WX) (pn : List (Addr × Obj)) (xe : Value → Shared → Prop) (p1 p2 : Pos), Takes ((cxOf CX0 X.prog X.w X.K X.mg X.base Ng x sg g cdg X.A X.stack s H E0).tr pn xe) W →
      PE ((cxOf CX0 X.prog X.w X.K X.mg X.base Ng x sg g cdg X.A X.stack s H E0).tr pn xe) (.Call (.Name a p1) [] [] p2) (fun σZ HZ Q => σZ[0]? = some (some (.ref f)) ∧ HZ c' = some (LamX.CodeO c' q) ∧ tl (fun cls d H' => W cls d σZ H') HZ Q)) →
    H c' = some (LamX.CodeO c' q) → TT tl H Q →
    ∃ t, PSs (cxOf CX0 X.prog X.w X.K X.mg X.base Ng x sg g cdg X.A X.stack s H E0).nox bg t ∧ t { nx := fun _ H' => Q .non H', rt := Q } (start Ng [.ref f]) H
def tLamS (T : List (Addr × Str)) (TT : (XK → Hp → VK → Prop) → Hp → VK → Prop) (t : XK → TE) : TE := fun σ H Q => LamX.Tabs T H ∧ ∀ H1, LamX.ExtN H H1 → LamX.Tabs T H1 → TT (fun E H' Q' => t E σ H' Q') H1 Q
section
variable {X : Cx}
open LamX
/-- x(lambda: body) -/
theorem pe_lamS {T : List (Addr × Str)} {TT : (XK → Hp → VK → Prop) → Hp → VK → Prop} {x a : Str} {g c P : Addr} {k : Nat} {pg : Arguments} {bg : List Stmt} {sg : Scope} {dV kV doc pm cdv ct oc : Value} {an od : Option Addr} {osl : Array (Option Value)} {Ng : List Str}
    {params : Arguments} {body : Expr} {scope : Scope} {t : XK → TE} {p lpos pos : Pos} (hm : X.mg x = some (.ref g)) (hk : PySem.W.keepIn X.K (.ref g) = true)
    (lk : X.K.lookup g = some ⟨oc, od, .func (PySem.W.fnOf x x pg bg sg dV kV doc pm an cdv ct), osl⟩) (hcg : PySem.W.codeIn X.K cdv x = true) (hb : L2.Binds X.K (PySem.W.fnOf x x pg bg sg dV kV doc pm an cdv ct) [a] []) (Sg : FnScope Ng [a] sg) (hNg : Ng[0]? = some a) (hva : Vis sg a)
    (hG : Gives X Ng x sg g cdv bg a (X.env.qual ++ "<lambda>") TT)
    (TB : TabB X.base X.mg c P) (hcode : X.env.code = .ref c) (hmT : (P, X.env.qual ++ "<lambda>") ∈ T) (hu : ∀ p ∈ T, p.1 = P → p.2 = X.env.qual ++ "<lambda>") (hr : Room (k + 2) X.A) (L : LamS X.env.scope scope) (hdef : defaultsOf params X.env = ([], []))
    (hbind : ∀ (q : Str) (cl : List (Str × Addr)) (pm cv ctv : Value), bindArgs (PySem.W.kla_fn "<lambda>" q params body scope cl pm cv ctv) ⟨[], []⟩ = pure [])
    (hbody : ∀ (A : Around) (outer : List Env) (s : Shared) (H : Hp) (E : XK) (f c' : Addr), Room k (A.deeper (lamEnv X scope s.heap.objs.size f c')) → PE (lamCx X A outer s H E scope f c') body (t E))
    (hg : Gl X x := by rfl) (hdb : (x == ("__debug__" : Str)) = false := by decide) (hd : (a == ("__debug__" : Str)) = false := by decide) (hcd : (a == ("__classdict__" : Str)) = false := by decide) :
    PE X (.Call (.Name x p) [.Lambda params body scope lpos] [] pos) (tLamS T TT t) := by
  refine ⟨fun pins s σ H Q I h => ?_⟩
  obtain ⟨hT, h⟩ := h
  refine wpAny_Call_Name_kw (ld_glob I hg hm ?_ hdb)
  refine PySem.W.callWith_K (h₀ := X.base) I.ok.mod.kin hk ?_ (by rfl) (by rfl)
  show wpAny _ _ (spliced ((false, eval (.Lambda params body scope lpos) X.env) :: backTo pos (starEach [] X.env))) _ _ s
  refine Calls.spliced_cons (lam_make2 I TB hcode hmT hu hT hdef (L.has I.ok) fun f c' pm' ctv H1 s' I1 eN T1 hf hfn hfr hco => ?_)
  refine Calls.spliced_nil ⟨I1.kIn, ?_⟩
  have rc : codeAny (model X.prog X.w) X.A (.call (.ref g) ⟨[.ref f], []⟩) (CR CX0 X.stack X.prog X.w H1 s' Q E0) s' := by
    refine run_ofS (N := Ng) (ps := [a]) (us := [.ref f]) (vs := [.ref f]) lk hcg Sg hr I1.env0 (hb s' [.ref f] I1.kIn rfl) (.cons rfl .nil) rfl fun hr' => ?_
    obtain ⟨t', ht', hq'⟩ := hG f c' s' H1 Q (fun E H' Q' => t E σ H' Q') (fun W pn xe p1 p2 tk => pe_actS (i := 0) (tb := t) I1 L hf hfn hfr (hbind _ _ _ _ _) tk hr' (fun A outer s H E hr2 => hbody A outer s H E f c' hr2) hNg hva hd hcd) hco (h H1 eN T1)
    exact ⟨t', ht'.nox, hq'⟩
  refine wpAny_call (codeAny_mono rc fun r s2 hq => ?_)
  cases r with
  | error e => exact (show False from hq).elim
  | ok fl =>
    cases fl with
    | ret u => exact I1.after hq
    | next => exact False.elim hq
    | brk => exact False.elim hq
    | cont => exact False.elim hq
end
/-! ### _law_told -/
/-- ['told', the lambda's value], or ['fails', the error's value], or ['nothing', None] -/
def TTold (CF CN : Addr) : (XK → Hp → VK → Prop) → Hp → VK → Prop := fun tl H Q => ∀ (E1 : XK) (Q1 : VK),
  (∀ v H', (∀ p, H' p = none → Q (.ref p) (upd H' p (.lst [.str "told", v]))) → Q1 v H') →
  (∀ dd v H', H' dd = some (.xd [("value", v)]) → (∀ p, H' p = none → Q (.ref p) (upd H' p (.lst [.str "fails", v]))) → E1 (.ref CF) (some dd) H') →
  (∀ d H', (∀ p, H' p = none → Q (.ref p) (upd H' p (.lst [.str "nothing", .non]))) → E1 (.ref CN) d H') → tl E1 H Q1
theorem scTold : FnScope ["_law_door", "_law_kept", "e"] ["_law_door"] (defScope sTold) := ⟨rfl, rfl, rfl, by decide +kernel, rfl, by decide +kernel, by decide +kernel⟩
structure ToldTxt (K : PySem.W.Frag) (mg : Str → Option Value) (CF CN : Addr) : Prop where
  gF : mg "Fails" = some (.ref CF)
  gN : mg "NothingLeft" = some (.ref CN)
  ff : PySem.W.exmOne K (.ref CF) (.ref CF) = some true
  nf : PySem.W.exmOne K (.ref CN) (.ref CF) = some false
  nn : PySem.W.exmOne K (.ref CN) (.ref CN) = some true
  xf : XfC K CF
  nv : PySem.W.findIn K (.ref CF) "value" = some none
theorem told_gives {X : Cx} {g CF CN : Addr} {cdg : Value} {q : Str} (T : ToldTxt X.K X.mg CF CN) :
    Gives X ["_law_door", "_law_kept", "e"] "_law_told" (defScope sTold) g cdg (defBody sTold) "_law_door" q (TTold CF CN) := by
  intro f c' s H Q tl act hc h
  refine ⟨_, pss_cons (ps_set (i := 1) scTold.nd rfl (Or.inl rfl) pe_non) (pss_cons
    (ps_try_two (i := 2) (c := .ref CF) (c2 := .ref CN) (tb := fun W => tAsg (tLst (tCons (tC (.str "told")) (tCons (fun σZ HZ Q => σZ[0]? = some (some (.ref f)) ∧ HZ c' = some (LamX.CodeO c' q) ∧ tl (fun cls d H' => W cls d σZ H') HZ Q) tNil))) (gName 1))
      (ts := fun a cls d => tAsg (tLst (tCons (tC (.str "fails")) (tCons (tXf a cls d CF "value" (tVar 2)) tNil))) (gName 1)) (ts2 := fun _ _ _ => tAsg (tLst (tCons (tC (.str "nothing")) (tCons (tC .non) tNil))) (gName 1))
      rfl rfl scTold.nd rfl rfl ⟨rfl, by decide, Or.inl T.gF⟩ ⟨rfl, by decide, Or.inl T.gN⟩ (fun W pn xe tk _ => pss_one (ps_set (i := 1) scTold.nd rfl (Or.inl rfl) (pe_lst (pa_cons pe_str (pa_cons (act W pn xe _ _ tk) pa_nil)))))
      (fun a oe cls d pn hz hf => pss_one (ps_set (i := 1) scTold.nd rfl (Or.inl rfl) (pe_lst (pa_cons pe_str (pa_cons (pe_xf T.xf T.nv hz hf (pv 2)) pa_nil)))))
      (fun a oe cls d pn hz hf => pss_one (ps_set (i := 1) scTold.nd rfl (Or.inl rfl) (pe_lst (pa_cons pe_str (pa_cons pe_non pa_nil))))))
    (pss_one (ps_ret (pv 1)))), ?_⟩
  refine ⟨rfl, hc, h _ _ (fun v H' k => ⟨by show 2 ≤ sizeLine; decide, fun p hp => ⟨_, rfl, k p hp⟩⟩) (fun dd v H' hd k => ?_) (fun d H' k => ?_)⟩
  · refine ⟨true, T.ff, fun _ a ha => ?_, fun z => Bool.noConfusion z⟩
    exact ⟨_, rfl, rfl, rfl, dd, _, v, rfl, hd, rfl, by show 2 ≤ sizeLine; decide, fun p hp => ⟨_, rfl, k p hp⟩⟩
  · refine ⟨false, T.nf, fun z => Bool.noConfusion z, fun _ => ⟨T.nn, fun a ha => ?_⟩⟩
    exact ⟨by show 2 ≤ sizeLine; decide, fun p hp => ⟨_, rfl, k p hp⟩⟩
end Dq
/-! The program as plain functions: steps, rows, sessions. -/
namespace Dq
open PySem
structure Stp where
  put : Bool
  left : Bool
  item : Int
deriving DecidableEq
/-- a row behind a step -/
def stepped (r : List Int) (s : Stp) : Option (List Int) :=
  if s.put = true then some (if s.left = true then s.item :: r else r ++ [s.item])
  else if s.left = true then (if r.head? = some s.item then some r.tail else none)
  else (if r.getLast? = some s.item then some r.dropLast else none)
/-- Session.after -/
def aft (lim : Nat) (r : List Int) (s : Stp) : Option (List Int) := if (s.put && decide (lim ≤ r.length)) = true then none else stepped r s
/-- .. of either class -/
def after (k : Bool) (lim : Nat) (r : List Int) (s : Stp) : Option (List Int) := if (k && decide (aft lim r s = some [])) = true then none else aft lim r s
/-- the steps of a call: the row behind them, or the number of the one that fails -/
def perf (k : Bool) (lim : Nat) : Nat → List Int → List Stp → Except Nat (List Int)
  | _, r, [] => .ok r
  | i, r, s :: t => match after k lim r s with
    | none => .error i
    | some r' => perf k lim (i + 1) r' t
/-- _law_tried -/
def tried (k : Bool) : Nat → List Int → List Stp → Except Nat (List Int)
  | _, r, [] => .ok r
  | i, r, s :: t => match stepped r s with
    | none => .error i
    | some r' => if (k && decide (r' = [])) = true then .error i else tried k (i + 1) r' t
/-- _law_led -/
def led : List Int → List Stp → Option (List Int)
  | r, [] => some r
  | r, s :: t => match stepped r s with
    | none => none
    | some r' => led r' t
structure Call where
  user : Str
  steps : List Stp
  row : List Int
structure Se where
  kept : Bool
  row : List Int
  lim : Nat
  done : List Call
  undone : List Call
def Se.log (s : Se) : List (Str × List Stp) := s.done.map fun c => (c.user, c.steps)
def mkSe (k : Bool) (r : List Int) : Se := ⟨k, r, 200, [], []⟩
/-- do that does not fail, behind which the row is r -/
def Se.did (s : Se) (u : Str) (ss : List Stp) (r : List Int) : Se := { s with row := r, done := s.done ++ [⟨u, ss, s.row⟩], undone := [] }
/-- undo, redo of the call c, the last of rest ++ [c] -/
def Se.undid (s : Se) (rest : List Call) (c : Call) : Se := { s with row := c.row, done := rest, undone := s.undone ++ [⟨c.user, c.steps, s.row⟩] }
def Se.redid (s : Se) (rest : List Call) (c : Call) : Se := { s with row := c.row, undone := rest, done := s.done ++ [⟨c.user, c.steps, s.row⟩] }
theorem stepped_len {r r' : List Int} {s : Stp} (h : stepped r s = some r') : r'.length ≤ r.length + 1 := by
  unfold stepped at h
  split at h
  · cases h
    split <;> simp
  · split at h
    · split at h
      · cases h
        simp
        omega
      · cases h
    · split at h
      · cases h
        simp
        omega
      · cases h
theorem after_kept {k : Bool} {lim : Nat} {r r' : List Int} {s : Stp} (h : after k lim r s = some r') : stepped r s = some r' ∧ (k = true → r' ≠ []) := by
  unfold after at h
  split at h
  · cases h
  · rename_i q
    have h0 := h
    unfold aft at h
    split at h
    · cases h
    · refine ⟨h, fun hk z => q ?_⟩
      rw [h0, hk, z]
      simp
theorem after_free {k : Bool} {lim : Nat} {r : List Int} {s : Stp} (hl : r.length < lim) : after k lim r s = (match stepped r s with | none => none | some r' => if (k && decide (r' = [])) = true then none else some r') := by
  have e : aft lim r s = stepped r s := by
    unfold aft
    rw [if_neg]
    simp
    omega
  unfold after
  rw [e]
  cases h : stepped r s with
  | none => simp
  | some r' =>
    by_cases hk : k = true <;> by_cases hr : r' = [] <;> simp [hk, hr]
/-- far from the limit a call goes as the law tries it -/
theorem perf_tried (k : Bool) (lim : Nat) : ∀ (ss : List Stp) (i : Nat) (r : List Int), r.length + ss.length ≤ lim → perf k lim i r ss = tried k i r ss
  | [], _, _, _ => rfl
  | s :: t, i, r, h => by
    rw [List.length_cons] at h
    unfold perf tried
    rw [after_free (by omega)]
    cases e : stepped r s with
    | none => rfl
    | some r' =>
      have hl := stepped_len e
      dsimp only
      split
      · rename_i q
        split at q
        · rename_i q2
          rw [if_pos q2]
        · cases q
      · rename_i r2 q
        split at q
        · cases q
        · rename_i q2
          cases q
          rw [if_neg q2]
          exact perf_tried k lim t (i + 1) r' (by omega)
theorem perf_led {k : Bool} {lim : Nat} : ∀ {ss : List Stp} {i : Nat} {r r' : List Int}, perf k lim i r ss = .ok r' → led r ss = some r'
  | [], _, _, _, h => by
    cases h
    rfl
  | s :: t, i, r, r', h => by
    unfold perf at h
    split at h
    · cases h
    · rename_i r1 q
      unfold led
      rw [(after_kept q).1]
      exact perf_led h
/-- what a kept session did, any session does -/
theorem perf_any {k : Bool} {lim : Nat} : ∀ {ss : List Stp} {i : Nat} {r r' : List Int}, perf k lim i r ss = .ok r' → perf false lim i r ss = .ok r'
  | [], _, _, _, h => h
  | s :: t, i, r, r', h => by
    unfold perf at h ⊢
    cases q : after k lim r s with
    | none =>
      rw [q] at h
      cases h
    | some r1 =>
      rw [q] at h
      have e : after false lim r s = some r1 := by
        unfold after at q ⊢
        split at q
        · cases q
        · rw [if_neg (by simp)]
          exact q
      rw [e]
      exact perf_any h
theorem perf_len {k : Bool} {lim : Nat} : ∀ {ss : List Stp} {i : Nat} {r r' : List Int}, perf k lim i r ss = .ok r' → r'.length ≤ r.length + ss.length
  | [], _, _, _, h => by
    cases h
    simp
  | s :: t, i, r, r', h => by
    unfold perf at h
    split at h
    · cases h
    · rename_i r1 q
      have h1 := stepped_len (after_kept q).1
      have h2 := perf_len h
      rw [List.length_cons]
      omega
theorem perf_full {lim : Nat} : ∀ {ss : List Stp} {i : Nat} {r r' : List Int}, r ≠ [] → perf true lim i r ss = .ok r' → r' ≠ []
  | [], _, _, _, hr, h => by
    cases h
    exact hr
  | s :: t, i, r, r', hr, h => by
    unfold perf at h
    split at h
    · cases h
    · rename_i r1 q
      exact perf_full ((after_kept q).2 rfl) h
theorem perf_err {k : Bool} {lim : Nat} : ∀ {ss : List Stp} {i j : Nat} {r : List Int}, perf k lim i r ss = .error j → j < i + ss.length
  | [], _, _, _, h => by cases h
  | s :: t, i, j, r, h => by
    unfold perf at h
    rw [List.length_cons]
    split at h
    · cases h
      omega
    · rename_i r1 q
      have := perf_err h
      omega
/-- the calls of a log, one behind another, from a row to a row -/
inductive Chain (k : Bool) (lim : Nat) : List Int → List Call → List Int → Prop
  | nil {r : List Int} : Chain k lim r [] r
  | snoc {r0 : List Int} {cs : List Call} {c : Call} {r : List Int} : Chain k lim r0 cs c.row → perf k lim 0 c.row c.steps = .ok r → Chain k lim r0 (cs ++ [c]) r
theorem Chain.any {k : Bool} {lim : Nat} {r0 r : List Int} {cs : List Call} (h : Chain k lim r0 cs r) : Chain false lim r0 cs r := by
  induction h with
  | nil => exact .nil
  | snoc _ h2 ih => exact .snoc ih (perf_any h2)
/-- all rows of a chain -/
def Chain.len {k : Bool} {lim : Nat} {r0 r : List Int} {cs : List Call} (h : Chain k lim r0 cs r) : r.length ≤ r0.length + (cs.map fun c => c.steps.length).sum := by
  induction h with
  | nil => simp
  | snoc _ h2 ih =>
    have := perf_len h2
    simp
    omega
theorem Chain.full {lim : Nat} {r0 r : List Int} {cs : List Call} (h : Chain true lim r0 cs r) (h0 : r0 ≠ []) : r ≠ [] := by
  induction h with
  | nil => exact h0
  | snoc _ h2 ih => exact perf_full ih h2
end Dq
set_option maxHeartbeats 4000000
/-! What stands in the heap: G, what never changes again; S, what may, by owner. -/
namespace Dq
open PySem PySem.Spec PyProof.Rows L2
def txtP (b : Bool) : Str := if b then "put" else "take"
def txtL (b : Bool) : Str := if b then "left" else "right"
def stpV (s : Stp) : List V := [.str (txtP s.put), .str (txtL s.left), .int s.item]
def IsRow (H : Hp) (a : Addr) (r : List Int) : Prop := H a = some (.lst (r.map V.int))
def IsStp (H : Hp) (a : Addr) (s : Stp) : Prop := H a = some (.tup (stpV s))
def IsStps (H : Hp) (a : Addr) (ss : List Stp) : Prop := ∃ rs : List Addr, H a = some (.lst (rs.map V.ref)) ∧ Paired (IsStp H) rs ss
def IsCall (H : Hp) (a : Addr) (c : Call) : Prop := ∃ b r, H a = some (.tup [.str c.user, .ref b, .ref r]) ∧ IsStps H b c.steps ∧ IsRow H r c.row
section
variable {H H' : Hp} {a : Addr}
theorem IsRow.mono {r : List Int} (h : IsRow H a r) (e : Same H H') : IsRow H' a r := e _ _ h
theorem IsStp.mono {s : Stp} (h : IsStp H a s) (e : Same H H') : IsStp H' a s := e _ _ h
theorem stps_mono {rs : List Addr} {ss : List Stp} (h : Paired (IsStp H) rs ss) (e : Same H H') : Paired (IsStp H') rs ss := Paired.mapP h fun _ _ q => q.mono e
theorem IsStps.mono {ss : List Stp} (h : IsStps H a ss) (e : Same H H') : IsStps H' a ss := let ⟨rs, h1, h2⟩ := h; ⟨rs, e _ _ h1, stps_mono h2 e⟩
theorem IsCall.mono {c : Call} (h : IsCall H a c) (e : Same H H') : IsCall H' a c := let ⟨b, r, h1, h2, h3⟩ := h; ⟨b, r, e _ _ h1, h2.mono e, h3.mono e⟩
theorem calls_mono {rs : List Addr} {cs : List Call} (h : Paired (IsCall H) rs cs) (e : Same H H') : Paired (IsCall H') rs cs := Paired.mapP h fun _ _ q => q.mono e
end
/-! ### the world -/
abbrev Own := Addr → Option (Addr × HO)
def updS (S : Own) (a w : Addr) (o : HO) : Own := fun b => if b = a then some (w, o) else S b
theorem updS_same {S : Own} {a w : Addr} {o : HO} : updS S a w o a = some (w, o) := by unfold updS; rw [if_pos rfl]
theorem updS_ne {S : Own} {a b w : Addr} {o : HO} (h : b ≠ a) : updS S a w o b = S b := by unfold updS; rw [if_neg h]
/-- lists, tuples, instances -/
def Pl : HO → Prop
  | .lst _ => True
  | .tup _ => True
  | .ins _ _ _ => True
  | .frz _ _ => True
  | _ => False
structure Wd (T : List (Addr × Str)) (G : Hp) (S : Own) (H : Hp) : Prop where
  g : ∀ a o, G a = some o → H a = some o ∧ Pl o
  s : ∀ a w o, S a = some (w, o) → H a = some o ∧ Pl o ∧ G a = none
  t : LamX.Tabs T H
theorem same_upd {H : Hp} {p : Addr} {o : HO} (h : H p = none) : Same H (upd H p o) := fun b u e => by rw [upd_ne (ne_of_none e h)]; exact e
/-- an object of the heap changes, tables stand -/
theorem tabs_upd {T : List (Addr × Str)} {H : Hp} {a : Addr} {o u : HO} (t : LamX.Tabs T H) (h : H a = some o) (po : Pl o) : LamX.Tabs T (upd H a u) := fun p hp => by
  obtain ⟨ps, h1, h2, h3⟩ := t p hp
  have ne : ∀ {b : Addr} {v : HO}, H b = some v → ¬ Pl v → b ≠ a := fun {b v} e n z => by
    rw [z, h] at e
    cases e
    exact n po
  refine ⟨ps, by rw [upd_ne (ne h1 fun z => z)]; exact h1, h2, fun pos cv hc => ?_⟩
  obtain ⟨c, e1, e2⟩ := h3 pos cv hc
  exact ⟨c, e1, by rw [upd_ne (ne e2 fun z => z)]; exact e2⟩
section
variable {T : List (Addr × Str)} {G G' H H' : Hp} {S S' : Own} {a p w : Addr} {o o' : HO}
theorem Wd.grow (W : Wd T G S H) (e : Same H H') : Wd T G S H' := ⟨fun a o h => ⟨e _ _ (W.g a o h).1, (W.g a o h).2⟩, fun a w o h => ⟨e _ _ (W.s a w o h).1, (W.s a w o h).2⟩, W.t.ext e⟩
theorem Wd.same (W : Wd T G S H) : Same G H := fun a o h => (W.g a o h).1
theorem Wd.tab (W : Wd T G S H) (e : LamX.ExtN H H') (t : LamX.Tabs T H') : Wd T G S H' := by
  have k : ∀ {a : Addr} {o : HO}, H a = some o → Pl o → H' a = some o := fun {a o} h p => e a o h fun ps z => by rw [z] at p; exact p
  exact ⟨fun a o h => ⟨k (W.g a o h).1 (W.g a o h).2, (W.g a o h).2⟩, fun a w o h => ⟨k (W.s a w o h).1 (W.s a w o h).2.1, (W.s a w o h).2⟩, t⟩
theorem Wd.noG (W : Wd T G S H) (h : H p = none) : G p = none := by
  cases e : G p with
  | none => rfl
  | some o =>
    rw [(W.g p o e).1] at h
    cases h
theorem Wd.noS (W : Wd T G S H) (h : H p = none) : S p = none := by
  cases e : S p with
  | none => rfl
  | some q =>
    rw [(W.s p q.1 q.2 e).1] at h
    cases h
/-- an object of the heap that is neither G's nor S's is G's from now on -/
theorem Wd.add (W : Wd T G S H) (h : H p = some o) (po : Pl o) (hg : G p = none) (hs : S p = none) : Wd T (upd G p o) S H ∧ Same G (upd G p o) := by
  refine ⟨⟨fun a u e => ?_, fun a w u e => ?_, W.t⟩, same_upd hg⟩
  · by_cases q : a = p
    · rw [q, upd_same] at e
      cases e
      rw [q]
      exact ⟨h, po⟩
    · rw [upd_ne q] at e
      exact W.g a u e
  · obtain ⟨e1, e2, e3⟩ := W.s a w u e
    have q : a ≠ p := fun z => by
      rw [z, hs] at e
      cases e
    exact ⟨e1, e2, by rw [upd_ne q]; exact e3⟩
theorem Wd.new (W : Wd T G S H) (h : H p = none) (po : Pl o) : Wd T (upd G p o) S (upd H p o) ∧ Same G (upd G p o) :=
  (W.grow (same_upd h)).add upd_same po (W.noG h) (W.noS h)
/-- .. made by a call that only makes objects -/
theorem Wd.got (W : Wd T G S H) (e : Same H H') (h : H p = none) (h' : H' p = some o) (po : Pl o) : Wd T (upd G p o) S H' ∧ Same G (upd G p o) :=
  (W.grow e).add h' po (W.noG h) (W.noS h)
theorem Wd.addS (W : Wd T G S H) (h : H p = some o) (po : Pl o) (hg : G p = none) (w : Addr) (hs : S p = none) : Wd T G (updS S p w o) H := by
  refine ⟨W.g, fun a v u e => ?_, W.t⟩
  by_cases q : a = p
  · rw [q, updS_same] at e
    cases e
    rw [q]
    exact ⟨h, po, hg⟩
  · rw [updS_ne q] at e
    exact W.s a v u e
theorem Wd.newS (W : Wd T G S H) (h : H p = none) (po : Pl o) (w : Addr) : Wd T G (updS S p w o) (upd H p o) := (W.grow (same_upd h)).addS upd_same po (W.noG h) w (W.noS h)
/-- what may change does -/
theorem Wd.wr (W : Wd T G S H) (h : S a = some (w, o)) (po : Pl o') : Wd T G (updS S a w o') (upd H a o') := by
  obtain ⟨h1, h2, h3⟩ := W.s a w o h
  refine ⟨fun b u e => ?_, fun b v u e => ?_, tabs_upd W.t h1 h2⟩
  · have q : b ≠ a := fun z => by
      rw [z, h3] at e
      cases e
    rw [upd_ne q]
    exact W.g b u e
  · by_cases q : b = a
    · rw [q, updS_same] at e
      cases e
      rw [q]
      exact ⟨upd_same, po, h3⟩
    · rw [updS_ne q] at e
      rw [upd_ne q]
      exact W.s b v u e
/-- a list that nobody changes any more -/
def dropS (S : Own) (a : Addr) : Own := fun b => if b = a then none else S b
theorem Wd.freeze (W : Wd T G S H) (h : S a = some (w, o)) : Wd T (upd G a o) (dropS S a) H ∧ Same G (upd G a o) := by
  obtain ⟨h1, h2, h3⟩ := W.s a w o h
  have W' : Wd T G (dropS S a) H := ⟨W.g, fun b v u e => by
    unfold dropS at e
    split at e
    · cases e
    · exact W.s b v u e, W.t⟩
  exact W'.add h1 h2 h3 (if_pos rfl)
end
/-- what others own stands -/
def Fr (xs : List Addr) (S S' : Own) : Prop := ∀ a w o, w ∉ xs → S a = some (w, o) → S' a = some (w, o)
section
variable {xs ys : List Addr} {S S' S1 S2 : Own} {a p w : Addr} {o : HO} {T : List (Addr × Str)} {G H : Hp}
theorem Fr.refl : Fr xs S S := fun _ _ _ _ h => h
theorem Fr.trans (f : Fr xs S S1) (g : Fr xs S1 S2) : Fr xs S S2 := fun a w o n h => g a w o n (f a w o n h)
theorem Fr.mono (f : Fr xs S S1) (h : ∀ x ∈ xs, x ∈ ys) : Fr ys S S1 := fun a w o n e => f a w o (fun z => n (h _ z)) e
theorem Fr.upd (h : S a = some (w, o)) (hw : w ∈ xs) {u : HO} : Fr xs S (updS S a w u) := fun b v z n e => by
  by_cases q : b = a
  · rw [q, h] at e
    cases e
    exact absurd hw n
  · rw [updS_ne q]
    exact e
theorem Fr.new (h : S p = none) {u : HO} : Fr xs S (updS S p w u) := fun b v z n e => by
  by_cases q : b = p
  · rw [q, h] at e
    cases e
  · rw [updS_ne q]
    exact e
theorem Fr.drop (h : S a = some (w, o)) (hw : w ∈ xs) : Fr xs S (dropS S a) := fun b v z n e => by
  by_cases q : b = a
  · rw [q, h] at e
    cases e
    exact absurd hw n
  · show (if b = a then none else S b) = _
    rw [if_neg q]
    exact e
end
/-! ### a session -/
def sfs (ra : Addr) (lim : Nat) (da ua : Addr) : List (Str × V) := [("own_row", .ref ra), ("own_limit", .int lim), ("done", .ref da), ("undone", .ref ua)]
structure Ses (CS CK : Addr) (G : Hp) (S : Own) (x : Addr) (s : Se) : Prop where
  ex : ∃ (dx ra da ua : Addr) (dr ur : List Addr), S x = some (x, .ins (cof CS CK s.kept) dx (sfs ra s.lim da ua)) ∧ S da = some (x, .lst (dr.map V.ref)) ∧ S ua = some (x, .lst (ur.map V.ref)) ∧ da ≠ ua ∧
    IsRow G ra s.row ∧ Paired (IsCall G) dr s.done ∧ Paired (IsCall G) ur s.undone
theorem Ses.mono {CS CK x : Addr} {G G' : Hp} {S S' : Own} {s : Se} (h : Ses CS CK G S x s) (e : Same G G') (f : ∀ a o, S a = some (x, o) → S' a = some (x, o)) : Ses CS CK G' S' x s := by
  obtain ⟨dx, ra, da, ua, dr, ur, h1, h2, h3, h4, h5, h6, h7⟩ := h.ex
  exact ⟨dx, ra, da, ua, dr, ur, f _ _ h1, f _ _ h2, f _ _ h3, h4, h5.mono e, calls_mono h6 e, calls_mono h7 e⟩
theorem Ses.fr {CS CK x : Addr} {G G' : Hp} {S S' : Own} {s : Se} {xs : List Addr} (h : Ses CS CK G S x s) (e : Same G G') (f : Fr xs S S') (hx : x ∉ xs) : Ses CS CK G' S' x s := h.mono e fun a o q => f a x o hx q
section
variable {ra ra' da da' ua ua' : Addr} {lim lim' : Nat}
theorem sfs_row : (sfs ra lim da ua).lookup ("own_row" : Str) = some (V.ref ra) := by kernel_rfl
theorem sfs_lim : (sfs ra lim da ua).lookup ("own_limit" : Str) = some (V.int lim) := by kernel_rfl
theorem sfs_done : (sfs ra lim da ua).lookup ("done" : Str) = some (V.ref da) := by kernel_rfl
theorem sfs_undone : (sfs ra lim da ua).lookup ("undone" : Str) = some (V.ref ua) := by kernel_rfl
theorem put_row : putF (Str.ofString "own_row") (.ref ra') (sfs ra lim da ua) = sfs ra' lim da ua := by kernel_rfl
theorem put_lim : putF (Str.ofString "own_limit") (.int lim') (sfs ra lim da ua) = sfs ra lim' da ua := by kernel_rfl
theorem put_done : putF (Str.ofString "done") (.ref da') (sfs ra lim da ua) = sfs ra lim da' ua := by kernel_rfl
theorem put_undone : putF (Str.ofString "undone") (.ref ua') (sfs ra lim da ua) = sfs ra lim da ua' := by kernel_rfl
theorem put_new : putF (Str.ofString "undone") (.ref ua) (putF (Str.ofString "done") (.ref da) (putF (Str.ofString "own_limit") (.int lim) (putF (Str.ofString "own_row") (.ref ra) []))) = sfs ra lim da ua := by kernel_rfl
end
end Dq
set_option maxHeartbeats 4000000
/-! Data: rows, steps, logs as PyData; equality and the length of what is shown. -/
namespace Dq
open PySem PySem.Spec PyProof.Rows L2
mutual
/-- no bools, no dicts -/
def nob : PyData → Bool
  | .none | .int _ | .str _ => true
  | .bool _ | .dict _ => false
  | .list xs | .tuple xs => nobAll xs
def nobAll : List PyData → Bool
  | [] => true
  | x :: xs => nob x && nobAll xs
end
mutual
theorem eqv_nob : ∀ (d e : PyData), nob d = true → nob e = true → PyData.eqv d e = true → d = e
  | .none, .none, _, _, _ => rfl
  | .int i, .int j, _, _, h => by simp only [PyData.eqv] at h; rw [eq_of_beq h]
  | .str i, .str j, _, _, h => by simp only [PyData.eqv] at h; rw [eq_of_beq h]
  | .list xs, .list ys, a, b, h => by
    simp only [nob] at a b
    simp only [PyData.eqv] at h
    rw [eqv_nobAll xs ys a b h]
  | .tuple xs, .tuple ys, a, b, h => by
    simp only [nob] at a b
    simp only [PyData.eqv] at h
    rw [eqv_nobAll xs ys a b h]
  | .bool _, _, a, _, _ => by simp [nob] at a
  | .dict _, _, a, _, _ => by simp [nob] at a
  | .none, .int _, _, _, h | .none, .str _, _, _, h | .none, .list _, _, _, h | .none, .tuple _, _, _, h | .none, .dict _, _, _, h | .none, .bool _, _, _, h => by simp [PyData.eqv] at h
  | .int _, .none, _, _, h | .int _, .str _, _, _, h | .int _, .list _, _, _, h | .int _, .tuple _, _, _, h | .int _, .dict _, _, _, h => by simp [PyData.eqv] at h
  | .str _, .none, _, _, h | .str _, .int _, _, _, h | .str _, .list _, _, _, h | .str _, .tuple _, _, _, h | .str _, .dict _, _, _, h | .str _, .bool _, _, _, h => by simp [PyData.eqv] at h
  | .list _, .none, _, _, h | .list _, .int _, _, _, h | .list _, .str _, _, _, h | .list _, .tuple _, _, _, h | .list _, .dict _, _, _, h | .list _, .bool _, _, _, h => by simp [PyData.eqv] at h
  | .tuple _, .none, _, _, h | .tuple _, .int _, _, _, h | .tuple _, .str _, _, _, h | .tuple _, .list _, _, _, h | .tuple _, .dict _, _, _, h | .tuple _, .bool _, _, _, h => by simp [PyData.eqv] at h
  | .int _, .bool _, _, b, _ => by simp [nob] at b
theorem eqv_nobAll : ∀ (d e : List PyData), nobAll d = true → nobAll e = true → PyData.eqvAll d e = true → d = e
  | [], [], _, _, _ => rfl
  | x :: xs, y :: ys, a, b, h => by
    simp only [nobAll, Bool.and_eq_true] at a b
    simp only [PyData.eqvAll, Bool.and_eq_true] at h
    rw [eqv_nob x y a.1 b.1 h.1, eqv_nobAll xs ys a.2 b.2 h.2]
  | [], _ :: _, _, _, h => by simp [PyData.eqvAll] at h
  | _ :: _, [], _, _, h => by simp [PyData.eqvAll] at h
end
/-- data that is compared and shown -/
structure Fine (e n : Nat) (d : PyData) : Prop where
  lay : d.canLay0 = true
  sho : d.showable = true
  dep : d.depth ≤ e
  len : d.shown.length ≤ n
  nb : nob d = true
theorem Fine.up {e n m : Nat} {d : PyData} (h : Fine e n d) (k : n ≤ m) : Fine e m d := ⟨h.lay, h.sho, h.dep, by have := h.len; omega, h.nb⟩
theorem Fine.deep {e f n : Nat} {d : PyData} (h : Fine e n d) (k : e ≤ f) : Fine f n d := ⟨h.lay, h.sho, by have := h.dep; omega, h.len, h.nb⟩
theorem Fine.shaped {e n : Nat} {d : PyData} (h : Fine e n d) (k : e ≤ 64) : SeqAt.shaped d = true := by
  unfold SeqAt.shaped
  rw [h.lay, Bool.true_and, decide_eq_true]
  have := h.dep
  omega
theorem Fine.noD {e n : Nat} {d : PyData} (h : Fine e n d) : d.hasDict = false := PyData.hasDict_of_canLay d h.lay
theorem Fine.eqv {e n e' n' : Nat} {d d' : PyData} (h : Fine e n d) (h' : Fine e' n' d') : PyData.eqv d d' = true ↔ d = d' :=
  ⟨eqv_nob d d' h.nb h'.nb, fun z => by rw [← z]; exact SeqAt.eqv_refl d h.lay⟩
theorem fine_none : Fine 0 4 .none := ⟨by rfl, by rfl, Nat.le_refl _, by decide +kernel, by rfl⟩
theorem fine_int {n : Nat} (h : n < 256) : Fine 0 3 (.int n) := by
  have k : ∀ n : Fin 256, (Str.ofString (toString (n.val : Int))).length ≤ 3 ∧ (n.val : Int).natAbs.log2 < 1920 := by decide +kernel
  refine ⟨by simp only [PyData.canLay0], ?_, by simp only [PyData.depth]; omega, ?_, by simp only [nob]⟩
  · simp only [PyData.showable, decide_eq_true_eq]
    exact (k ⟨n, h⟩).2
  · simp only [PyData.shown]
    have := (k ⟨n, h⟩).1
    exact this
theorem fine_sm {i : Int} (h : 0 ≤ i ∧ i < 10) : Fine 0 3 (.int i) := by
  obtain ⟨n, rfl⟩ := Int.eq_ofNat_of_zero_le h.1
  exact fine_int (by have := h.2; omega)
theorem fine_all {e n : Nat} : ∀ {ds : List PyData}, (∀ d ∈ ds, Fine e n d) → PyData.canLayAll0 ds = true ∧ PyData.showableAll ds = true ∧ PyData.depthAll ds ≤ e ∧ piled (PyData.shownAll ds) ≤ (n + 2) * ds.length ∧ nobAll ds = true
  | [], _ => ⟨by simp only [PyData.canLayAll0], by simp only [PyData.showableAll], by simp only [PyData.depthAll]; omega, by simp [PyData.shownAll, piled], by simp only [nobAll]⟩
  | d :: ds, h => by
    obtain ⟨h1, h2, h3, h4, h5⟩ := fine_all fun x hx => h x (List.mem_cons_of_mem _ hx)
    have q := h d List.mem_cons_self
    refine ⟨by simp only [PyData.canLayAll0, q.lay, h1, Bool.and_self], by simp only [PyData.showableAll, q.sho, h2, Bool.and_self], by simp only [PyData.depthAll]; have := q.dep; omega, ?_, by simp only [nobAll, q.nb, h5, Bool.and_self]⟩
    simp only [PyData.shownAll, piled_cons, List.length_cons, Nat.mul_add]
    have := q.len
    omega
theorem shownAll_len : ∀ ds : List PyData, (PyData.shownAll ds).length = ds.length
  | [] => by simp only [PyData.shownAll]; rfl
  | d :: ds => by simp only [PyData.shownAll, List.length_cons, shownAll_len ds]
theorem listText_le (ts : List Str) : (listText ts).length ≤ piled ts + 2 := by
  cases ts with
  | nil => decide +kernel
  | cons t r =>
    have h := textFrom_length_pos r 1 (("[" : Str) ++ (if (0 : Nat) > 0 then ", " else "" : String) ++ t) (Nat.succ_pos 0)
    have e : ((("[" : Str) ++ (if (0 : Nat) > 0 then ", " else "" : String) ++ t)).length = 1 + t.length := by
      rw [strLen_append, strLen_append]; rfl
    have hX : (listText (t :: r)).length = (textFrom 0 "[" (t :: r)).length + 1 := by
      show (textFrom 0 "[" (t :: r) ++ "]").length = _
      rw [strLen_append]; rfl
    have hY : (textFrom 0 "[" (t :: r)).length = (textFrom 1 (("[" : Str) ++ (if (0 : Nat) > 0 then ", " else "" : String) ++ t) r).length := rfl
    rw [hX, hY, h, e, piled_cons]; omega
theorem tupleText_le (ts : List Str) : (tupleText ts).length ≤ piled ts + 4 := by
  unfold tupleText
  rw [strLen_append, strLen_append]
  have e1 : ((("(" : String) : Str)).length = 1 := rfl
  have e3 : (((if ts.length == 1 then ",)" else ")" : String) : Str)).length ≤ 2 := by split <;> decide
  rw [e1]
  by_cases h : ts = []
  · subst h
    have : (Str.join (", " : Str) []).length = 0 := by decide +kernel
    omega
  · have := join_length_add ts h
    omega
theorem fine_list {e n : Nat} {ds : List PyData} (h : ∀ d ∈ ds, Fine e n d) : Fine (e + 1) ((n + 2) * ds.length + 4) (.list ds) := by
  obtain ⟨h1, h2, h3, h4, h5⟩ := fine_all h
  refine ⟨by simp only [PyData.canLay0, h1], by simp only [PyData.showable, h2], by simp only [PyData.depth]; omega, ?_, by simp only [nob, h5]⟩
  simp only [PyData.shown]
  have := listText_le (PyData.shownAll ds)
  omega
theorem fine_tup {e n : Nat} {ds : List PyData} (h : ∀ d ∈ ds, Fine e n d) : Fine (e + 1) ((n + 2) * ds.length + 4) (.tuple ds) := by
  obtain ⟨h1, h2, h3, h4, h5⟩ := fine_all h
  refine ⟨by simp only [PyData.canLay0, h1], by simp only [PyData.showable, h2], by simp only [PyData.depth]; omega, ?_, by simp only [nob, h5]⟩
  simp only [PyData.shown]
  have := tupleText_le (PyData.shownAll ds)
  omega
/-! ### the program's data -/
/-- items are small -/
def Sm (r : List Int) : Prop := ∀ i ∈ r, 0 ≤ i ∧ i < 10
def SmS (s : Stp) : Prop := 0 ≤ s.item ∧ s.item < 10
def OkU (u : Str) : Prop := u = "ann" ∨ u = "bob"
structure OkC (m : Nat) (c : Call) : Prop where
  u : OkU c.user
  n : c.steps.length ≤ 3
  s : ∀ s ∈ c.steps, SmS s
  r : Sm c.row
  l : c.row.length ≤ m
structure OkS (m : Nat) (s : Se) : Prop where
  r : Sm s.row
  l : s.row.length ≤ m
  lim : s.lim ≤ 200
  d : ∀ c ∈ s.done, OkC m c
  e : ∀ c ∈ s.undone, OkC m c
  n : s.done.length + s.undone.length ≤ m
def dRow (r : List Int) : PyData := .list (r.map .int)
def dStp (s : Stp) : PyData := .tuple [.str (txtP s.put), .str (txtL s.left), .int s.item]
def dStps (ss : List Stp) : PyData := .list (ss.map dStp)
def dEnt (e : Str × List Stp) : PyData := .tuple [.str e.1, dStps e.2]
def dLog (l : List (Str × List Stp)) : PyData := .list (l.map dEnt)
def dState (s : Se) : PyData := .list [dRow s.row, dLog s.log, .int s.lim, .int s.done.length]
theorem fine_row {r : List Int} (h : Sm r) : Fine 1 (5 * r.length + 4) (dRow r) := by
  have := fine_list (e := 0) (n := 3) (ds := r.map .int) fun d hd => by
    obtain ⟨i, hi, rfl⟩ := List.mem_map.mp hd
    exact fine_sm (h i hi)
  rw [List.length_map] at this
  exact this
theorem fine_txtP (b : Bool) : Fine 0 7 (.str (txtP b)) := by cases b <;> exact ⟨by decide +kernel, by rfl, Nat.le_refl _, by decide +kernel, by rfl⟩
theorem fine_txtL (b : Bool) : Fine 0 7 (.str (txtL b)) := by cases b <;> exact ⟨by decide +kernel, by rfl, Nat.le_refl _, by decide +kernel, by rfl⟩
theorem fine_usr {u : Str} (h : OkU u) : Fine 0 5 (.str u) := by rcases h with rfl | rfl <;> exact ⟨by decide +kernel, by rfl, Nat.le_refl _, by decide +kernel, by rfl⟩
theorem fine_stp {s : Stp} (h : SmS s) : Fine 1 31 (dStp s) := by
  refine fine_tup (n := 7) (ds := [_, _, _]) fun d hd => ?_
  simp only [List.mem_cons, List.not_mem_nil, or_false] at hd
  rcases hd with rfl | rfl | rfl
  · exact fine_txtP _
  · exact fine_txtL _
  · exact (fine_sm h).up (by omega)
theorem fine_stps {ss : List Stp} (h : ∀ s ∈ ss, SmS s) (n : ss.length ≤ 3) : Fine 2 103 (dStps ss) := by
  have := fine_list (e := 1) (n := 31) (ds := ss.map dStp) fun d hd => by
    obtain ⟨i, hi, rfl⟩ := List.mem_map.mp hd
    exact fine_stp (h i hi)
  rw [List.length_map] at this
  exact this.up (by omega)
theorem fine_ent {e : Str × List Stp} (hu : OkU e.1) (h : ∀ s ∈ e.2, SmS s) (n : e.2.length ≤ 3) : Fine 3 214 (dEnt e) := by
  refine fine_tup (n := 103) (ds := [_, _]) fun d hd => ?_
  simp only [List.mem_cons, List.not_mem_nil, or_false] at hd
  rcases hd with rfl | rfl
  · exact ((fine_usr hu).up (by omega)).deep (by omega)
  · exact fine_stps h n
theorem fine_log {m : Nat} {s : Se} (h : OkS m s) : Fine 4 (216 * m + 4) (dLog s.log) := by
  have := fine_list (e := 3) (n := 214) (ds := s.log.map dEnt) fun d hd => by
    obtain ⟨i, hi, rfl⟩ := List.mem_map.mp hd
    unfold Se.log at hi
    obtain ⟨c, hc, rfl⟩ := List.mem_map.mp hi
    have := h.d c hc
    exact fine_ent this.u this.s this.n
  rw [List.length_map] at this
  refine this.up ?_
  have k : s.log.length = s.done.length := by unfold Se.log; rw [List.length_map]
  have := h.n
  rw [k]
  omega
theorem fine_state {m : Nat} {s : Se} (h : OkS m s) (hm : m ≤ 200) : Fine 5 200000 (dState s) := by
  refine (fine_list (e := 4) (n := 216 * 200 + 4) (ds := [_, _, _, _]) fun d hd => ?_).up (by show (216 * 200 + 4 + 2) * 4 + 4 ≤ 200000; decide)
  simp only [List.mem_cons, List.not_mem_nil, or_false] at hd
  rcases hd with rfl | rfl | rfl | rfl
  · exact ((fine_row h.r).up (by have := h.l; omega)).deep (by omega)
  · exact (fine_log h).up (by omega)
  · exact ((fine_int (by have := h.lim; omega)).up (by omega)).deep (by omega)
  · exact ((fine_int (by have := h.n; omega)).up (by omega)).deep (by omega)
theorem dRow_inj {r r' : List Int} : dRow r = dRow r' ↔ r = r' := by
  refine ⟨fun h => ?_, fun h => by rw [h]⟩
  unfold dRow at h
  injection h with h
  exact (List.map_inj_right (fun a b q => by injection q)).mp h
theorem txtP_inj {a b : Bool} (h : txtP a = txtP b) : a = b := by
  cases a <;> cases b <;> first | rfl | exact absurd h (by decide +kernel)
theorem txtL_inj {a b : Bool} (h : txtL a = txtL b) : a = b := by
  cases a <;> cases b <;> first | rfl | exact absurd h (by decide +kernel)
theorem dStp_inj {s s' : Stp} (h : dStp s = dStp s') : s = s' := by
  unfold dStp at h
  injection h with h
  injection h with h1 h
  injection h with h2 h
  injection h with h3 h
  injection h1 with h1
  injection h2 with h2
  injection h3 with h3
  cases s
  cases s'
  simp only at h1 h2 h3
  rw [txtP_inj h1, txtL_inj h2, h3]
theorem dStps_inj {a b : List Stp} (h : dStps a = dStps b) : a = b := by
  unfold dStps at h
  injection h with h
  exact (List.map_inj_right (fun a b q => dStp_inj q)).mp h
theorem dEnt_inj {a b : Str × List Stp} (h : dEnt a = dEnt b) : a = b := by
  unfold dEnt at h
  injection h with h
  injection h with h1 h
  injection h with h2 h
  injection h1 with h1
  obtain ⟨_, _⟩ := a
  obtain ⟨_, _⟩ := b
  simp only at h1 h2
  rw [h1, dStps_inj h2]
theorem dLog_inj {a b : List (Str × List Stp)} : dLog a = dLog b ↔ a = b := by
  refine ⟨fun h => ?_, fun h => by rw [h]⟩
  unfold dLog at h
  injection h with h
  exact (List.map_inj_right (fun a b q => dEnt_inj q)).mp h
instance : DecidableEq (Str × List Stp) := inferInstance
theorem eqv_row {r r' : List Int} (h : Sm r) (h' : Sm r') : PyData.eqv (dRow r) (dRow r') = decide (r = r') := by
  rw [Bool.eq_iff_iff, decide_eq_true_eq, (fine_row h).eqv (fine_row h'), dRow_inj]
theorem eqv_log {m m' : Nat} {s s' : Se} (h : OkS m s) (h' : OkS m' s') : PyData.eqv (dLog s.log) (dLog s'.log) = decide (s.log = s'.log) := by
  rw [Bool.eq_iff_iff, decide_eq_true_eq, (fine_log h).eqv (fine_log h'), dLog_inj]
/-! ### where such data stands -/
def IsEnt (H : Hp) (a : Addr) (e : Str × List Stp) : Prop := ∃ b, H a = some (.tup [.str e.1, .ref b]) ∧ IsStps H b e.2
def IsLog (H : Hp) (a : Addr) (l : List (Str × List Stp)) : Prop := ∃ rs : List Addr, H a = some (.lst (rs.map V.ref)) ∧ Paired (IsEnt H) rs l
theorem IsEnt.mono {H H' : Hp} {a : Addr} {c} (h : IsEnt H a c) (e : Same H H') : IsEnt H' a c := let ⟨b, h1, h2⟩ := h; ⟨b, e _ _ h1, h2.mono e⟩
theorem ents_mono {H H' : Hp} {rs : List Addr} {cs} (h : Paired (IsEnt H) rs cs) (e : Same H H') : Paired (IsEnt H') rs cs := Paired.mapP h fun _ _ q => q.mono e
theorem IsLog.mono {H H' : Hp} {a : Addr} {c} (h : IsLog H a c) (e : Same H H') : IsLog H' a c := let ⟨b, h1, h2⟩ := h; ⟨b, e _ _ h1, ents_mono h2 e⟩
section
variable {K : PySem.W.Frag} {H : Hp} {a : Addr}
theorem dp_ints : ∀ (r : List Int), DpAll K H (r.map V.int) (r.map PyData.int)
  | [] => .nil
  | i :: r => .cons (.int i) (dp_ints r)
theorem dp_row {r : List Int} (h : IsRow H a r) : Dp K H (.ref a) (dRow r) := .lst (SqL.of h) (dp_ints r)
theorem dp_stp {s : Stp} (h : IsStp H a s) : Dp K H (.ref a) (dStp s) := .tup (SqT.of h) (.cons (.str _) (.cons (.str _) (.cons (.int _) .nil)))
theorem dp_refs {α : Type} {R : Addr → α → Prop} {d : α → PyData} (f : ∀ a x, R a x → Dp K H (.ref a) (d x)) : ∀ {rs : List Addr} {xs : List α}, Paired R rs xs → DpAll K H (rs.map V.ref) (xs.map d)
  | _, _, .nil => .nil
  | _, _, .cons h t => .cons (f _ _ h) (dp_refs f t)
theorem dp_stps {ss : List Stp} (h : IsStps H a ss) : Dp K H (.ref a) (dStps ss) := let ⟨rs, h1, h2⟩ := h; .lst (SqL.of h1) (dp_refs (fun _ _ q => dp_stp q) h2)
theorem dp_ent {e : Str × List Stp} (h : IsEnt H a e) : Dp K H (.ref a) (dEnt e) := let ⟨b, h1, h2⟩ := h; .tup (SqT.of h1) (.cons (.str _) (.cons (dp_stps h2) .nil))
theorem dp_log {l : List (Str × List Stp)} (h : IsLog H a l) : Dp K H (.ref a) (dLog l) := let ⟨rs, h1, h2⟩ := h; .lst (SqL.of h1) (dp_refs (fun _ _ q => dp_ent q) h2)
end
end Dq
set_option maxHeartbeats 4000000
/-! rows.py, yards.py, is_call: promises and proofs. -/
namespace Dq
open PySem PySem.Spec PyProof.Rows L2
/-- built-in names that the text leaves alone, constants -/
structure Nm (mg : Str → Option Value) : Prop where
  isi : mg "isinstance" = none
  int : mg "int" = none
  bool : mg "bool" = none
  all : mg "all" = none
  list : mg "list" = none
  len : mg "len" = none
  str : mg "str" = none
  tuple : mg "tuple" = none
  enum : mg "enumerate" = none
  repr : mg "repr" = none
  range : mg "range" = none
  max : mg "max" = none
  min : mg "min" = none
  super : mg "super" = none
  mi : ∃ t, mg "MOST_ITEMS" = some (.int 200 t)
  ms : ∃ t, mg "MOST_STEPS" = some (.int 60 t)
  ml : ∃ t, mg "MOST_LETTERS" = some (.int 8 t)
  le : ∃ t, mg "LETTERS" = some (.str "abcdefghijklmnopqrstuvwxyz" t)
theorem ifF {A B : Prop} {b : Bool} (e : b = false) (h : B) : if b = true then A else B := by rw [e]; exact iteF h
theorem ifT {A B : Prop} {b : Bool} (e : b = true) (h : A) : if b = true then A else B := by rw [e]; exact iteT h
section
variable {P : Program} {w : World} {K : PySem.W.Frag} {mg : Str → Option Value} {base : Heap} {f : Addr}
def spInteger : Sp := fun vs H Q _ => ∃ i : Int, vs = [.int i] ∧ Q (.bl true) H
theorem scInteger : FnScope ["thing"] ["thing"] (defScope sIsInteger) := ⟨rfl, rfl, rfl, by decide +kernel, rfl, by decide +kernel, by decide +kernel⟩
theorem f_isInteger (N : Nm mg) (F : IsFn K "is_integer" "is_integer" sIsInteger f) : FnR P w K mg base CX0 1 f spInteger := by
  refine fn0 (k := 0) F scInteger (fun _ _ _ _ _ _ us hl => match us, hl with | [_], _ => rfl) (fun _ _ _ _ ⟨_, h, _⟩ => by rw [h]; rfl) fun cdv A outer s H vs Q E hr h => ?_
  obtain ⟨i, rfl, h⟩ := h
  refine ⟨_, pss_one (ps_ret (pe_and (pe_callB call_isi (by rfl) N.isi (by decide +kernel) (pa_cons (pv 0) (pa_cons (pe_bltn (v := .ty "int") (by rfl) N.int (by decide +kernel) rfl) pa_nil)))
    (pe_one (pe_not (pe_callB call_isi (by rfl) N.isi (by decide +kernel) (pa_cons (pv 0) (pa_cons (pe_bltn (v := .ty "bool") (by rfl) N.bool (by decide +kernel) rfl) pa_nil))))))), ?_⟩
  refine ⟨_, rfl, .int i, .ty "int", _, _, true, rfl, .ty "int", .base (.int i), kit_ty (by decide +kernel), true, rfl, ?_⟩
  exact ⟨_, rfl, .int i, .ty "bool", _, _, false, rfl, .ty "bool", .base (.int i), kit_ty (by decide +kernel), false, rfl, h⟩
def spWithin : Sp := fun vs H Q _ => ∃ i a b : Int, vs = [.int i, .int a, .int b] ∧ a ≤ i ∧ i ≤ b ∧ Q (.bl true) H
theorem scWithin : FnScope ["thing", "least", "most"] ["thing", "least", "most"] (defScope sIsWithin) := ⟨rfl, rfl, rfl, by decide +kernel, rfl, by decide +kernel, by decide +kernel⟩
theorem f_isWithin (cI : Glo P w K mg base CX0 1 "is_integer" spInteger) (F : IsFn K "is_within" "is_within" sIsWithin f) : FnR P w K mg base CX0 2 f spWithin := by
  refine fn0 (k := 1) F scWithin (fun _ _ _ _ _ _ us hl => match us, hl with | [_, _, _], _ => rfl) (fun _ _ _ _ ⟨_, _, _, h, _⟩ => by rw [h]; rfl) fun cdv A outer s H vs Q E hr h => ?_
  obtain ⟨i, a, b, rfl, h1, h2, h⟩ := h
  refine ⟨_, pss_one (ps_ret (pe_and (pe_g cI hr pass0 (pa_cons (pv 0) pa_nil)) (pe_one (pe_chain op_le op_le (pv 1) (pv 0) (pv 2))))), ?_⟩
  refine ⟨_, rfl, i, rfl, true, rfl, ?_⟩
  refine ⟨_, rfl, _, rfl, _, _, rfl, rfl, true, ?_, ?_⟩
  · show V.bl (decide (a ≤ i)) = _
    rw [decide_eq_true h1]
  · refine ⟨_, rfl, _, _, rfl, rfl, ?_⟩
    show Q (.bl (decide (i ≤ b))) H
    rw [decide_eq_true h2]
    exact h
def spItem : Sp := fun vs H Q _ => ∃ i : Int, vs = [.int i] ∧ 0 ≤ i ∧ Q (.bl true) H
theorem scItem : FnScope ["thing"] ["thing"] (defScope sIsItem) := ⟨rfl, rfl, rfl, by decide +kernel, rfl, by decide +kernel, by decide +kernel⟩
theorem f_isItem (cI : Glo P w K mg base CX0 1 "is_integer" spInteger) (F : IsFn K "is_item" "is_item" sIsItem f) : FnR P w K mg base CX0 2 f spItem := by
  refine fn0 (k := 1) F scItem (fun _ _ _ _ _ _ us hl => match us, hl with | [_], _ => rfl) (fun _ _ _ _ ⟨_, h, _⟩ => by rw [h]; rfl) fun cdv A outer s H vs Q E hr h => ?_
  obtain ⟨i, rfl, h1, h⟩ := h
  refine ⟨_, pss_one (ps_ret (pe_and (pe_g cI hr pass0 (pa_cons (pv 0) pa_nil)) (pe_one (pe_cmpR op_ge (pv 0) pe_int (nomark _))))), ?_⟩
  refine ⟨_, rfl, i, rfl, true, rfl, ?_⟩
  refine ⟨_, rfl, _, _, rfl, rfl, ?_⟩
  show Q (.bl (decide (0 ≤ i))) H
  rw [decide_eq_true h1]
  exact h
/-- the turns of a comprehension that gives True each time -/
theorem all_true {n : Nat} : (List.replicate n true).all id = true := by
  induction n with
  | zero => rfl
  | succ n ih => rw [List.replicate_succ]; simp [ih]
theorem rep_snoc {n : Nat} : (List.replicate n true).map V.bl ++ [V.bl true] = (List.replicate (n + 1) true).map V.bl := by
  rw [List.replicate_succ', List.map_append]; rfl
def spRowOk : Sp := fun vs H Q _ => ∃ (a : Addr) (r : List Int), vs = [.ref a] ∧ IsRow H a r ∧ (∀ i ∈ r, 0 ≤ i) ∧ r.length ≤ 1000 ∧ ∀ H', Same H H' → Q (.bl true) H'
theorem scRowOk : FnScope ["thing", "item"] ["thing"] (defScope sIsRow) := ⟨rfl, rfl, rfl, by decide +kernel, rfl, by decide +kernel, by decide +kernel⟩
theorem thou {n : Nat} (h : n ≤ 1000) : n < sizeLine := by rw [sizeLine_eq]; omega
theorem f_isRow (N : Nm mg) (cI : Glo P w K mg base CX0 2 "is_item" spItem) (F : IsFn K "is_row" "is_row" sIsRow f) : FnR P w K mg base CX0 3 f spRowOk := by
  refine fn0 (k := 2) F scRowOk (fun _ _ _ _ _ _ us hl => match us, hl with | [_], _ => rfl) (fun _ _ _ _ ⟨_, _, h, _⟩ => by rw [h]; rfl) fun cdv A outer s H vs Q E hr h => ?_
  obtain ⟨a, r, rfl, hr1, hp, hl, h⟩ := h
  refine ⟨_, pss_one (ps_ret (pe_and (pe_callB call_isi (by rfl) N.isi (by decide +kernel) (pa_cons (pv 0) (pa_cons (pe_bltn (v := .ty "list") (by rfl) N.list (by decide +kernel) rfl) pa_nil)))
    (pe_one (pe_callB (cr_all rfl) (by rfl) N.all (by decide +kernel) (pa_cons (pe_lc (own := [("item", 1)]) (g := gName 1) (tt := tYes) rfl scRowOk.nd (pi_list (pv 0)) (blkOk_by (N := ["thing", "item"]) (sc := defScope sIsRow) (by decide +kernel))
      (fun _ _ _ _ _ => pg_name (i := 1) scRowOk.nd rfl (Or.inl rfl)) (fun _ _ _ _ _ => pts_nil) (fun _ _ _ _ _ => pe_g cI hr pass0 (pa_cons (pv 1) pa_nil))) pa_nil))))), ?_⟩
  refine ⟨_, rfl, .ref a, .ty "list", _, _, true, rfl, .ty "list", .base (.lst hr1), kit_ty (by decide +kernel), true, rfl, ?_⟩
  refine ⟨_, rfl, a, rfl, ⟨_, SqL.of hr1⟩, fun D hD => ?_⟩
  refine lc_list (K := K) (xs := r.map V.int) (fun i H' => Same H H' ∧ H' D = some (.lst ((List.replicate i true).map V.bl))) ⟨same_upd hD, upd_same⟩ (fun i H' _ h' => .of (h'.1 _ _ hr1)) (fun i x H' hx h' => ?_) (fun H' h' => ?_)
  · obtain ⟨y, hy, rfl⟩ := List.mem_map.mp (List.mem_of_getElem? hx)
    refine ⟨rfl, _, rfl, y, rfl, hp y hy, _, h'.2, ?_, ?_⟩
    · have : i < r.length := by
        have := (List.getElem?_eq_some_iff.mp hx).1
        simpa using this
      simp
      exact thou (by omega)
    · rw [rep_snoc]
      exact ⟨fun b u e => by rw [upd_ne (ne_of_none e hD)]; exact h'.1 b u e, upd_same⟩
  · refine ⟨_, _, rfl, SqL.of h'.2, ?_⟩
    show Q (.bl ((List.replicate _ true).all id)) H'
    rw [all_true]
    exact h _ h'.1
def spWord : Sp := fun vs H Q _ => ∃ (z : Str) (p : Addr) (ws : List Str), vs = [.str z, .ref p] ∧ H p = some (.tup (ws.map V.str)) ∧ z ∈ ws ∧ Q (.bl true) H
theorem scWord : FnScope ["thing", "words"] ["thing", "words"] (defScope sIsWord) := ⟨rfl, rfl, rfl, by decide +kernel, rfl, by decide +kernel, by decide +kernel⟩
theorem f_isWord (N : Nm mg) (F : IsFn K "is_word" "is_word" sIsWord f) : FnR P w K mg base CX0 1 f spWord := by
  refine fn0 (k := 0) F scWord (fun _ _ _ _ _ _ us hl => match us, hl with | [_, _], _ => rfl) (fun _ _ _ _ ⟨_, _, _, h, _⟩ => by rw [h]; rfl) fun cdv A outer s H vs Q E hr h => ?_
  obtain ⟨z, p, ws, rfl, h1, h2, h⟩ := h
  refine ⟨_, pss_one (ps_ret (pe_and (pe_callB call_isi (by rfl) N.isi (by decide +kernel) (pa_cons (pv 0) (pa_cons (pe_bltn (v := .ty "str") (by rfl) N.str (by decide +kernel) rfl) pa_nil)))
    (pe_one (pe_cmpR op_in_seq (pv 0) (pv 1) (by rfl))))), ?_⟩
  refine ⟨_, rfl, .str z, .ty "str", _, _, true, rfl, .ty "str", .base (.str z), kit_ty (by decide +kernel), true, rfl, ?_⟩
  refine ⟨_, rfl, _, rfl, p, _, rfl, .inr (SqT.of h1), rfl, ?_, ?_⟩
  · rw [List.all_eq_true]
    intro x hx
    obtain ⟨y, _, rfl⟩ := List.mem_map.mp hx
    rfl
  · have e : inV (.str z) (ws.map V.str) = true := by
      unfold inV
      rw [List.any_eq_true]
      refine ⟨_, List.mem_map_of_mem h2, ?_⟩
      simp [eqV]
    show Q (.bl (inV (.str z) (ws.map V.str))) H
    rw [e]
    exact h
def spIsStep : Sp := fun vs H Q _ => ∃ (a : Addr) (st : Stp), vs = [.ref a] ∧ IsStp H a st ∧ 0 ≤ st.item ∧ ∀ H', Same H H' → Q (.bl true) H'
theorem scIsStep : FnScope ["thing"] ["thing"] (defScope sIsStep) := ⟨rfl, rfl, rfl, by decide +kernel, rfl, by decide +kernel, by decide +kernel⟩
theorem txtP_in (b : Bool) : txtP b ∈ [("put" : Str), "take"] := by cases b <;> simp [txtP]
theorem txtL_in (b : Bool) : txtL b ∈ [("left" : Str), "right"] := by cases b <;> simp [txtL]
theorem f_isStep (N : Nm mg) (cW : Glo P w K mg base CX0 1 "is_word" spWord) (cI : Glo P w K mg base CX0 2 "is_item" spItem) (F : IsFn K "is_step" "is_step" sIsStep f) : FnR P w K mg base CX0 3 f spIsStep := by
  refine fn0 (k := 2) F scIsStep (fun _ _ _ _ _ _ us hl => match us, hl with | [_], _ => rfl) (fun _ _ _ _ ⟨_, _, h, _⟩ => by rw [h]; rfl) fun cdv A outer s H vs Q E hr h => ?_
  obtain ⟨a, st, rfl, h1, h2, h⟩ := h
  refine ⟨_, pss_cons (ps_if (PW.pt (pw_or (pt_not (pt_val (pe_callB call_isi (by rfl) N.isi (by decide +kernel) (pa_cons (pv 0) (pa_cons (pe_bltn (v := .ty "tuple") (by rfl) N.tuple (by decide +kernel) rfl) pa_nil)))))
      (pw_or1 (pt_cmpR op_ne (pe_callB call_len_seq (by rfl) N.len (by decide +kernel) (pa_cons (pv 0) pa_nil)) pe_int (nomark _))))) (pss_one (ps_ret pe_bl)) pss_nil)
    (pss_one (ps_ret (pe_and (pe_g cW hr pass0 (pa_cons (pe_ix ix_tup (pv 0) pe_int (fun _ _ => rfl)) (pa_cons (pe_tup (pa_cons pe_str (pa_cons pe_str pa_nil))) pa_nil)))
      (pe_and (pe_g cW hr pass0 (pa_cons (pe_ix ix_tup (pv 0) pe_int (fun _ _ => rfl)) (pa_cons (pe_tup (pa_cons pe_str (pa_cons pe_str pa_nil))) pa_nil)))
        (pe_one (pe_g cI hr pass0 (pa_cons (pe_ix ix_tup (pv 0) pe_int (fun _ _ => rfl)) pa_nil))))))), ?_⟩
  refine ⟨_, rfl, .ref a, .ty "tuple", _, _, true, rfl, .ty "tuple", .base (.tup h1), kit_ty (by decide +kernel), true, rfl, ?_⟩
  refine ifF rfl ⟨_, rfl, a, _, rfl, .inr (SqT.of h1), ?_⟩
  refine ⟨rfl, _, rfl, ifF (by rfl) ?_⟩
  refine ⟨_, rfl, a, _, _, _, rfl, rfl, SqT.of h1, rfl, ?_⟩
  refine ⟨by show 2 ≤ sizeLine; decide, fun p hp => ⟨_, p, _, rfl, upd_same, txtP_in _, true, rfl, ?_⟩⟩
  have e1 : Same H (upd H p (.tup [.str "put", .str "take"])) := same_upd hp
  refine ⟨_, rfl, a, _, _, _, rfl, rfl, SqT.of (e1 _ _ h1), rfl, ?_⟩
  refine ⟨by show 2 ≤ sizeLine; decide, fun q hq => ⟨_, q, _, rfl, upd_same, txtL_in _, true, rfl, ?_⟩⟩
  have e2 := e1.trans (same_upd (o := .tup [.str "left", .str "right"]) hq)
  refine ⟨_, rfl, a, _, _, _, rfl, rfl, SqT.of (e2 _ _ h1), rfl, ?_⟩
  exact ⟨_, rfl, h2, h _ e2⟩
end
end Dq
set_option maxHeartbeats 4000000
namespace Dq
open PySem PySem.Spec PyProof.Rows L2
section
variable {P : Program} {w : World} {K : PySem.W.Frag} {mg : Str → Option Value} {base : Heap} {f : Addr}
def spCkRow : Sp := fun vs H Q _ => ∃ (a : Addr) (r : List Int), vs = [.ref a] ∧ IsRow H a r ∧ (∀ i ∈ r, 0 ≤ i) ∧ r.length ≤ 200 ∧ ∀ H', Same H H' → Q .non H'
theorem scCkRow : FnScope ["row"] ["row"] (defScope sCheckRow) := ⟨rfl, rfl, rfl, by decide +kernel, rfl, by decide +kernel, by decide +kernel⟩
theorem f_ckRow (N : Nm mg) (c : Glo P w K mg base CX0 3 "is_row" spRowOk) (F : IsFn K "check_row" "check_row" sCheckRow f) : FnR P w K mg base CX0 4 f spCkRow := by
  refine fn0 (k := 3) F scCkRow (fun _ _ _ _ _ _ us hl => match us, hl with | [_], _ => rfl) (fun _ _ _ _ ⟨_, _, h, _⟩ => by rw [h]; rfl) fun cdv A outer s H vs Q E hr h => ?_
  obtain ⟨a, r, rfl, h1, h2, h3, h⟩ := h
  obtain ⟨t, mi⟩ := N.mi
  refine ⟨_, pss_one (ps_if (PW.pt (pw_or (pt_not (pt_val (pe_g c hr pass0 (pa_cons (pv 0) pa_nil)))) (pw_or1 (pt_cmpR op_gt (pe_callB call_len_seq (by rfl) N.len (by decide +kernel) (pa_cons (pv 0) pa_nil)) (pe_glob (v := .int 200) rfl mi ⟨_, rfl⟩) (nomark _)))))
    (pss_one ps_never) pss_nil), ?_⟩
  refine ⟨_, rfl, a, r, rfl, h1, h2, by omega, fun H' e => ?_⟩
  refine ⟨true, rfl, ?_⟩
  refine ifF rfl ⟨_, rfl, a, _, rfl, .inl (SqL.of (e _ _ h1)), ?_⟩
  refine ⟨_, _, rfl, rfl, _, rfl, ?_⟩
  refine ifF ?_ (h _ e)
  rw [List.length_map]
  exact decide_eq_false (by omega)
def spCkSteps : Sp := fun vs H Q _ => ∃ (a : Addr) (rs : List Addr) (ss : List Stp), vs = [.ref a] ∧ H a = some (.tup (rs.map V.ref)) ∧ Paired (IsStp H) rs ss ∧ (∀ s ∈ ss, 0 ≤ s.item) ∧ ss.length ≤ 60 ∧ ∀ H', Same H H' → Q .non H'
theorem scCkSteps : FnScope ["steps", "step"] ["steps"] (defScope sCheckSteps) := ⟨rfl, rfl, rfl, by decide +kernel, rfl, by decide +kernel, by decide +kernel⟩
theorem paired_get {α β : Type} {R : α → β → Prop} : ∀ {xs : List α} {ys : List β}, Paired R xs ys → ∀ {i : Nat} {x : α}, xs[i]? = some x → ∃ y, ys[i]? = some y ∧ R x y
  | _, _, .nil, i, x, h => by simp at h
  | _, _, .cons h t, 0, x, e => by
    simp at e
    subst e
    exact ⟨_, rfl, h⟩
  | _, _, .cons h t, i + 1, x, e => by
    simp at e
    obtain ⟨y, h1, h2⟩ := paired_get t e
    exact ⟨y, by simpa using h1, h2⟩
theorem f_ckSteps (N : Nm mg) (c : Glo P w K mg base CX0 3 "is_step" spIsStep) (F : IsFn K "check_steps" "check_steps" sCheckSteps f) : FnR P w K mg base CX0 4 f spCkSteps := by
  refine fn0 (k := 3) F scCkSteps (fun _ _ _ _ _ _ us hl => match us, hl with | [_], _ => rfl) (fun _ _ _ _ ⟨_, _, _, h, _⟩ => by rw [h]; rfl) fun cdv A outer s H vs Q E hr h => ?_
  obtain ⟨a, rs, ss, rfl, h1, h2, h3, h4, h⟩ := h
  obtain ⟨t, ms⟩ := N.ms
  refine ⟨_, pss_cons (ps_if (PW.pt (pw_or (pt_not (pt_val (pe_callB call_isiT (by rfl) N.isi (by decide +kernel) (pa_cons (pv 0) (pa_cons (pe_tup (pa_cons (pe_bltn (v := .ty "list") (by rfl) N.list (by decide +kernel) rfl) (pa_cons (pe_bltn (v := .ty "tuple") (by rfl) N.tuple (by decide +kernel) rfl) pa_nil))) pa_nil)))))
      (pw_or1 (pt_cmpR op_gt (pe_callB call_len_seq (by rfl) N.len (by decide +kernel) (pa_cons (pv 0) pa_nil)) (pe_glob (v := .int 60) rfl ms ⟨_, rfl⟩) (nomark _)))))
      (pss_one ps_never) pss_nil)
    (pss_one (ps_for PassesOwn.never rfl (pi_tup (pv 0)) (pg_name (i := 1) scCkSteps.nd rfl (Or.inl rfl)) (pss_one (ps_if (pt_not (pt_val (pe_g c hr pass0 (pa_cons (pv 1) pa_nil)))) (pss_one ps_never) pss_nil)))), ?_⟩
  refine ⟨_, rfl, by show 2 ≤ sizeLine; decide, fun p hp => ⟨_, p, _, _, [.type "list", .type "tuple"], true, rfl, upd_same, .cons (.ty _) (.cons (.ty _) .nil), .base (.tup (same_upd hp _ _ h1)), by rfl, true, rfl, ?_⟩⟩
  refine ifF rfl ⟨_, rfl, a, _, rfl, .inr (SqT.of (same_upd hp _ _ h1)), ?_⟩
  refine ⟨_, _, rfl, rfl, _, rfl, ?_⟩
  have hl : rs.length = ss.length := h2.length
  refine ifF (by rw [List.length_map, hl]; exact decide_eq_false (by omega)) ?_
  refine ⟨_, rfl, a, rfl, ⟨_, SqT.of (same_upd hp _ _ h1)⟩, for_tup (xs := rs.map V.ref) (fun i σ H' => (∃ o, σ = [some (.ref a), o]) ∧ Same H H') ⟨⟨_, rfl⟩, same_upd hp⟩ (fun i σ H' _ h' => SqT.of (h'.2 _ _ h1)) (fun i x σ H' hx h' => ?_) fun σ H' h' => h _ h'.2⟩
  obtain ⟨⟨o, rfl⟩, e⟩ := h'
  rw [List.getElem?_map] at hx
  obtain ⟨r, hr1, rfl⟩ := Option.map_eq_some_iff.mp hx
  obtain ⟨st, hs1, hs2⟩ := paired_get h2 hr1
  refine ⟨_, rfl, r, st, rfl, hs2.mono e, h3 _ (List.mem_of_getElem? hs1), fun H2 e2 => ?_⟩
  exact ⟨true, rfl, ifF rfl ⟨⟨_, rfl⟩, e.trans e2⟩⟩
end
end Dq
set_option maxHeartbeats 4000000
namespace Dq
open PySem PySem.Spec PyProof.Rows L2
/-! ### parts of rows -/
theorem cut_tail (r : List Int) : cutV (r.map V.int) (some 1) none = r.tail.map V.int := by
  unfold cutV
  rw [HT.sIx_none, show (1 : Int) = ((1 : Nat) : Int) from rfl, HT.sIx_nat]
  cases r with
  | nil => rfl
  | cons x r =>
    have e : min 1 ((x :: r).map V.int).length = 1 := by simp
    rw [e]
    simp
    exact List.take_of_length_le (by simp)
theorem cut_init (r : List Int) : cutV (r.map V.int) none (some (-1)) = r.dropLast.map V.int := by
  unfold cutV
  rw [HT.sIx_none]
  have e : HT.sIx (r.map V.int).length (r.map V.int).length (some (-1)) = r.length - 1 := by
    unfold HT.sIx
    rw [List.length_map]
    simp only
    rw [if_pos (by decide)]
    omega
  rw [e, Nat.sub_zero, List.drop_zero, List.dropLast_eq_take, List.map_take]
theorem at_first {x : Int} {r : List Int} : atI ((x :: r).map V.int) 0 = some (.int x) := atI_nat (j := 0) rfl
theorem at_last {r : List Int} (h : r ≠ []) : atI (r.map V.int) (-1) = some (.int (r.getLast h)) := by
  have e : r.map V.int = r.dropLast.map V.int ++ [V.int (r.getLast h)] := by
    conv => lhs; rw [← List.dropLast_concat_getLast h]
    simp
  rw [e]
  exact atI_last _ _
def RowOut (H : Hp) (Q : VK) : Option (List Int) → Prop
  | none => ∀ H', Same H H' → Q .non H'
  | some r' => ∀ H' p, Same H H' → H p = none → IsRow H' p r' → Q (.ref p) H'
theorem RowOut.sub {H H1 : Hp} {Q : VK} {o : Option (List Int)} (h : RowOut H Q o) (e : Same H H1) : RowOut H1 Q o := by
  cases o with
  | none => exact fun H' e' => h H' (e.trans e')
  | some r => exact fun H' p e' hp hr => h H' p (e.trans e') (e.free hp) hr
theorem RowOut.new {H : Hp} {Q : VK} {r : List Int} (h : RowOut H Q (some r)) {p : Addr} {xs : List V} (hp : H p = none) (e : xs = r.map V.int) : Q (.ref p) (upd H p (.lst xs)) := by
  subst e
  exact h _ p (same_upd hp) hp upd_same
section
variable {P : Program} {w : World} {K : PySem.W.Frag} {mg : Str → Option Value} {base : Heap} {f : Addr}
def spStepped : Sp := fun vs H Q _ => ∃ (a b : Addr) (r : List Int) (st : Stp), vs = [.ref a, .ref b] ∧ IsRow H a r ∧ IsStp H b st ∧ Sm r ∧ r.length ≤ 1000 ∧ RowOut H Q (stepped r st)
theorem scStepped : FnScope ["row", "step", "deed", "end", "item"] ["row", "step"] (defScope sStepped) := ⟨rfl, rfl, rfl, by decide +kernel, rfl, by decide +kernel, by decide +kernel⟩
theorem put_dec (b : Bool) : decide (V.str (txtP b) = V.str "put") = b := by cases b <;> decide +kernel
theorem left_dec (b : Bool) : decide (V.str (txtL b) = V.str "left") = b := by cases b <;> decide +kernel
theorem f_stepped (F : IsFn K "stepped" "stepped" sStepped f) : FnR P w K mg base CX0 1 f spStepped := by
  refine fn0 (k := 0) F scStepped (fun _ _ _ _ _ _ us hl => match us, hl with | [_, _], _ => rfl) (fun _ _ _ _ ⟨_, _, _, _, h, _⟩ => by rw [h]; rfl) fun cdv A outer s H vs Q E hr h => ?_
  obtain ⟨a, b, r, st, rfl, h1, h2, h3, h4, h⟩ := h
  refine ⟨_, pss_cons (ps_asg (pv 1) (pg_tup rfl (pgs_cons (pg_name (i := 2) scStepped.nd rfl (.inl rfl)) (pgs_cons (pg_name (i := 3) scStepped.nd rfl (.inl rfl)) (pgs_cons (pg_name (i := 4) scStepped.nd rfl (.inl rfl)) pgs_nil)))))
    (pss_cons (ps_if (pt_cmpR op_eq (pv 2) pe_str (nomark _)) (pss_one (ps_ret (pe_ifExp (pt_cmpR op_eq (pv 3) pe_str (nomark _)) (pe_op op_cat (pe_lst (pa_cons (pv 4) pa_nil)) (pv 0)) (pe_op op_cat (pv 0) (pe_lst (pa_cons (pv 4) pa_nil)))))) pss_nil)
    (pss_cons (ps_if (PW.pt (pw_or (pt_cmpR (op_eqD hr.units) (pv 0) (pe_lst pa_nil) (nomark _)) (pw_or1 (pt_cmpR op_ne (pe_ix ix_list (pv 0) (pe_ifExp (pt_cmpR op_eq (pv 3) pe_str (nomark _)) pe_int (pe_un un_neg pe_int)) (fun _ _ => rfl)) (pv 4) (nomark _))))) (pss_one (ps_ret pe_non)) pss_nil)
    (pss_one (ps_ret (pe_ifExp (pt_cmpR op_eq (pv 3) pe_str (nomark _)) (pe_slice sl_list (pv 0) (po_some pe_int) po_none) (pe_slice sl_list (pv 0) po_none (po_some (pe_un un_neg pe_int)))))))), ?_⟩
  refine ⟨_, rfl, b, _, rfl, SqT.of h2, rfl, _, _, rfl, _, _, rfl, _, _, rfl, rfl, ?_⟩
  refine ⟨_, rfl, rfl, _, rfl, ?_⟩
  rw [put_dec]
  obtain ⟨pb, lb, it⟩ := st
  cases pb with
  | true =>
    refine ifT rfl ⟨_, rfl, rfl, _, rfl, ?_⟩
    rw [left_dec]
    cases lb with
    | true =>
      refine ifT rfl ⟨_, rfl, by show 1 ≤ sizeLine; decide, fun p hp => ⟨_, rfl, p, a, _, _, rfl, rfl, upd_same, same_upd hp _ _ h1, ?_, fun q hq => ?_⟩⟩
      · have := thou h4
        rw [List.length_map]
        show 1 + r.length ≤ sizeLine
        omega
      · exact (h.sub (same_upd hp)).new hq rfl
    | false =>
      refine ifF rfl ⟨_, rfl, _, rfl, by show 1 ≤ sizeLine; decide, fun p hp => ⟨a, p, _, _, rfl, rfl, same_upd hp _ _ h1, upd_same, ?_, fun q hq => ?_⟩⟩
      · have := thou h4
        rw [List.length_map]
        show r.length + 1 ≤ sizeLine
        omega
      · exact (h.sub (same_upd hp)).new hq (by simp)
  | false =>
    refine ifF rfl ⟨_, rfl, by show 0 ≤ sizeLine; decide, fun p hp => ⟨dRow r, dRow [], dp_row (same_upd hp _ _ h1), dp_row upd_same, (fine_row h3).shaped (by omega), (fine_row (fun i z => by cases z)).shaped (by omega), _, rfl, ?_⟩⟩
    rw [eqv_row h3 (fun i z => by cases z)]
    have h' := h.sub (same_upd (o := .lst []) hp)
    have h1' : IsRow (upd H p (.lst [])) a r := same_upd hp _ _ h1
    by_cases hz : r = []
    · subst hz
      refine ifT rfl ?_
      cases lb <;> exact h' _ (Same.refl _)
    · refine ifF (decide_eq_false hz) ⟨_, rfl, _, rfl, rfl, _, rfl, ?_⟩
      rw [left_dec]
      cases lb with
      | true =>
        cases r with
        | nil => exact absurd rfl hz
        | cons x r =>
          refine ifT rfl ⟨a, _, _, _, rfl, rfl, SqL.of h1', at_first, _, rfl, rfl, _, rfl, ?_⟩
          by_cases hx : x = it
          · subst hx
            refine ifF (by simp) ⟨_, rfl, rfl, _, rfl, ?_⟩
            rw [left_dec]
            refine ifT rfl ⟨_, rfl, _, rfl, a, _, rfl, SqL.of h1', fun q hq => ?_⟩
            refine RowOut.new (r := r) ?_ hq ?_
            · have e : stepped (x :: r) ⟨false, true, x⟩ = some r := by simp [stepped]
              rw [e] at h'
              exact h'
            · exact cut_tail (x :: r)
          · refine ifT (by simp [hx]) ?_
            have e : stepped (x :: r) ⟨false, true, it⟩ = none := by simp [stepped, hx]
            rw [e] at h'
            exact h' _ (Same.refl _)
      | false =>
        refine ifF rfl ⟨1, rfl, a, _, _, _, rfl, rfl, SqL.of h1', at_last hz, _, rfl, rfl, _, rfl, ?_⟩
        have el : r.getLast? = some (r.getLast hz) := List.getLast?_eq_getLast hz
        by_cases hx : r.getLast hz = it
        · refine ifF (by simp [hx]) ⟨_, rfl, rfl, _, rfl, ?_⟩
          rw [left_dec]
          refine ifF rfl ⟨_, rfl, 1, rfl, _, rfl, a, _, rfl, SqL.of h1', fun q hq => ?_⟩
          refine RowOut.new (r := r.dropLast) ?_ hq ?_
          · have e : stepped r ⟨false, false, it⟩ = some r.dropLast := by simp [stepped, el, hx]
            rw [e] at h'
            exact h'
          · exact cut_init r
        · refine ifT (by simp [hx]) ?_
          have e : stepped r ⟨false, false, it⟩ = none := by simp [stepped, el, hx]
          rw [e] at h'
          exact h' _ (Same.refl _)
end
end Dq
set_option maxHeartbeats 4000000
namespace Dq
open PySem PySem.Spec PyProof.Rows L2
/-- over the signs of a text -/
theorem lc_str {x : Str} {g : TG} {tt : TT} {te : TE} {vs : List Nat} {σ : L2.St} {H1 : Hp} {D : Addr} {Qd : Hp → Prop} (Pv : Nat → Hp → Prop) (h0 : Pv 0 (upd H1 D (.lst [])))
    (hs : ∀ i c H, x.cps[i]? = some c → Pv i H → g (.str ⟨#[c]⟩) (wipe σ vs) H fun σ2 H2 => wipe σ2 vs = wipe σ vs ∧ tt σ2 H2 fun b H3 =>
      if b = true then te σ2 H3 fun y H4 => ∃ acc, H4 D = some (.lst acc) ∧ acc.length < sizeLine ∧ Pv (i + 1) (upd H4 D (.lst (acc ++ [y]))) else Pv (i + 1) H3) (hd : ∀ H, Pv x.cps.size H → Qd H) :
    ∃ W : Nat → Nat → Hp → Prop, (∃ m, W 0 m (upd H1 D (.lst []))) ∧ ∀ i m H, W i m H →
      ((Its x).stop i H ∧ Qd H) ∨ ((Its x).go i H ∧ ∃ Nx : Hp → Prop, (∀ H', Nx H' → ∃ m', m' < m ∧ W (i + 1) m' H') ∧ ∀ y H', (Its x).yld i H y H' → g y (wipe σ vs) H' fun σ2 H2 => wipe σ2 vs = wipe σ vs ∧ tt σ2 H2 fun b H3 =>
        if b = true then te σ2 H3 fun y H4 => ∃ acc, H4 D = some (.lst acc) ∧ acc.length < sizeLine ∧ Nx (upd H4 D (.lst (acc ++ [y]))) else Nx H3) := by
  refine ⟨fun i m H => m = x.cps.size - i ∧ i ≤ x.cps.size ∧ Pv i H, ⟨x.cps.size, by simp, Nat.zero_le _, h0⟩, ?_⟩
  rintro i m H ⟨rfl, hi, p⟩
  by_cases hlt : i < x.cps.size
  · refine .inr ⟨hlt, Pv (i + 1), fun H' p' => ⟨x.cps.size - (i + 1), by omega, rfl, hlt, p'⟩, fun y H' q => ?_⟩
    obtain ⟨e, c, q, e2⟩ := q
    subst e e2
    exact hs i c _ q p
  · have e : i = x.cps.size := by omega
    subst e
    exact .inl ⟨Nat.le_refl _, hd H p⟩
section
variable {P : Program} {w : World} {K : PySem.W.Frag} {mg : Str → Option Value} {base : Heap} {f : Addr}
def spName : Sp := fun vs H Q _ => ∃ u : Str, vs = [.str u] ∧ OkU u ∧ ∀ H', Same H H' → Q (.bl true) H'
theorem scName : FnScope ["thing", "sign"] ["thing"] (defScope sIsName) := ⟨rfl, rfl, rfl, by decide +kernel, rfl, by decide +kernel, by decide +kernel⟩
theorem okU_len {u : Str} (h : OkU u) : u.length = 3 := by rcases h with rfl | rfl <;> decide +kernel
theorem okU_in {u : Str} (h : OkU u) : ∀ c ∈ u.cps.toList, c ∈ ("abcdefghijklmnopqrstuvwxyz" : Str).cps.toList := by rcases h with rfl | rfl <;> decide +kernel
theorem f_isName (N : Nm mg) (F : IsFn K "is_name" "is_name" sIsName f) : FnR P w K mg base CX0 1 f spName := by
  refine fn0 (k := 0) F scName (fun _ _ _ _ _ _ us hl => match us, hl with | [_], _ => rfl) (fun _ _ _ _ ⟨_, h, _⟩ => by rw [h]; rfl) fun cdv A outer s H vs Q E hr h => ?_
  obtain ⟨u, rfl, h1, h⟩ := h
  obtain ⟨t, ml⟩ := N.ml
  obtain ⟨t2, le⟩ := N.le
  refine ⟨_, pss_cons (ps_if (PW.pt (pw_or (pt_not (pt_val (pe_callB call_isi (by rfl) N.isi (by decide +kernel) (pa_cons (pv 0) (pa_cons (pe_bltn (v := .ty "str") (by rfl) N.str (by decide +kernel) rfl) pa_nil)))))
      (pw_or1 (pt_not (pt_chain op_le op_le pe_int (pe_callB call_len_str (by rfl) N.len (by decide +kernel) (pa_cons (pv 0) pa_nil)) (pe_glob (v := .int 8) rfl ml ⟨_, rfl⟩)))))) (pss_one (ps_ret pe_bl)) pss_nil)
    (pss_one (ps_ret (pe_callB (cr_all rfl) (by rfl) N.all (by decide +kernel) (pa_cons (pe_lc (own := [("sign", 1)]) (g := gName 1) (tt := tYes) rfl scName.nd (pi_str (pv 0)) (blkOk_by (N := ["thing", "sign"]) (sc := defScope sIsName) (by decide +kernel))
      (fun _ _ _ _ _ => pg_name (i := 1) scName.nd rfl (Or.inl rfl)) (fun _ _ _ _ _ => pts_nil) (fun _ _ _ _ _ => pe_cmpR op_in_sign (pv 1) (pe_glob (v := .str "abcdefghijklmnopqrstuvwxyz") rfl le ⟨_, rfl⟩) (by rfl))) pa_nil)))), ?_⟩
  refine ⟨_, rfl, .str u, .ty "str", _, _, true, rfl, .ty "str", .base (.str u), kit_ty (by decide +kernel), true, rfl, ?_⟩
  refine ifF rfl ⟨_, rfl, u, rfl, by rw [okU_len h1]; decide, ?_⟩
  rw [okU_len h1]
  refine ⟨_, _, rfl, rfl, true, rfl, ifT rfl ?_⟩
  refine ⟨_, _, rfl, rfl, true, rfl, ifF rfl ?_⟩
  refine ⟨_, rfl, u, rfl, fun D hD => ?_⟩
  refine lc_str (x := u) (fun i H' => Same H H' ∧ H' D = some (.lst ((List.replicate i true).map V.bl))) ⟨same_upd hD, upd_same⟩ (fun i c H' hx h' => ?_) (fun H' h' => ?_)
  · have hc : c ∈ u.cps.toList := by
      have := List.mem_of_getElem? (l := u.cps.toList) (i := i) (a := c) (by simpa using hx)
      exact this
    refine ⟨rfl, _, rfl, c, _, rfl, rfl, ?_⟩
    rw [decide_eq_true (okU_in h1 c hc)]
    refine ⟨_, h'.2, ?_, ?_⟩
    · have : i < u.cps.size := (Array.getElem?_eq_some_iff.mp hx).1
      have h3 : u.cps.size = 3 := okU_len h1
      simp
      exact thou (by omega)
    · rw [rep_snoc]
      exact ⟨fun b u e => by rw [upd_ne (ne_of_none e hD)]; exact h'.1 b u e, upd_same⟩
  · refine ⟨_, _, rfl, SqL.of h'.2, ?_⟩
    show Q (.bl ((List.replicate _ true).all id)) H'
    rw [all_true]
    exact h _ h'.1
def spIsCall : Sp := fun vs H Q _ => ∃ (a : Addr) (e : Str × List Stp), vs = [.ref a] ∧ IsEnt H a e ∧ Q (.bl true) H
theorem scIsCall : FnScope ["thing"] ["thing"] (defScope sIsCall) := ⟨rfl, rfl, rfl, by decide +kernel, rfl, by decide +kernel, by decide +kernel⟩
theorem f_isCall (N : Nm mg) (F : IsFn K "is_call" "is_call" sIsCall f) : FnR P w K mg base CX0 1 f spIsCall := by
  refine fn0 (k := 0) F scIsCall (fun _ _ _ _ _ _ us hl => match us, hl with | [_], _ => rfl) (fun _ _ _ _ ⟨_, _, h, _⟩ => by rw [h]; rfl) fun cdv A outer s H vs Q E hr h => ?_
  obtain ⟨a, e, rfl, ⟨b, h1, rs, h2, _⟩, h⟩ := h
  refine ⟨_, pss_one (ps_ret (pe_and (pe_callB call_isi (by rfl) N.isi (by decide +kernel) (pa_cons (pv 0) (pa_cons (pe_bltn (v := .ty "tuple") (by rfl) N.tuple (by decide +kernel) rfl) pa_nil)))
    (pe_and (pe_cmpR op_eq (pe_callB call_len_seq (by rfl) N.len (by decide +kernel) (pa_cons (pv 0) pa_nil)) pe_int (nomark _))
    (pe_one (pe_callB call_isi (by rfl) N.isi (by decide +kernel) (pa_cons (pe_ix ix_tup (pv 0) pe_int (fun _ _ => rfl)) (pa_cons (pe_bltn (v := .ty "list") (by rfl) N.list (by decide +kernel) rfl) pa_nil))))))), ?_⟩
  refine ⟨_, rfl, .ref a, .ty "tuple", _, _, true, rfl, .ty "tuple", .base (.tup h1), kit_ty (by decide +kernel), true, rfl, ?_⟩
  refine ⟨_, rfl, a, _, rfl, .inr (SqT.of h1), rfl, true, rfl, ?_⟩
  refine ⟨_, rfl, a, _, _, _, rfl, rfl, SqT.of h1, rfl, ?_⟩
  exact ⟨.ref b, .ty "list", _, _, true, rfl, .ty "list", .base (.lst h2), kit_ty (by decide +kernel), h⟩
end
end Dq
set_option maxHeartbeats 4000000
/-! The two exceptions that are raised; Session: __init__, row, limit, set_limit, after. -/
namespace Dq
open PySem PySem.Spec PyProof.Rows L2
abbrev bmR : List Value := [.type "RuntimeError", .type "Exception", .type "BaseException", .type "object"]
abbrev bmI : List Value := [.type "IndexError", .type "LookupError", .type "Exception", .type "BaseException", .type "object"]
structure TxX (K : PySem.W.Frag) (mg : Str → Option Value) (CF CN : Addr) : Prop where
  oF : OxC K CF "RuntimeError" "RuntimeError.__new__" "RuntimeError.__init__" bmR
  oN : OxC K CN "IndexError" "IndexError.__new__" "IndexError.__init__" bmI
  nR : mg "RuntimeError" = none
  nI : mg "IndexError" = none
  vF : PySem.W.findCls K (.type "RuntimeError") (.type "type") "__init__" = some (.val (.builtin "RuntimeError.__init__"))
  vN : PySem.W.findCls K (.type "IndexError") (.type "type") "__init__" = some (.val (.builtin "IndexError.__init__"))
  nv : PySem.W.findIn K (.ref CF) "value" = some none
structure MakX (P : Program) (w : World) (K : PySem.W.Frag) (mg : Str → Option Value) (base : Heap) (k : Nat) (x : Str) (C : Addr) (sp : Sp) : Prop where
  ex : ∃ fI, FnR P w K mg base CX0 k fI sp ∧ PySem.W.findIn K (.ref C) "__init__" = some (some (.ref fI)) ∧ PySem.W.typeIn K (.ref fI) = some (.type "function")
  m : mg x = some (.ref C)
structure CxS (K : PySem.W.Frag) (CS CK : Addr) : Prop where
  cl : ∀ b, Cls K (cof CS CK b)
  nr : ∀ b, NoAttr K (cof CS CK b) "own_row"
  nl : ∀ b, NoAttr K (cof CS CK b) "own_limit"
  nd : ∀ b, NoAttr K (cof CS CK b) "done"
  nu : ∀ b, NoAttr K (cof CS CK b) "undone"
  con : ∀ b, ∃ u, Con K (cof CS CK b) "MOST_ITEMS" (.int 200) u
section
variable {P : Program} {w : World} {K : PySem.W.Frag} {mg : Str → Option Value} {base : Heap} {f CF CN CS CK : Addr}
def spFailsI (CF : Addr) : Sp := fun vs H Q _ => ∃ (a : Addr) (v : V), vs = [.ref a, v] ∧ H a = some (exo a CF none) ∧ ∀ dx, H dx = none → dx ≠ a → Q .non (upd (upd H dx (exd dx [("value", v)])) a (exo a CF (some dx)))
theorem scFailsI : FnScope ["self", "value"] ["self", "value"] (defScope sFailsInit) := ⟨rfl, rfl, rfl, by decide +kernel, rfl, by decide +kernel, by decide +kernel⟩
theorem f_failsI (T : TxX K mg CF CN) (F : IsFn K "__init__" "Fails.__init__" sFailsInit f) : FnR P w K mg base CX0 1 f (spFailsI CF) := by
  refine fn0 (k := 0) F scFailsI (fun _ _ _ _ _ _ us hl => match us, hl with | [_, _], _ => rfl) (fun _ _ _ _ ⟨_, _, h, _⟩ => by rw [h]; rfl) fun cdv A outer s H vs Q E hr h => ?_
  obtain ⟨a, v, rfl, h1, h⟩ := h
  refine ⟨_, pss_cons (ps_expr (pe_binit (B := "RuntimeError") (newId := "RuntimeError.__new__") (bmB := bmR) (by rfl) T.nR (by decide +kernel) (by rfl) (by decide +kernel) T.vF (by rfl) (pa_cons (pv 0) (pa_cons (pv 1) pa_nil))))
    (pss_one (ps_osf (B := "RuntimeError") (newId := "RuntimeError.__new__") (initId := "RuntimeError.__init__") (bmB := bmR) (pv 0) (pv 1))), ?_⟩
  refine ⟨_, rfl, _, rfl, a, CF, [v], rfl, Nat.le_of_ble_eq_true rfl, T.oF, h1, ?_⟩
  exact ⟨_, rfl, _, rfl, a, CF, rfl, T.oF, T.nv, h1, h⟩
def spNothingI (CN : Addr) : Sp := fun vs H Q _ => ∃ a : Addr, vs = [.ref a] ∧ H a = some (exo a CN none) ∧ Q .non H
theorem scNothingI : FnScope ["self"] ["self"] (defScope sNothingInit) := ⟨rfl, rfl, rfl, by decide +kernel, rfl, by decide +kernel, by decide +kernel⟩
theorem f_nothingI (T : TxX K mg CF CN) (F : IsFn K "__init__" "NothingLeft.__init__" sNothingInit f) : FnR P w K mg base CX0 1 f (spNothingI CN) := by
  refine fn0 (k := 0) F scNothingI (fun _ _ _ _ _ _ us hl => match us, hl with | [_], _ => rfl) (fun _ _ _ _ ⟨_, h, _⟩ => by rw [h]; rfl) fun cdv A outer s H vs Q E hr h => ?_
  obtain ⟨a, rfl, h1, h⟩ := h
  refine ⟨_, pss_one (ps_expr (pe_binit (B := "IndexError") (newId := "IndexError.__new__") (bmB := bmI) (by rfl) T.nI (by decide +kernel) (by rfl) (by decide +kernel) T.vN (by rfl) (pa_cons (pv 0) (pa_cons pe_str pa_nil)))), ?_⟩
  exact ⟨_, rfl, a, CN, [_], rfl, Nat.le_of_ble_eq_true rfl, T.oN, h1, h⟩
theorem putF_len (f : Str) (v : V) : ∀ fs : List (Str × V), (putF f v fs).length ≤ fs.length + 1
  | [] => Nat.le_refl _
  | (g, x) :: r => by
    unfold putF
    split
    · simp
    · simp only [List.length_cons]
      have := putF_len f v r
      omega
theorem pf1 {f : Str} {v : V} : (putF f v []).length < 1000 := by
  have := putF_len f v []
  simp only [List.length_nil] at *
  omega
theorem pf2 {f g : Str} {v y : V} : (putF f v (putF g y [])).length < 1000 := by
  have := putF_len f v (putF g y [])
  have := putF_len g y []
  simp only [List.length_nil] at *
  omega
theorem pf3 {f g e : Str} {v y z : V} : (putF f v (putF g y (putF e z []))).length < 1000 := by
  have := putF_len f v (putF g y (putF e z []))
  have := putF_len g y (putF e z [])
  have := putF_len e z []
  simp only [List.length_nil] at *
  omega
/-! ### Session.__init__ -/
def spInit (CS CK : Addr) : Sp := fun vs H Q _ => ∃ (x a dx : Addr) (b : Bool) (r : List Int) (T : List (Addr × Str)) (G : Hp) (S : Own), vs = [.ref x, .ref a] ∧ Wd T G S H ∧ G x = none ∧ S x = none ∧ H x = some (.ins (cof CS CK b) dx []) ∧ IsRow H a r ∧ Sm r ∧ r.length ≤ 200 ∧
  ∀ G' S' H', Wd T G' S' H' → Same G G' → Fr [] S S' → Ses CS CK G' S' x (mkSe b r) → Q .non H'
theorem scInit : FnScope ["self", "row"] ["self", "row"] (defScope sInit) := ⟨rfl, rfl, rfl, by decide +kernel, rfl, by decide +kernel, by decide +kernel⟩
theorem f_init (N : Nm mg) (C : CxS K CS CK) (c : Glo P w K mg base CX0 4 "check_row" spCkRow) (F : IsFn K "__init__" "Session.__init__" sInit f) : FnR P w K mg base CX0 5 f (spInit CS CK) := by
  refine fn0 (k := 4) F scInit (fun _ _ _ _ _ _ us hl => match us, hl with | [_, _], _ => rfl) (fun _ _ _ _ ⟨_, _, _, _, _, _, _, _, h, _⟩ => by rw [h]; rfl) fun cdv A outer s H vs Q E hr h => ?_
  obtain ⟨x, a, dx, b, r, T, G, S, rfl, W, hG, hS, hx, ha, hm, hl, h⟩ := h
  obtain ⟨u, hc⟩ := C.con b
  refine ⟨_, pss_cons (ps_expr (pe_g c hr pass0 (pa_cons (pv 1) pa_nil)))
    (pss_cons (ps_fld (pv 0) (pe_callTy call_list_of (by rfl) N.list (by decide +kernel) (pa_cons (pv 1) pa_nil)) rfl)
    (pss_cons (ps_fld (pv 0) (pe_con (pv 0) rfl) rfl)
    (pss_cons (ps_fld (pv 0) (pe_lst pa_nil) rfl)
    (pss_one (ps_fld (pv 0) (pe_lst pa_nil) rfl))))), ?_⟩
  refine ⟨_, rfl, a, r, rfl, ha, fun i hi => (hm i hi).1, hl, fun H1 e1 => ?_⟩
  have W1 := (W.grow e1).addS (e1 _ _ hx) True.intro hG x hS
  have ha1 := ha.mono e1
  refine ⟨_, rfl, a, _, rfl, .inl (SqL.of ha1), fun p hp => ?_⟩
  obtain ⟨W2, eG⟩ := W1.new (o := .lst (r.map V.int)) hp True.intro
  have hx2 := (W2.s _ _ _ updS_same).1
  refine ⟨_, rfl, x, _, dx, _, rfl, hx2, C.cl b, C.nr b, by decide, ?_⟩
  have W3 := W2.wr (o' := .ins (cof CS CK b) dx (putF "own_row" (.ref p) [])) updS_same True.intro
  have hx3 := (W3.s _ _ _ updS_same).1
  refine ⟨_, rfl, x, _, dx, _, .int 200, u, rfl, hx3, C.cl b, hc, by rfl, ?_⟩
  refine ⟨_, rfl, x, _, dx, _, rfl, hx3, C.cl b, C.nl b, pf1, ?_⟩
  have W4 := W3.wr (o' := .ins (cof CS CK b) dx (putF "own_limit" (.int 200) (putF "own_row" (.ref p) []))) updS_same True.intro
  refine ⟨by decide, fun da hda => ?_⟩
  have W5 := W4.newS (o := .lst []) hda True.intro x
  have nda : x ≠ da := ne_of_none (W4.s _ _ _ updS_same).1 hda
  have hS5 : updS (updS (updS (updS S x x (.ins (cof CS CK b) dx [])) x x (.ins (cof CS CK b) dx (putF "own_row" (.ref p) []))) x x (.ins (cof CS CK b) dx (putF "own_limit" (.int 200) (putF "own_row" (.ref p) [])))) da x (.lst []) x = some (x, .ins (cof CS CK b) dx (putF "own_limit" (.int 200) (putF "own_row" (.ref p) []))) := by
    rw [updS_ne nda, updS_same]
  have hx5 := (W5.s _ _ _ hS5).1
  refine ⟨_, rfl, x, _, dx, _, rfl, hx5, C.cl b, C.nd b, pf2, ?_⟩
  have W6 := W5.wr (o' := .ins (cof CS CK b) dx (putF "done" (.ref da) (putF "own_limit" (.int 200) (putF "own_row" (.ref p) [])))) hS5 True.intro
  refine ⟨by decide, fun ua hua => ?_⟩
  have W7 := W6.newS (o := .lst []) hua True.intro x
  have nua : x ≠ ua := ne_of_none (W6.s _ _ _ updS_same).1 hua
  have hda6 := W6.s da x (.lst []) (by rw [updS_ne (Ne.symm nda), updS_same])
  have ndu : da ≠ ua := ne_of_none hda6.1 hua
  have hS7 : ∀ S0 : Own, updS (updS S0 x x (.ins (cof CS CK b) dx (putF "done" (.ref da) (putF "own_limit" (.int 200) (putF "own_row" (.ref p) []))))) ua x (.lst []) x = some (x, .ins (cof CS CK b) dx (putF "done" (.ref da) (putF "own_limit" (.int 200) (putF "own_row" (.ref p) [])))) := fun S0 => by
    rw [updS_ne nua, updS_same]
  have hx7 := (W7.s _ _ _ (hS7 _)).1
  refine ⟨_, rfl, x, _, dx, _, rfl, hx7, C.cl b, C.nu b, pf3, ?_⟩
  have W8 := W7.wr (o' := .ins (cof CS CK b) dx (putF "undone" (.ref ua) (putF "done" (.ref da) (putF "own_limit" (.int 200) (putF "own_row" (.ref p) []))))) (hS7 _) True.intro
  refine h _ _ _ W8 eG ?_ ?_
  · intro c v o _ hc
    have ncx : c ≠ x := fun z => by rw [z, hS] at hc; cases hc
    have hcH := (W.s _ _ _ hc).1
    have h1c := e1 _ _ hcH
    have ncda : c ≠ da := by
      refine ne_of_none (o := o) ?_ hda
      rw [upd_ne ncx, upd_ne ncx, upd_ne (ne_of_none h1c hp)]
      exact h1c
    have ncua : c ≠ ua := by
      refine ne_of_none (o := o) ?_ hua
      rw [upd_ne ncx, upd_ne ncda, upd_ne ncx, upd_ne ncx, upd_ne (ne_of_none h1c hp)]
      exact h1c
    rw [updS_ne ncx, updS_ne ncua, updS_ne ncx, updS_ne ncda, updS_ne ncx, updS_ne ncx, updS_ne ncx]
    exact hc
  · refine ⟨dx, p, da, ua, [], [], ?_, ?_, ?_, ndu, upd_same, .nil, .nil⟩
    · rw [updS_same]
      exact congrArg (fun z => some (x, HO.ins (cof CS CK b) dx z)) put_new
    · rw [updS_ne (Ne.symm nda), updS_ne ndu, updS_ne (Ne.symm nda), updS_same]
      rfl
    · rw [updS_ne (Ne.symm nua), updS_same]
      rfl
end
end Dq
set_option maxHeartbeats 1000000
/-! What the head leaves, as a Hook. -/
namespace Dq
open PySem PySem.Spec PyProof.Rows L2 He
open PySem.W (Frag findIn isFn subIn mroIn specialIn takesIn kitOne recIn fnIn readsIn nsIn exmOne typeIn keepIn clsIn codeIn findCls)
/-! ### defs at addresses -/
structure DefQ where
  at_ : Frag → Addr
  name : Str
  qual : Str
  st : Stmt
  clo : List Str
abbrev FnQ : Type := Option (Str × Str × Arguments × FuncBody × Scope × Addr × List Str × Value × Addr)
def fnQ (K : Frag) (a : Addr) : FnQ := match K.lookup a with
  | some ⟨_, _, .func fd, _⟩ => some (fd.name, fd.qualname, fd.params, fd.body, fd.scope, fd.globals, fd.closure.map (·.1), fd.defaults, fd.builtins)
  | _ => none
def DefQ.val (d : DefQ) : FnQ := some (d.name, d.qual, defArgs d.st, .stmts (defBody d.st), defScope d.st, mainGlobals, d.clo, .none, builtinsNs)
def DefQ.codeB (K : Frag) (d : DefQ) : Bool := match K.lookup (d.at_ K) with
  | some ⟨_, _, .func fd, _⟩ => codeIn K fd.code d.qual
  | _ => false
/-- the def at a, as fields -/
theorem DefQ.raw {K : Frag} {d : DefQ} (e : fnQ K (d.at_ K) = d.val) (c : d.codeB K = true) :
    ∃ oc od osl kV doc pm an cdv ct cl, K.lookup (d.at_ K) = some ⟨oc, od, .func (PySem.W.fnX d.name d.qual (defArgs d.st) (defBody d.st) (defScope d.st) cl .none kV doc pm an cdv ct), osl⟩ ∧ cl.map (·.1) = d.clo ∧ codeIn K cdv d.qual = true := by
  unfold DefQ.codeB at c
  unfold fnQ at e
  cases q : K.lookup (d.at_ K) with
  | none =>
    rw [q] at c
    cases c
  | some o =>
    obtain ⟨oc, od, dt, osl⟩ := o
    rw [q] at c e
    cases dt with
    | func fd =>
      obtain ⟨n1, n2, n3, n4, n5, n6, n7, n8, n9, n10, n11, n12, n13, n14, n15⟩ := fd
      have e2 : (some (n1, n2, n3, n4, n5, n6, n7.map (·.1), n8, n15) : FnQ) = some (d.name, d.qual, defArgs d.st, .stmts (defBody d.st), defScope d.st, mainGlobals, d.clo, .none, builtinsNs) := e
      simp only [Option.some.injEq, Prod.mk.injEq] at e2
      obtain ⟨h1, h2, h3, h4, h5, h6, h7, h8, h9⟩ := e2
      subst h1 h2 h3 h4 h5 h6 h8 h9
      exact ⟨oc, od, osl, n9, n10, n11, n12, n13, n14, n7, rfl, h7, c⟩
    | _ => cases c
theorem DefQ.is {K : Frag} {d : DefQ} (e : fnQ K (d.at_ K) = d.val) (c : d.codeB K = true) (hc : d.clo = []) : IsFn K d.name d.qual d.st (d.at_ K) := by
  obtain ⟨oc, od, osl, kV, doc, pm, an, cdv, ct, cl, h1, h2, h3⟩ := DefQ.raw e c
  rw [hc] at h2
  have h4 : cl = [] := List.map_eq_nil_iff.mp h2
  subst h4
  exact ⟨oc, od, kV, doc, pm, an, cdv, ct, osl, h1, h3⟩
/-! ### what is looked at -/
def cloG (g : Addr → Option Obj) (as : List Addr) : List Addr := as.flatMap fun a => match g a with
  | some ⟨_, _, .func fd, _⟩ => fd.closure.map (·.2)
  | _ => []
def asQ (g : Addr → Option Obj) (n : Nat) : List Addr := asD g n ++ (cStatics :: cloG g (asD g n))
abbrev AlQ : Type := Bool × List FnQ
def obsK (fa : List Fa) (fn : List DefQ) (tf : List Defn) (ex : Frag → Bool) (g : Addr → Option Obj) (K : Frag) : AlQ := ((fa.all fun f => f.ok K) && ((fn.all fun d => d.codeB K) && (ex K && tabsB g tf K)), fn.map fun d => fnQ K (d.at_ K))
def obsQ (n : Nat) (fa : List Fa) (fn : List DefQ) (tf : List Defn) (ex : Frag → Bool) (g : Addr → Option Obj) : AlQ := obsK fa fn tf ex g (frT g (asQ g n))
structure SaysQ (fa : List Fa) (fn : List DefQ) (tf : List Defn) (ex : Frag → Bool) (h : Heap) (K : Frag) : Prop where
  fact : ∀ f ∈ fa, f.ok K = true
  code : ∀ d ∈ fn, d.codeB K = true
  defs : ∀ d ∈ fn, fnQ K (d.at_ K) = d.val
  more : ex K = true
  hd : ∀ p ∈ tf, PySem.W.codeHdIn K (cT K p).1 (cT K p).2 = true
  out : ∀ p ∈ tf, K.lookup (cT K p).2 = none
  empty : ∀ p ∈ tf, h.get? (cT K p).2 = some { cls := .none, data := .fields #[] }
theorem saysQ_of {n : Nat} {fa : List Fa} {fn : List DefQ} {tf : List Defn} {ex : Frag → Bool} {h : Heap} (e : obsQ n fa fn tf ex h.get? = (true, fn.map DefQ.val)) : SaysQ fa fn tf ex h (frT h.get? (asQ h.get? n)) := by
  have e1 : ((fa.all fun f => f.ok (frT h.get? (asQ h.get? n))) && ((fn.all fun d => d.codeB (frT h.get? (asQ h.get? n))) && (ex (frT h.get? (asQ h.get? n)) && tabsB h.get? tf (frT h.get? (asQ h.get? n))))) = true := congrArg (fun z : AlQ => z.1) e
  have e2 : fn.map (fun d => fnQ (frT h.get? (asQ h.get? n)) (d.at_ (frT h.get? (asQ h.get? n)))) = fn.map DefQ.val := congrArg (fun z : AlQ => z.2) e
  obtain ⟨h1, e1⟩ := ba e1
  obtain ⟨h2, e1⟩ := ba e1
  obtain ⟨h3, h4⟩ := ba e1
  have key : ∀ p ∈ tf, PySem.W.codeHdIn (frT h.get? (asQ h.get? n)) (cT (frT h.get? (asQ h.get? n)) p).1 (cT (frT h.get? (asQ h.get? n)) p).2 = true ∧ ∃ o, h.get? (cT (frT h.get? (asQ h.get? n)) p).2 = some o ∧ emptyTab o = true := fun p hp => by
    obtain ⟨h5, h6⟩ := ba (List.all_eq_true.mp h4 p hp)
    refine ⟨h5, ?_⟩
    cases q : h.get? (cT (frT h.get? (asQ h.get? n)) p).2 with
    | none =>
      rw [q] at h6
      cases h6
    | some o =>
      rw [q] at h6
      exact ⟨o, rfl, h6⟩
  exact ⟨List.all_eq_true.mp h1, List.all_eq_true.mp h2, List.map_inj_left.mp e2, h3, fun p hp => (key p hp).1, fun p hp => by
    obtain ⟨_, o, q, z⟩ := key p hp
    exact frT_none q z, fun p hp => by
    obtain ⟨_, o, q, z⟩ := key p hp
    rw [q, emptyTab_eq z]⟩
def hookQ (n : Nat) (fa : List Fa) (fn : List DefQ) (tf : List Defn) (ex : Frag → Bool) : PySem.W.Hook where
  α := AlQ
  obs := fun s => obsQ n fa fn tf ex s.heap.get?
  val := fun _ => (true, fn.map DefQ.val)
  says := fun _ h => ∃ K : Frag, K.In h ∧ SaysQ fa fn tf ex h K
  of := fun _ _ e => ⟨_, frT_in, saysQ_of e⟩
  keeps := fun _ _ _ ⟨K, hK, c⟩ k => ⟨K, PySem.W.Frag.In.keeps hK k, ⟨c.fact, c.code, c.defs, c.more, c.hd, c.out, fun p hp => k _ _ (c.empty p hp)⟩⟩
theorem obsQ_eq {n : Nat} {fa : List Fa} {fn : List DefQ} {tf : List Defn} {ex : Frag → Bool} {g : Addr → Option Obj} {s : Shared} (h : ∀ a, g a = s.heap.get? a) : obsQ n fa fn tf ex g = (hookQ n fa fn tf ex).obs s := by
  have e : g = s.heap.get? := funext h
  rw [e] <;> rfl
/-! ### addresses -/
def aS (K : Frag) : Addr := ga K "Session"
def aK (K : Frag) : Addr := ga K "KeptSession"
def aF (K : Frag) : Addr := ga K "Fails"
def aN (K : Frag) : Addr := ga K "NothingLeft"
def recAt (K : Frag) (C : Addr) (T : String) (m : Str) : Addr := match recIn K (ma K C m) T with
  | some (.ref f :: _) => f
  | _ => 0
/-- KeptSession.after's cell, code -/
def aCC (K : Frag) : Addr := match K.lookup (ma K (aK K) "after") with
  | some ⟨_, _, .func fd, _⟩ => (match fd.closure with
    | (_, c) :: _ => c
    | [] => 0)
  | _ => 0
def aCD (K : Frag) : Addr := match K.lookup (ma K (aK K) "after") with
  | some ⟨_, _, .func fd, _⟩ => (match fd.code with
    | .ref c => c
    | _ => 0)
  | _ => 0
/-! ### the defs -/
def gD (x : Str) (st : Stmt) : DefQ := ⟨fun K => ga K x, x, x, st, []⟩
def sD (m : Str) (q : Str) (st : Stmt) : DefQ := ⟨fun K => ma K (aS K) m, m, q, st, []⟩
def kD (m : Str) (q : Str) (st : Stmt) : DefQ := ⟨fun K => ma K (aK K) m, m, q, st, []⟩
def fns : List DefQ := [
  gD "is_integer" sIsInteger, gD "is_within" sIsWithin, gD "is_item" sIsItem, gD "is_row" sIsRow, gD "is_word" sIsWord, gD "is_step" sIsStep, gD "check_row" sCheckRow, gD "check_steps" sCheckSteps, gD "stepped" sStepped, gD "is_name" sIsName, gD "is_call" sIsCall,
  sD "__init__" "Session.__init__" sInit, sD "set_limit" "Session.set_limit" sSetLimit, sD "after" "Session.after" sAfter, sD "do" "Session.do" sDo, sD "undo" "Session.undo" sUndo, sD "redo" "Session.redo" sRedo, sD "log" "Session.log" sLog, sD "copied" "Session.copied" sCopied, sD "twin" "Session.twin" sTwin,
  sD "is_kept" "Session.is_kept" sIsKept, sD "__len__" "Session.__len__" sLen, sD "__eq__" "Session.__eq__" sEq, kD "twin" "KeptSession.twin" sTwinK, kD "is_kept" "KeptSession.is_kept" sIsKeptK,
  ⟨fun K => recAt K (aS K) "property" "row", "row", "Session.row", sRow, []⟩, ⟨fun K => recAt K (aS K) "property" "limit", "limit", "Session.limit", sLimit, []⟩, ⟨fun K => recAt K (aS K) "classmethod" "replayed", "replayed", "Session.replayed", sReplayed, []⟩,
  ⟨fun K => ma K (aF K) "__init__", "__init__", "Fails.__init__", sFailsInit, []⟩, ⟨fun K => ma K (aN K) "__init__", "__init__", "NothingLeft.__init__", sNothingInit, []⟩,
  gD "_law_pool" sPool, gD "_law_take" sTake, gD "_law_after" sLAfter, gD "_law_led" sLed, gD "_law_guided" sGuided, gD "_law_tried" sTried, gD "_law_told" sTold, gD "_law_called" sCalled, gD "_law_step" sStep, gD "_law_state" sState, gD "_law_led_back" sLedBack,
  gD "_law_alone" sAlone, gD "_law_unlike" sUnlike, gD "_law_full" sFull, gD "_law_empty_right" sEmptyRight, gD "law" sLaw,
  ⟨fun K => ma K (aK K) "after", "after", "KeptSession.after", sAfterK, ["__class__"]⟩]
def gls : List Str := ["is_integer", "is_within", "is_item", "is_row", "is_word", "is_step", "check_row", "check_steps", "stepped", "is_name", "is_call", "Session", "KeptSession", "Fails", "NothingLeft",
  "_law_pool", "_law_take", "_law_after", "_law_led", "_law_guided", "_law_tried", "_law_told", "_law_called", "_law_step", "_law_state", "_law_led_back", "_law_alone", "_law_unlike", "_law_full", "_law_empty_right", "law"]
def frees : List Str := ["isinstance", "int", "bool", "all", "list", "len", "str", "tuple", "enumerate", "repr", "range", "max", "min", "super", "RuntimeError", "IndexError"]
def fas : List Fa := (gls.map Fa.glo) ++ (gls.map Fa.keep) ++ (frees.map Fa.free) ++ [.int "MOST_ITEMS" 200, .int "MOST_STEPS" 60, .int "MOST_LETTERS" 8, .str "LETTERS" "abcdefghijklmnopqrstuvwxyz",
  .cls "Session", .cls "KeptSession", .mkr "Session", .mkr "KeptSession", .exm "Fails" "Fails" true, .exm "NothingLeft" "Fails" false, .exm "NothingLeft" "NothingLeft" true] ++
  ((["own_row", "own_limit", "done", "undone"] : List Str).flatMap fun f => [Fa.noat "Session" f, Fa.noat "KeptSession" f]) ++ ((["set_limit", "after", "do", "undo", "redo", "log", "copied", "twin", "is_kept"] : List Str).flatMap fun m => [Fa.meth "Session" m, Fa.meth "KeptSession" m])
def tfs : List Defn := [("_law_step", none), ("_law_alone", none), ("_law_full", none), ("_law_empty_right", none)]
/-! ### further facts -/
def valB (K : Frag) (T : String) (u : String) : Bool := match findCls K (.type T) (.type "type") "__init__" with
  | some (.val (.builtin i)) => decide (i = u)
  | _ => false
def conQ (K : Frag) (C : Addr) : Bool := (match findIn K (.ref C) "MOST_ITEMS" with
  | some (some (.int i t)) => decide (i = 200) && decide (specialIn K (.int i t) "__get__" = some none)
  | _ => false)
def excQ (K : Frag) (C : Addr) (bmB : List Value) (newId : String) : Bool := match K.lookup C with
  | some ⟨.type "type", _, .cls cd, sl⟩ => (match cd.mro, sl.toList with
    | .ref C' :: bm, [_, _, _, _, some (.builtin n), _] => C' == C && (n == newId && (!cd.hasDel && (cd.hasDict && PySem.W.excTail bmB bm)))
    | _, _ => false)
  | _ => false
def codeFile (K : Frag) (c : Addr) (file : Str) : Bool := match K.lookup c with
  | some ⟨_, _, .fields vs, _⟩ => (match (vs[2]? : Option Value) with
    | some (.str z _) => decide (z = file)
    | _ => false)
  | _ => false
def cellB (K : Frag) (c a : Addr) : Bool := match K.lookup c with
  | some ⟨_, _, .cell (some (.ref b)), _⟩ => decide (b = a)
  | _ => false
def recB (K : Frag) (p : Addr) (T : String) : Bool := match recIn K p T with
  | some (.ref _ :: _) => true
  | _ => false
/-- of one class -/
def clsFacts : List (Frag → Addr → Bool) := [
  fun K C => eqO (findIn K (.ref C) "__class__") (some (some (.builtin "object.__class__"))),
  fun K C => decide (mroIn K C (.type "object") = some true),
  fun K C => decide (kitOne K (.ref C) (.ref (aS K)) = some true),
  fun K C => eqO (findIn K (.ref C) "__eq__") (some (some (.ref (ma K (aS K) "__eq__")))),
  fun K C => eqO (findIn K (.ref C) "__ne__") (some (some (.builtin "object.__ne__"))),
  fun K C => decide (subIn K (.type "list") (.ref C) = some false),
  fun K C => eqO (findIn K (.ref C) "__len__") (some (some (.ref (ma K (aS K) "__len__")))),
  fun K C => conQ K C,
  fun K C => decide (ma K C "set_limit" = ma K (aS K) "set_limit"),
  fun K C => decide (ma K C "do" = ma K (aS K) "do"),
  fun K C => decide (ma K C "undo" = ma K (aS K) "undo"),
  fun K C => decide (ma K C "redo" = ma K (aS K) "redo"),
  fun K C => decide (ma K C "log" = ma K (aS K) "log"),
  fun K C => decide (ma K C "copied" = ma K (aS K) "copied"),
  fun K C => decide (ma K C "__init__" = ma K (aS K) "__init__"),
  fun K C => eqO (findIn K (.ref C) "row") (some (some (.ref (ma K (aS K) "row")))),
  fun K C => eqO (findIn K (.ref C) "limit") (some (some (.ref (ma K (aS K) "limit")))),
  fun K C => readsIn K C (.type "type"),
  fun K C => eqO (specialIn K (.ref C) "__getattribute__") (some (some (.builtin "type.__getattribute__"))),
  fun K C => He5.wrapB K C "classmethod" "classmethod.__get__" "replayed",
  fun K C => decide (ma K C "replayed" = ma K (aS K) "replayed")]
def excFacts (bm : List Value) (B newId initId : String) : List (Frag → Addr → Bool) := [
  fun K C => excQ K C bm newId,
  fun K C => eqO (findIn K (.ref C) "__setattr__") (some (some (.builtin "object.__setattr__"))),
  fun K C => decide (subIn K (.ref C) (.type "BaseException") = some true),
  fun K C => decide (typeIn K (.ref C) = some (.type "type")),
  fun K C => keepIn K (.ref C),
  fun K C => valB K B initId,
  fun K C => eqO (findIn K (.ref C) "__init__") (some (some (.ref (ma K C "__init__")))),
  fun K C => decide (typeIn K (.ref (ma K C "__init__")) = some (.type "function"))]
def moreFacts : List (Frag → Bool) := [
  fun K => eqO (specialIn K (.builtin "object.__class__") "__get__") (some (some (.builtin "getset_descriptor.__get__"))),
  fun K => decide (takesIn K (.builtin "object.__class__") = some true),
  fun K => decide (kitOne K (.type "list") (.ref (aS K)) = some false),
  fun K => isFn K (.ref (ma K (aS K) "__eq__")),
  fun K => isFn K (.ref (ma K (aS K) "__len__")),
  fun K => !decide (aS K = aK K),
  fun K => decide (subIn K (.ref (aK K)) (.ref (aS K)) = some true),
  fun K => decide (subIn K (.ref (aS K)) (.ref (aK K)) = some false),
  fun K => eqO (specialIn K (.ref (ma K (aS K) "row")) "__get__") (some (some (.builtin "property.__get__"))),
  fun K => decide (takesIn K (.ref (ma K (aS K) "row")) = some true),
  fun K => recB K (ma K (aS K) "row") "property",
  fun K => eqO (specialIn K (.ref (ma K (aS K) "limit")) "__get__") (some (some (.builtin "property.__get__"))),
  fun K => decide (takesIn K (.ref (ma K (aS K) "limit")) = some true),
  fun K => recB K (ma K (aS K) "limit") "property",
  fun K => fnIn K (recAt K (aS K) "classmethod" "replayed"),
  fun K => eqO (specialIn K (.ref (ma K (aS K) "do")) "__get__") (some (some (.builtin "function.__get__"))),
  fun K => decide (takesIn K (.ref (ma K (aS K) "do")) = some false),
  fun K => fnIn K (ma K (aS K) "do"),
  fun K => eqO (findIn K (.ref (aF K)) "value") (some none),
  fun K => xfB K (aF K),
  fun K => codeIn K (.ref (aCD K)) "KeptSession.after",
  fun K => codeFile K (aCD K) prog.main.file,
  fun K => cellB K (aCC K) (aK K),
  fun K => (clsIn K (aK K)).isSome,
  fun K => decide (mroIn K (aK K) (.ref (aK K)) = some true),
  fun K => eqO (nsIn K cStatics "thirdparty.any") (some none),
  fun K => eqO (PySem.W.ks_superIn K (aK K) (aK K) "after") (some (some (.ref (ma K (aS K) "after")))),
  fun K => decide (typeIn K (.ref (ma K (aS K) "after")) = some (.type "function")),
  fun K => fnIn K (ma K (aS K) "after"),
  fun K => decide ((tfs.map fun p => (cT K p).2).Nodup)]
def ex (K : Frag) : Bool := (clsFacts.all fun f => f K (aS K)) && ((clsFacts.all fun f => f K (aK K)) && (((excFacts bmR "RuntimeError" "RuntimeError.__new__" "RuntimeError.__init__").all fun f => f K (aF K)) && (((excFacts bmI "IndexError" "IndexError.__new__" "IndexError.__init__").all fun f => f K (aN K)) && moreFacts.all fun f => f K)))
end Dq
set_option maxHeartbeats 0
/-! The head's run. -/
namespace Dq
open PySem PySem.Spec PyProof.Rows L2
def loose : List Str := (prog.main.scope.names.map (·.1)).filter fun x => !decide (x = ("law" : Str))
abbrev R : PySem.W.OpenRow := PySem.W.OpenLaw.row PySem.Challenge.rw_dequeeffect_k72_whole_twins_replays_kept
abbrev hk : PySem.W.Hook := hookQ 6 fas fns tfs ex
def ob (s : PySem.W.SharedT) : AlQ := obsQ 6 fas fns tfs ex (HandSHeadRun.getT s)
theorem ob_eq (s : PySem.W.SharedT) : ob s = hk.obs s.abs := obsQ_eq (HandSHeadRun.getT_eq s)
theorem run (w : World) : HandSHeadRun.RunEq R (PySem.W.view R.prog [48]) hk ob 20000 loose w := by
  intro os
  kernel_rfl
end Dq
set_option maxHeartbeats 4000000
/-! Session: row, limit, set_limit, after, len, is_kept, log, copied, twin. -/
namespace Dq
open PySem PySem.Spec PyProof.Rows L2
/-- an object outside the world changes -/
theorem Wd.other {T : List (Addr × Str)} {G H : Hp} {S : Own} {a : Addr} {o o' : HO} (W : Wd T G S H) (h : H a = some o) (po : Pl o) (hg : G a = none) (hs : S a = none) : Wd T G S (upd H a o') := by
  refine ⟨fun b u e => ?_, fun b v u e => ?_, tabs_upd W.t h po⟩
  · have q : b ≠ a := fun z => by rw [z, hg] at e; cases e
    rw [upd_ne q]
    exact W.g b u e
  · have q : b ≠ a := fun z => by rw [z, hs] at e; cases e
    rw [upd_ne q]
    exact W.s b v u e
/-- what a session's parts are in the heap -/
theorem Ses.op {CS CK x : Addr} {T : List (Addr × Str)} {G H : Hp} {S : Own} {s : Se} (W : Wd T G S H) (h : Ses CS CK G S x s) : ∃ (dx ra da ua : Addr) (dr ur : List Addr), S x = some (x, .ins (cof CS CK s.kept) dx (sfs ra s.lim da ua)) ∧ S da = some (x, .lst (dr.map V.ref)) ∧ S ua = some (x, .lst (ur.map V.ref)) ∧ da ≠ ua ∧
    IsRow G ra s.row ∧ Paired (IsCall G) dr s.done ∧ Paired (IsCall G) ur s.undone ∧ H x = some (.ins (cof CS CK s.kept) dx (sfs ra s.lim da ua)) ∧ H da = some (.lst (dr.map V.ref)) ∧ H ua = some (.lst (ur.map V.ref)) ∧ IsRow H ra s.row ∧ da ≠ x ∧ ua ≠ x := by
  obtain ⟨dx, ra, da, ua, dr, ur, h1, h2, h3, h4, h5, h6, h7⟩ := h.ex
  refine ⟨dx, ra, da, ua, dr, ur, h1, h2, h3, h4, h5, h6, h7, (W.s _ _ _ h1).1, (W.s _ _ _ h2).1, (W.s _ _ _ h3).1, h5.mono W.same, fun z => ?_, fun z => ?_⟩
  · rw [z, h1] at h2
    cases h2
  · rw [z, h1] at h3
    cases h3
theorem Wd.inst {T : List (Addr × Str)} {G H : Hp} {S : Own} {x dx C : Addr} (W : Wd T G S H) (hx : H x = none) (hd : H dx = none) (ne : dx ≠ x) : Wd T G S (upd (upd H dx (.own x)) x (.ins C dx [])) ∧ G x = none ∧ S x = none ∧ Same H (upd (upd H dx (.own x)) x (.ins C dx [])) := by
  have e1 : Same H (upd H dx (.own x)) := same_upd hd
  have e2 : Same (upd H dx (.own x)) (upd (upd H dx (.own x)) x (.ins C dx [])) := same_upd (by rw [upd_ne (Ne.symm ne)]; exact hx)
  exact ⟨(W.grow e1).grow e2, W.noG hx, W.noS hx, e1.trans e2⟩
section
variable {P : Program} {w : World} {K : PySem.W.Frag} {mg : Str → Option Value} {base : Heap} {f CF CN CS CK : Addr}
def spRow (CS CK : Addr) : Sp := fun vs H Q _ => ∃ (x : Addr) (s : Se) (T : List (Addr × Str)) (G : Hp) (S : Own), vs = [.ref x] ∧ Wd T G S H ∧ Ses CS CK G S x s ∧ ∀ p, H p = none → Q (.ref p) (upd H p (.lst (s.row.map V.int)))
theorem scRow : FnScope ["self"] ["self"] (defScope sRow) := ⟨rfl, rfl, rfl, by decide +kernel, rfl, by decide +kernel, by decide +kernel⟩
theorem f_row (N : Nm mg) (C : CxS K CS CK) (F : IsFn K "row" "Session.row" sRow f) : FnR P w K mg base CX0 1 f (spRow CS CK) := by
  refine fn0 (k := 0) F scRow (fun _ _ _ _ _ _ us hl => match us, hl with | [_], _ => rfl) (fun _ _ _ _ ⟨_, _, _, _, _, h, _⟩ => by rw [h]; rfl) fun cdv A outer s H vs Q E hr h => ?_
  obtain ⟨x, s, T, G, S, rfl, W, hs, h⟩ := h
  obtain ⟨dx, ra, da, ua, dr, ur, h1, h2, h3, h4, h5, h6, h7, k1, k2, k3, k4, k5, k6⟩ := hs.op W
  refine ⟨_, pss_one (ps_ret (pe_callTy call_list_of (by rfl) N.list (by decide +kernel) (pa_cons (pe_fld (pv 0) rfl) pa_nil))), ?_⟩
  exact ⟨_, rfl, x, _, dx, _, _, rfl, k1, C.cl _, C.nr _, sfs_row, ra, _, rfl, .inl (SqL.of k4), h⟩
def spLimit (CS CK : Addr) : Sp := fun vs H Q _ => ∃ (x : Addr) (s : Se) (T : List (Addr × Str)) (G : Hp) (S : Own), vs = [.ref x] ∧ Wd T G S H ∧ Ses CS CK G S x s ∧ Q (.int s.lim) H
theorem scLimit : FnScope ["self"] ["self"] (defScope sLimit) := ⟨rfl, rfl, rfl, by decide +kernel, rfl, by decide +kernel, by decide +kernel⟩
theorem f_limit (C : CxS K CS CK) (F : IsFn K "limit" "Session.limit" sLimit f) : FnR P w K mg base CX0 1 f (spLimit CS CK) := by
  refine fn0 (k := 0) F scLimit (fun _ _ _ _ _ _ us hl => match us, hl with | [_], _ => rfl) (fun _ _ _ _ ⟨_, _, _, _, _, h, _⟩ => by rw [h]; rfl) fun cdv A outer s H vs Q E hr h => ?_
  obtain ⟨x, s, T, G, S, rfl, W, hs, h⟩ := h
  obtain ⟨dx, ra, da, ua, dr, ur, h1, h2, h3, h4, h5, h6, h7, k1, k2, k3, k4, k5, k6⟩ := hs.op W
  refine ⟨_, pss_one (ps_ret (pe_fld (pv 0) rfl)), ?_⟩
  exact ⟨_, rfl, x, _, dx, _, _, rfl, k1, C.cl _, C.nl _, sfs_lim, h⟩
def spLen (CS CK : Addr) : Sp := fun vs H Q _ => ∃ (x : Addr) (s : Se) (T : List (Addr × Str)) (G : Hp) (S : Own), vs = [.ref x] ∧ Wd T G S H ∧ Ses CS CK G S x s ∧ Q (.int s.done.length) H
theorem scLen : FnScope ["self"] ["self"] (defScope sLen) := ⟨rfl, rfl, rfl, by decide +kernel, rfl, by decide +kernel, by decide +kernel⟩
theorem f_len (N : Nm mg) (C : CxS K CS CK) (F : IsFn K "__len__" "Session.__len__" sLen f) : FnR P w K mg base CX0 1 f (spLen CS CK) := by
  refine fn0 (k := 0) F scLen (fun _ _ _ _ _ _ us hl => match us, hl with | [_], _ => rfl) (fun _ _ _ _ ⟨_, _, _, _, _, h, _⟩ => by rw [h]; rfl) fun cdv A outer s H vs Q E hr h => ?_
  obtain ⟨x, s, T, G, S, rfl, W, hs, h⟩ := h
  obtain ⟨dx, ra, da, ua, dr, ur, h1, h2, h3, h4, h5, h6, h7, k1, k2, k3, k4, k5, k6⟩ := hs.op W
  refine ⟨_, pss_one (ps_ret (pe_callB call_len_seq (by rfl) N.len (by decide +kernel) (pa_cons (pe_fld (pv 0) rfl) pa_nil))), ?_⟩
  refine ⟨_, rfl, x, _, dx, _, _, rfl, k1, C.cl _, C.nd _, sfs_done, da, _, rfl, .inl (SqL.of k2), ?_⟩
  rw [List.length_map, h6.length]
  exact h
def spKept (b : Bool) : Sp := fun vs H Q _ => ∃ x : Addr, vs = [.ref x] ∧ Q (.bl b) H
theorem scKept : FnScope ["self"] ["self"] (defScope sIsKept) := ⟨rfl, rfl, rfl, by decide +kernel, rfl, by decide +kernel, by decide +kernel⟩
theorem f_kept (F : IsFn K "is_kept" "Session.is_kept" sIsKept f) : FnR P w K mg base CX0 1 f (spKept false) := by
  refine fn0 (k := 0) F scKept (fun _ _ _ _ _ _ us hl => match us, hl with | [_], _ => rfl) (fun _ _ _ _ ⟨_, h, _⟩ => by rw [h]; rfl) fun cdv A outer s H vs Q E hr h => ?_
  obtain ⟨x, rfl, h⟩ := h
  exact ⟨_, pss_one (ps_ret pe_bl), h⟩
theorem scKeptK : FnScope ["self"] ["self"] (defScope sIsKeptK) := ⟨rfl, rfl, rfl, by decide +kernel, rfl, by decide +kernel, by decide +kernel⟩
theorem f_keptK (F : IsFn K "is_kept" "KeptSession.is_kept" sIsKeptK f) : FnR P w K mg base CX0 1 f (spKept true) := by
  refine fn0 (k := 0) F scKeptK (fun _ _ _ _ _ _ us hl => match us, hl with | [_], _ => rfl) (fun _ _ _ _ ⟨_, h, _⟩ => by rw [h]; rfl) fun cdv A outer s H vs Q E hr h => ?_
  obtain ⟨x, rfl, h⟩ := h
  exact ⟨_, pss_one (ps_ret pe_bl), h⟩
def spSetLimit (CS CK : Addr) : Sp := fun vs H Q _ => ∃ (x : Addr) (n : Nat) (s : Se) (T : List (Addr × Str)) (G : Hp) (S : Own), vs = [.ref x, .int n] ∧ Wd T G S H ∧ Ses CS CK G S x s ∧ s.row.length ≤ n ∧ n ≤ 200 ∧
  ∀ S' H', Wd T G S' H' → Fr [x] S S' → Ses CS CK G S' x { s with lim := n } → Q .non H'
theorem scSetLimit : FnScope ["self", "value", "MOST_ITEMS"] ["self", "value"] (defScope sSetLimit) := ⟨rfl, rfl, rfl, by decide +kernel, rfl, by decide +kernel, by decide +kernel⟩
theorem f_setLimit (N : Nm mg) (C : CxS K CS CK) (c : Glo P w K mg base CX0 2 "is_within" spWithin) (F : IsFn K "set_limit" "Session.set_limit" sSetLimit f) : FnR P w K mg base CX0 3 f (spSetLimit CS CK) := by
  refine fn0 (k := 2) F scSetLimit (fun _ _ _ _ _ _ us hl => match us, hl with | [_, _], _ => rfl) (fun _ _ _ _ ⟨_, _, _, _, _, _, h, _⟩ => by rw [h]; rfl) fun cdv A outer s H vs Q E hr h => ?_
  obtain ⟨x, n, s, T, G, S, rfl, W, hs, hn1, hn2, h⟩ := h
  obtain ⟨dx, ra, da, ua, dr, ur, h1, h2, h3, h4, h5, h6, h7, k1, k2, k3, k4, k5, k6⟩ := hs.op W
  obtain ⟨u, hc⟩ := C.con s.kept
  refine ⟨_, pss_cons (ps_set (i := 2) scSetLimit.nd rfl (Or.inl rfl) (pe_con (pv 0) rfl))
    (pss_cons (ps_if (pt_not (pt_val (pe_g c hr pass0 (pa_cons (pv 1) (pa_cons (pe_callB call_len_seq (by rfl) N.len (by decide +kernel) (pa_cons (pe_fld (pv 0) rfl) pa_nil)) (pa_cons (pv 2) pa_nil)))))) (pss_one ps_never) pss_nil)
    (pss_one (ps_fld (pv 0) (pv 1) rfl))), ?_⟩
  refine ⟨_, rfl, x, _, dx, _, .int 200, u, rfl, k1, C.cl _, hc, by rfl, ?_⟩
  refine ⟨_, rfl, _, rfl, x, _, dx, _, _, rfl, k1, C.cl _, C.nr _, sfs_row, ra, _, rfl, .inl (SqL.of k4), ?_⟩
  refine ⟨_, rfl, _, _, _, rfl, ?_, ?_, true, rfl, ifF rfl ?_⟩
  · rw [List.length_map]
    exact Int.ofNat_le.mpr hn1
  · exact Int.ofNat_le.mpr hn2
  refine ⟨_, rfl, _, rfl, x, _, dx, _, rfl, k1, C.cl _, C.nl _, by show (4 : Nat) < 1000; decide, ?_⟩
  have e : putF (Str.ofString "own_limit") (.int n) (sfs ra s.lim da ua) = sfs ra n da ua := put_lim
  rw [e]
  refine h _ _ (W.wr h1 True.intro) (Fr.upd h1 (by simp)) ⟨dx, ra, da, ua, dr, ur, updS_same, ?_, ?_, h4, h5, h6, h7⟩
  · rw [updS_ne k5]
    exact h2
  · rw [updS_ne k6]
    exact h3
/-! ### after -/
def spAft (CS CK : Addr) : Sp := fun vs H Q _ => ∃ (x a b : Addr) (r : List Int) (st : Stp) (s : Se) (T : List (Addr × Str)) (G : Hp) (S : Own), vs = [.ref x, .ref a, .ref b] ∧ Wd T G S H ∧ Ses CS CK G S x s ∧ IsRow H a r ∧ IsStp H b st ∧ Sm r ∧ r.length ≤ 1000 ∧ RowOut H Q (aft s.lim r st)
def spAfter (CS CK : Addr) (k : Bool) : Sp := fun vs H Q _ => ∃ (x a b : Addr) (r : List Int) (st : Stp) (s : Se) (T : List (Addr × Str)) (G : Hp) (S : Own), vs = [.ref x, .ref a, .ref b] ∧ s.kept = k ∧ Wd T G S H ∧ Ses CS CK G S x s ∧ IsRow H a r ∧ IsStp H b st ∧ Sm r ∧ SmS st ∧ r.length ≤ 1000 ∧ RowOut H Q (after k s.lim r st)
theorem scAfter : FnScope ["self", "row", "step"] ["self", "row", "step"] (defScope sAfter) := ⟨rfl, rfl, rfl, by decide +kernel, rfl, by decide +kernel, by decide +kernel⟩
theorem f_aft (N : Nm mg) (C : CxS K CS CK) (c : Glo P w K mg base CX0 1 "stepped" spStepped) (F : IsFn K "after" "Session.after" sAfter f) : FnR P w K mg base CX0 2 f (spAft CS CK) := by
  refine fn0 (k := 1) F scAfter (fun _ _ _ _ _ _ us hl => match us, hl with | [_, _, _], _ => rfl) (fun _ _ _ _ ⟨_, _, _, _, _, _, _, _, _, h, _⟩ => by rw [h]; rfl) fun cdv A outer s H vs Q E hr h => ?_
  obtain ⟨x, a, b, r, st, s, T, G, S, rfl, W, hs, ha, hb, hm, hl, h⟩ := h
  obtain ⟨dx, ra, da, ua, dr, ur, h1, h2, h3, h4, h5, h6, h7, k1, k2, k3, k4, k5, k6⟩ := hs.op W
  refine ⟨_, pss_cons (ps_if (PW.pt (pw_and (pt_cmpR op_eq (pe_ix ix_tup (pv 2) pe_int (fun _ _ => rfl)) pe_str (nomark _)) (pw_and1 (pt_cmpR op_ge (pe_callB call_len_seq (by rfl) N.len (by decide +kernel) (pa_cons (pv 1) pa_nil)) (pe_fld (pv 0) rfl) (nomark _)))))
      (pss_one (ps_ret pe_non)) pss_nil)
    (pss_one (ps_ret (pe_g c hr pass0 (pa_cons (pv 1) (pa_cons (pv 2) pa_nil))))), ?_⟩
  refine ⟨_, rfl, b, _, _, _, rfl, rfl, SqT.of hb, rfl, rfl, _, rfl, ?_⟩
  rw [put_dec]
  have rest : (st.put && decide (s.lim ≤ r.length)) = false → tRet (tCallR spStepped E0 (tCons (tVar 1) (tCons (tVar 2) tNil))) { nx := fun _ H' => Q .non H', rt := Q } (L2.start ["self", "row", "step"] [.ref x, .ref a, .ref b]) H := fun hz => by
    refine ⟨_, rfl, _, rfl, a, b, r, st, rfl, ha, hb, hm, hl, ?_⟩
    have e : aft s.lim r st = stepped r st := by unfold aft; rw [hz]; rfl
    rw [e] at h
    exact h
  by_cases hp : st.put = true
  · refine ifT hp ⟨_, rfl, a, _, rfl, .inl (SqL.of ha), ?_⟩
    refine ⟨_, rfl, x, _, dx, _, _, rfl, k1, C.cl _, C.nl _, sfs_lim, _, _, rfl, rfl, _, rfl, ?_⟩
    rw [List.length_map]
    by_cases hz : s.lim ≤ r.length
    · refine ifT (decide_eq_true (Int.ofNat_le.mpr hz)) ?_
      have e : aft s.lim r st = none := by unfold aft; rw [hp, decide_eq_true hz]; rfl
      rw [e] at h
      exact h _ (Same.refl _)
    · refine ifF (decide_eq_false fun q => hz (Int.ofNat_le.mp q)) (rest ?_)
      rw [decide_eq_false hz, Bool.and_false]
  · refine ifF (by simpa using hp) (rest ?_)
    rw [show st.put = false from by simpa using hp]
    rfl
theorem FnR.mono {CX : CXT} {k : Nat} {sp sp' : Sp} (F : FnR P w K mg base CX k f sp) (h : ∀ vs H Q E, sp' vs H Q E → sp vs H Q E) : FnR P w K mg base CX k f sp' := fun A outer s H us vs Q E hr e0 r q => F A outer s H us vs Q E hr e0 r (h _ _ _ _ q)
theorem f_after (F : FnR P w K mg base CX0 2 f (spAft CS CK)) : FnR P w K mg base CX0 2 f (spAfter CS CK false) := FnR.mono F fun vs H Q E h => by
  obtain ⟨x, a, b, r, st, s, T, G, S, e, ek, W, hs, ha, hb, hm, _, hl, h⟩ := h
  refine ⟨x, a, b, r, st, s, T, G, S, e, W, hs, ha, hb, hm, hl, ?_⟩
  have e : after false s.lim r st = aft s.lim r st := by unfold after; rfl
  rw [e] at h
  exact h
end
end Dq
set_option maxHeartbeats 4000000
/-! Session: log, copied, twin. -/
namespace Dq
open PySem PySem.Spec PyProof.Rows L2
theorem paired_take {α β : Type} {R : α → β → Prop} : ∀ {xs : List α} {ys : List β}, Paired R xs ys → ∀ n, Paired R (xs.take n) (ys.take n)
  | _, _, .nil, n => by simp; exact .nil
  | _, _, .cons h t, 0 => by simp; exact .nil
  | _, _, .cons h t, n + 1 => by simp; exact .cons h (paired_take t n)
theorem paired_app {α β : Type} {R : α → β → Prop} {x : α} {y : β} (h : R x y) : ∀ {xs : List α} {ys : List β}, Paired R xs ys → Paired R (xs ++ [x]) (ys ++ [y])
  | _, _, .nil => .cons h .nil
  | _, _, .cons h1 t => .cons h1 (paired_app h t)
theorem paired_last {α β : Type} {R : α → β → Prop} {y : β} : ∀ {ys : List β} {xs : List α}, Paired R xs (ys ++ [y]) → ∃ zs x, xs = zs ++ [x] ∧ Paired R zs ys ∧ R x y
  | [], _, h => by
    cases h with
    | cons h t =>
      cases t
      exact ⟨[], _, rfl, .nil, h⟩
  | _ :: ys, _, h => by
    cases h with
    | cons h t =>
      obtain ⟨zs, x, e, p, q⟩ := paired_last t
      subst e
      exact ⟨_ :: zs, x, rfl, .cons h p, q⟩
theorem take_next {α : Type} {xs : List α} {i : Nat} {x : α} (h : xs[i]? = some x) : xs.take (i + 1) = xs.take i ++ [x] := by
  obtain ⟨hi, e⟩ := List.getElem?_eq_some_iff.mp h
  rw [← e, List.take_succ_eq_append_getElem hi]
section
variable {P : Program} {w : World} {K : PySem.W.Frag} {mg : Str → Option Value} {base : Heap} {f CF CN CS CK : Addr}
def rLof (K : PySem.W.Frag) : List V → Hp → VK → Prop := fun xs H Q => ∃ p ys, xs = [.ref p] ∧ (SqL K H p ys ∨ SqT K H p ys) ∧ ∀ l, H l = none → Q (.ref l) (upd H l (.lst ys))
theorem call_lof {X : Cx} : CallR X (.type "list") (rLof X.K) := call_list_of
def spLog (CS CK : Addr) : Sp := fun vs H Q _ => ∃ (x : Addr) (s : Se) (T : List (Addr × Str)) (G : Hp) (S : Own) (m : Nat), vs = [.ref x] ∧ Wd T G S H ∧ Ses CS CK G S x s ∧ OkS m s ∧ m ≤ 200 ∧
  ∀ G' H' p, Wd T G' S H' → Same G G' → Same H H' → H p = none → IsLog G' p s.log → Q (.ref p) H'
theorem scLog : FnScope ["self", "user", "steps", "row"] ["self"] (defScope sLog) := ⟨rfl, rfl, rfl, by decide +kernel, rfl, by decide +kernel, by decide +kernel⟩
theorem f_log (N : Nm mg) (C : CxS K CS CK) (F : IsFn K "log" "Session.log" sLog f) : FnR P w K mg base CX0 1 f (spLog CS CK) := by
  refine fn0 (k := 0) F scLog (fun _ _ _ _ _ _ us hl => match us, hl with | [_], _ => rfl) (fun _ _ _ _ ⟨_, _, _, _, _, _, h, _⟩ => by rw [h]; rfl) fun cdv A outer s H vs Q E hr h => ?_
  obtain ⟨x, s, T, G, S, m, rfl, W, hs, ok, hm, h⟩ := h
  obtain ⟨dx, ra, da, ua, dr, ur, h1, h2, h3, h4, h5, h6, h7, k1, k2, k3, k4, k5, k6⟩ := hs.op W
  refine ⟨_, pss_one (ps_ret (pe_lc (own := [("user", 1), ("steps", 2), ("row", 3)]) (g := gTup K 3 (gCons (gName 1) (gCons (gName 2) (gCons (gName 3) gNil)))) (tt := tYes) (te := tTup (tCons (tVar 1) (tCons (tCB (rLof K) (tCons (tVar 2) tNil)) tNil))) rfl scLog.nd (pi_list (pe_fld (pv 0) rfl)) (blkOk_by (N := ["self", "user", "steps", "row"]) (sc := defScope sLog) (by decide +kernel))
      (fun _ _ _ _ _ => pg_tup rfl (pgs_cons (pg_name (i := 1) scLog.nd rfl (Or.inl rfl)) (pgs_cons (pg_name (i := 2) scLog.nd rfl (Or.inl rfl)) (pgs_cons (pg_name (i := 3) scLog.nd rfl (Or.inl rfl)) pgs_nil)))) (fun _ _ _ _ _ => pts_nil)
      (fun _ _ _ _ _ => pe_tup (pa_cons (pv 1) (pa_cons (pe_callTy (T := "list") call_lof (by rfl) N.list (by decide +kernel) (pa_cons (pv 2) pa_nil)) pa_nil))))), ?_⟩
  refine ⟨_, rfl, x, _, dx, _, _, rfl, k1, C.cl _, C.nd _, sfs_done, da, rfl, ⟨_, SqL.of k2⟩, fun D hD => ?_⟩
  have gD := W.noG hD
  have sD := W.noS hD
  have hlen : dr.length = s.done.length := h6.length
  refine lc_list (K := K) (xs := dr.map V.ref) (fun i H' => Same H H' ∧ ∃ G' rs, Wd T G' S H' ∧ Same G G' ∧ G' D = none ∧ H' D = some (.lst (rs.map V.ref)) ∧ Paired (IsEnt G') rs (s.log.take i)) ⟨same_upd hD, G, [], W.grow (same_upd hD), Same.refl _, gD, upd_same, by simp; exact .nil⟩
    (fun i H' _ h' => .of (h'.1 _ _ k2)) (fun i y H' hx h' => ?_) (fun H' h' => ?_)
  · obtain ⟨e1, G', rs, W', eG, gD', hD', hp⟩ := h'
    rw [List.getElem?_map] at hx
    obtain ⟨r, hr1, rfl⟩ := Option.map_eq_some_iff.mp hx
    obtain ⟨c, hc1, b, rr, q1, ⟨sr, q2, q3⟩, q4⟩ := paired_get h6 hr1
    have q1' := W'.same _ _ (eG _ _ q1)
    have q2' := W'.same _ _ (eG _ _ q2)
    refine ⟨r, _, rfl, SqT.of q1', rfl, _, _, rfl, _, _, rfl, _, _, rfl, rfl, rfl, ?_⟩
    refine ⟨_, rfl, _, rfl, b, _, rfl, .inl (SqL.of q2'), fun l hl => ?_⟩
    obtain ⟨W1, eG1⟩ := W'.new (o := .lst (sr.map V.ref)) hl True.intro
    refine ⟨by show 2 ≤ sizeLine; decide, fun p hpn => ?_⟩
    obtain ⟨W2, eG2⟩ := W1.new (o := .tup [.str c.user, .ref l]) hpn True.intro
    have nDl : D ≠ l := ne_of_none hD' hl
    have hD1 : upd H' l (.lst (sr.map V.ref)) D = some (.lst (rs.map V.ref)) := by rw [upd_ne nDl]; exact hD'
    have nDp : D ≠ p := ne_of_none hD1 hpn
    have hD2 : upd (upd H' l (.lst (sr.map V.ref))) p (.tup [.str c.user, .ref l]) D = some (.lst (rs.map V.ref)) := by rw [upd_ne nDp]; exact hD1
    refine ⟨_, hD2, ?_, ?_, _, rs ++ [p], W2.other (o' := .lst (rs.map V.ref ++ [V.ref p])) hD2 True.intro (by rw [upd_ne nDp, upd_ne nDl]; exact gD') sD, (eG.trans eG1).trans eG2, by rw [upd_ne nDp, upd_ne nDl]; exact gD', ?_, ?_⟩
    · have h3 : (s.log.take i).length ≤ s.done.length := by simp [Se.log]; omega
      rw [List.length_map, hp.length]
      have := ok.n
      exact thou (by omega)
    · intro z o hz
      have hz1 := e1 z o hz
      have nz : z ≠ D := ne_of_none hz hD
      rw [upd_ne nz]
      exact same_upd hpn _ _ (same_upd hl _ _ hz1)
    · rw [List.map_append]
      exact upd_same
    · have hlog : s.log[i]? = some (c.user, c.steps) := by
        unfold Se.log
        rw [List.getElem?_map, hc1]
        rfl
      rw [take_next hlog]
      refine paired_app ?_ (ents_mono hp (eG1.trans eG2))
      refine ⟨l, upd_same, sr, ?_, stps_mono q3 ((eG.trans eG1).trans eG2)⟩
      exact eG2 _ _ upd_same
  · obtain ⟨e1, G', rs, W', eG, gD', hD', hp⟩ := h'
    rw [List.length_map, hlen] at hp
    rw [List.take_of_length_le (by simp [Se.log])] at hp
    obtain ⟨W1, eG1⟩ := W'.add hD' True.intro gD' sD
    exact h _ H' D W1 (eG.trans eG1) e1 hD ⟨rs, upd_same, ents_mono hp eG1⟩
/-! ### copied, twin -/
def spCopied (CS CK : Addr) : Sp := fun vs H Q _ => ∃ (x y : Addr) (s t : Se) (T : List (Addr × Str)) (G : Hp) (S : Own), vs = [.ref x, .ref y] ∧ Wd T G S H ∧ Ses CS CK G S x s ∧ Ses CS CK G S y t ∧ x ≠ y ∧
  ∀ S' H', Wd T G S' H' → Fr [y] S S' → Ses CS CK G S' y { t with lim := s.lim, done := s.done, undone := s.undone } → Q (.ref y) H'
theorem scCopied : FnScope ["self", "other"] ["self", "other"] (defScope sCopied) := ⟨rfl, rfl, rfl, by decide +kernel, rfl, by decide +kernel, by decide +kernel⟩
theorem f_copied (N : Nm mg) (C : CxS K CS CK) (F : IsFn K "copied" "Session.copied" sCopied f) : FnR P w K mg base CX0 1 f (spCopied CS CK) := by
  refine fn0 (k := 0) F scCopied (fun _ _ _ _ _ _ us hl => match us, hl with | [_, _], _ => rfl) (fun _ _ _ _ ⟨_, _, _, _, _, _, _, h, _⟩ => by rw [h]; rfl) fun cdv A outer s H vs Q E hr h => ?_
  obtain ⟨x, y, s, t, T, G, S, rfl, W, hs, ht, nxy, h⟩ := h
  obtain ⟨dx, ra, da, ua, dr, ur, h1, h2, h3, h4, h5, h6, h7, k1, k2, k3, k4, k5, k6⟩ := hs.op W
  obtain ⟨dy, rb, db, ub, es, us, g1, g2, g3, g4, g5, g6, g7, j1, j2, j3, j4, j5, j6⟩ := ht.op W
  refine ⟨_, pss_cons (ps_fld (pv 1) (pe_fld (pv 0) rfl) rfl)
    (pss_cons (ps_fld (pv 1) (pe_callTy call_list_of (by rfl) N.list (by decide +kernel) (pa_cons (pe_fld (pv 0) rfl) pa_nil)) rfl)
    (pss_cons (ps_fld (pv 1) (pe_callTy call_list_of (by rfl) N.list (by decide +kernel) (pa_cons (pe_fld (pv 0) rfl) pa_nil)) rfl)
    (pss_one (ps_ret (pv 1))))), ?_⟩
  refine ⟨_, rfl, x, _, dx, _, _, rfl, k1, C.cl _, C.nl _, sfs_lim, ?_⟩
  refine ⟨_, rfl, y, _, dy, _, rfl, j1, C.cl _, C.nl _, by show (4 : Nat) < 1000; decide, ?_⟩
  rw [show putF (Str.ofString "own_limit") (.int s.lim) (sfs rb t.lim db ub) = sfs rb s.lim db ub from put_lim]
  have W1 := W.wr (o' := .ins (cof CS CK t.kept) dy (sfs rb s.lim db ub)) g1 True.intro
  have ndy : da ≠ y := fun z => by rw [z, g1] at h2; cases h2
  have nuy : ua ≠ y := fun z => by rw [z, g1] at h3; cases h3
  refine ⟨_, rfl, x, _, dx, _, _, rfl, by rw [upd_ne nxy]; exact k1, C.cl _, C.nd _, sfs_done, da, _, rfl, .inl (SqL.of (by rw [upd_ne ndy]; exact k2)), fun p hp => ?_⟩
  have W2 := W1.newS (o := .lst (dr.map V.ref)) hp True.intro y
  have nyp : y ≠ p := ne_of_none upd_same hp
  have py2 : updS (updS S y y (.ins (cof CS CK t.kept) dy (sfs rb s.lim db ub))) p y (.lst (dr.map V.ref)) y = some (y, .ins (cof CS CK t.kept) dy (sfs rb s.lim db ub)) := by rw [updS_ne nyp, updS_same]
  refine ⟨_, rfl, y, _, dy, _, rfl, (W2.s _ _ _ py2).1, C.cl _, C.nd _, by show (4 : Nat) < 1000; decide, ?_⟩
  rw [show putF (Str.ofString "done") (.ref p) (sfs rb s.lim db ub) = sfs rb s.lim p ub from put_done]
  have W3 := W2.wr (o' := .ins (cof CS CK t.kept) dy (sfs rb s.lim p ub)) py2 True.intro
  have nxp : x ≠ p := ne_of_none (H := upd H y (.ins (cof CS CK t.kept) dy (sfs rb s.lim db ub))) (by rw [upd_ne nxy]; exact k1) hp
  have nup : ua ≠ p := ne_of_none (H := upd H y (.ins (cof CS CK t.kept) dy (sfs rb s.lim db ub))) (by rw [upd_ne nuy]; exact k3) hp
  have px3 : updS (updS (updS S y y (.ins (cof CS CK t.kept) dy (sfs rb s.lim db ub))) p y (.lst (dr.map V.ref))) y y (.ins (cof CS CK t.kept) dy (sfs rb s.lim p ub)) x = some (x, .ins (cof CS CK s.kept) dx (sfs ra s.lim da ua)) := by rw [updS_ne nxy, updS_ne nxp, updS_ne nxy]; exact h1
  have pu3 : updS (updS (updS S y y (.ins (cof CS CK t.kept) dy (sfs rb s.lim db ub))) p y (.lst (dr.map V.ref))) y y (.ins (cof CS CK t.kept) dy (sfs rb s.lim p ub)) ua = some (x, .lst (ur.map V.ref)) := by rw [updS_ne nuy, updS_ne nup, updS_ne nuy]; exact h3
  refine ⟨_, rfl, x, _, dx, _, _, rfl, (W3.s _ _ _ px3).1, C.cl _, C.nu _, sfs_undone, ua, _, rfl, .inl (SqL.of (W3.s _ _ _ pu3).1), fun q hq => ?_⟩
  have W4 := W3.newS (o := .lst (ur.map V.ref)) hq True.intro y
  have nyq : y ≠ q := ne_of_none upd_same hq
  have py4 : updS (updS (updS (updS S y y (.ins (cof CS CK t.kept) dy (sfs rb s.lim db ub))) p y (.lst (dr.map V.ref))) y y (.ins (cof CS CK t.kept) dy (sfs rb s.lim p ub))) q y (.lst (ur.map V.ref)) y = some (y, .ins (cof CS CK t.kept) dy (sfs rb s.lim p ub)) := by rw [updS_ne nyq, updS_same]
  refine ⟨_, rfl, y, _, dy, _, rfl, (W4.s _ _ _ py4).1, C.cl _, C.nu _, by show (4 : Nat) < 1000; decide, ?_⟩
  rw [show putF (Str.ofString "undone") (.ref q) (sfs rb s.lim p ub) = sfs rb s.lim p q from put_undone]
  have W5 := W4.wr (o' := .ins (cof CS CK t.kept) dy (sfs rb s.lim p q)) py4 True.intro
  have hp3 := (W3.s p y (.lst (dr.map V.ref)) (by rw [updS_ne (Ne.symm nyp), updS_same])).1
  have npq : p ≠ q := ne_of_none hp3 hq
  refine ⟨_, rfl, h _ _ W5 ?_ ⟨dy, rb, p, q, dr, ur, updS_same, ?_, ?_, npq, g5, h6, h7⟩⟩
  · have f1 : Fr [y] S _ := Fr.upd (u := .ins (cof CS CK t.kept) dy (sfs rb s.lim db ub)) g1 (by simp)
    have f2 := f1.trans (Fr.new (u := .lst (dr.map V.ref)) (w := y) (W1.noS hp))
    have f3 := f2.trans (Fr.upd (u := .ins (cof CS CK t.kept) dy (sfs rb s.lim p ub)) py2 (by simp))
    have f4 := f3.trans (Fr.new (u := .lst (ur.map V.ref)) (w := y) (W3.noS hq))
    exact f4.trans (Fr.upd py4 (by simp))
  · rw [updS_ne (Ne.symm nyp), updS_ne npq, updS_ne (Ne.symm nyp), updS_same]
  · rw [updS_ne (Ne.symm nyq), updS_same]
end
end Dq
set_option maxHeartbeats 4000000
/-! Session: twin, undo, redo. -/
namespace Dq
open PySem PySem.Spec PyProof.Rows L2
section
variable {P : Program} {w : World} {K : PySem.W.Frag} {mg : Str → Option Value} {base : Heap} {f CF CN CS CK : Addr}
def spTwin (CS CK : Addr) (b : Bool) : Sp := fun vs H Q _ => ∃ (x : Addr) (s : Se) (T : List (Addr × Str)) (G : Hp) (S : Own), vs = [.ref x] ∧ s.kept = b ∧ Wd T G S H ∧ Ses CS CK G S x s ∧ Sm s.row ∧ s.row.length ≤ 200 ∧
  ∀ G' S' H' y, Wd T G' S' H' → Same G G' → Fr [y] S S' → Ses CS CK G' S' y s → S y = none → Q (.ref y) H'
theorem scTwin : FnScope ["self"] ["self"] (defScope sTwin) := ⟨rfl, rfl, rfl, by decide +kernel, rfl, by decide +kernel, by decide +kernel⟩
theorem scTwinK : FnScope ["self"] ["self"] (defScope sTwinK) := ⟨rfl, rfl, rfl, by decide +kernel, rfl, by decide +kernel, by decide +kernel⟩
theorem Ses.have {CS CK x : Addr} {G : Hp} {S : Own} {s : Se} (h : Ses CS CK G S x s) : ∃ o, S x = some (x, o) := let ⟨_, _, _, _, _, _, h1, _⟩ := h.ex; ⟨_, h1⟩
theorem Ses.other {CS CK x y : Addr} {G : Hp} {S : Own} {s : Se} (h : Ses CS CK G S x s) (hy : S y = none) : x ≠ y := fun z => by
  obtain ⟨o, h⟩ := h.have
  rw [z, hy] at h
  cases h
theorem twin_end {b : Bool} {x : Addr} {s : Se} {T : List (Addr × Str)} {G H : Hp} {S : Own} {Q : VK} (C : CxS K CS CK) (W : Wd T G S H) (hs : Ses CS CK G S x s) (ek : s.kept = b) (hm : Sm s.row) (hl : s.row.length ≤ 200)
    (h : ∀ G' S' H' y, Wd T G' S' H' → Same G G' → Fr [y] S S' → Ses CS CK G' S' y s → S y = none → Q (.ref y) H') :
    tMethR (cof CS CK b) "copied" (spCopied CS CK) E0 (tVar 0) (tCons (StX.tMakeR (cof CS CK b) (spInit CS CK) E0 (tCons (tFld K (tVar 0) "own_row") tNil)) tNil) (L2.start ["self"] [.ref x]) H Q := by
  subst ek
  obtain ⟨dx, ra, da, ua, dr, ur, h1, h2, h3, h4, h5, h6, h7, k1, k2, k3, k4, k5, k6⟩ := hs.op W
  refine ⟨_, rfl, x, dx, _, rfl, k1, by kernel_rfl, ?_⟩
  refine ⟨_, rfl, x, _, dx, _, _, rfl, k1, C.cl _, C.nr _, sfs_row, fun y dy hy hdy ne => ?_⟩
  obtain ⟨W1, gy, sy, e1⟩ := W.inst (C := cof CS CK s.kept) hy hdy ne
  refine ⟨y, ra, dy, s.kept, s.row, T, G, S, rfl, W1, gy, sy, upd_same, k4.mono e1, hm, hl, fun G' S' H' W' eG fr hy' => ⟨rfl, ?_⟩⟩
  refine ⟨x, y, s, mkSe s.kept s.row, T, G', S', rfl, W', hs.fr eG fr (by simp), hy', hs.other sy, fun S'' H'' W'' fr' hy'' => ?_⟩
  exact h G' S'' H'' y W'' eG ((fr.mono (by simp)).trans fr') hy'' sy
theorem f_twin (C : CxS K CS CK) (cM : Mak P w K mg base CX0 5 CS (spInit CS CK)) (m : mg "Session" = some (.ref CS)) (c : Mtd P w K mg base CX0 1 CS "copied" (spCopied CS CK)) (F : IsFn K "twin" "Session.twin" sTwin f) : FnR P w K mg base CX0 7 f (spTwin CS CK false) := by
  refine fn0 (k := 6) F scTwin (fun _ _ _ _ _ _ us hl => match us, hl with | [_], _ => rfl) (fun _ _ _ _ ⟨_, _, _, _, _, h, _⟩ => by rw [h]; rfl) fun cdv A outer s H vs Q E hr h => ?_
  obtain ⟨x, s, T, G, S, rfl, ek, W, hs, hm, hl, h⟩ := h
  exact ⟨_, pss_one (ps_ret (pe_m (pv 0) c hr pass0 (pa_cons (pe_mk (k := 5) cM m hr pass0 (pa_cons (pe_fld (pv 0) rfl) pa_nil)) pa_nil))), twin_end C W hs ek hm hl h⟩
theorem f_twinK (C : CxS K CS CK) (cM : Mak P w K mg base CX0 5 CK (spInit CS CK)) (m : mg "KeptSession" = some (.ref CK)) (c : Mtd P w K mg base CX0 1 CK "copied" (spCopied CS CK)) (F : IsFn K "twin" "KeptSession.twin" sTwinK f) : FnR P w K mg base CX0 7 f (spTwin CS CK true) := by
  refine fn0 (k := 6) F scTwinK (fun _ _ _ _ _ _ us hl => match us, hl with | [_], _ => rfl) (fun _ _ _ _ ⟨_, _, _, _, _, h, _⟩ => by rw [h]; rfl) fun cdv A outer s H vs Q E hr h => ?_
  obtain ⟨x, s, T, G, S, rfl, ek, W, hs, hm, hl, h⟩ := h
  exact ⟨_, pss_one (ps_ret (pe_m (pv 0) c hr pass0 (pa_cons (pe_mk (k := 5) cM m hr pass0 (pa_cons (pe_fld (pv 0) rfl) pa_nil)) pa_nil))), twin_end C W hs ek hm hl h⟩
/-! ### undo, redo -/
def spUndo (CS CK : Addr) : Sp := fun vs H Q _ => ∃ (x : Addr) (s : Se) (rest : List Call) (c : Call) (T : List (Addr × Str)) (G : Hp) (S : Own) (m : Nat), vs = [.ref x] ∧ Wd T G S H ∧ Ses CS CK G S x s ∧ OkS m s ∧ m ≤ 200 ∧ s.done = rest ++ [c] ∧
  ∀ G' S' H' p, Wd T G' S' H' → Same G G' → Fr [x] S S' → Ses CS CK G' S' x (s.undid rest c) → IsRow G' p c.row → Q (.ref p) H'
theorem scUndo : FnScope ["self", "user", "steps", "before"] ["self"] (defScope sUndo) := ⟨rfl, rfl, rfl, by decide +kernel, rfl, by decide +kernel, by decide +kernel⟩
theorem len_last {α : Type} {xs : List α} {x : α} : (xs ++ [x])[(xs ++ [x]).length - 1]? = some x := by simp
theorem f_undo (N : Nm mg) (C : CxS K CS CK) (F : IsFn K "undo" "Session.undo" sUndo f) : FnR P w K mg base CX0 1 f (spUndo CS CK) := by
  refine fn0 (k := 0) F scUndo (fun _ _ _ _ _ _ us hl => match us, hl with | [_], _ => rfl) (fun _ _ _ _ ⟨_, _, _, _, _, _, _, _, h, _⟩ => by rw [h]; rfl) fun cdv A outer s H vs Q E hr h => ?_
  obtain ⟨x, s, rest, c, T, G, S, m, rfl, W, hs, ok, hm, ed, h⟩ := h
  obtain ⟨dx, ra, da, ua, dr, ur, h1, h2, h3, h4, h5, h6, h7, k1, k2, k3, k4, k5, k6⟩ := hs.op W
  rw [ed] at h6
  obtain ⟨zs, r, rfl, hz, ⟨b, rr, q1, ⟨sr, q2, q3⟩, q4⟩⟩ := paired_last h6
  refine ⟨_, pss_cons (ps_if (pt_not (pt_truth (pe_fld (pv 0) rfl) (by intro _; rfl))) (pss_one ps_never) pss_nil)
    (pss_cons (ps_asg (pe_bm0 PySem.F.plainAttrs_list PySem.F.slot_list_pop PySem.F.type_list_pop mt_pop (pe_fld (pv 0) rfl)) (pg_tup rfl (pgs_cons (pg_name (i := 1) scUndo.nd rfl (.inl rfl)) (pgs_cons (pg_name (i := 2) scUndo.nd rfl (.inl rfl)) (pgs_cons (pg_name (i := 3) scUndo.nd rfl (.inl rfl)) pgs_nil)))))
    (pss_cons (ps_expr (pe_bm PySem.F.plainAttrs_list PySem.F.slot_list_append PySem.F.type_list_append mt_append (pe_fld (pv 0) rfl) (pa_cons (pe_tup (pa_cons (pv 1) (pa_cons (pv 2) (pa_cons (pe_fld (pv 0) rfl) pa_nil)))) pa_nil)))
    (pss_cons (ps_fld (pv 0) (pv 3) rfl)
    (pss_one (ps_ret (pe_callTy call_list_of (by rfl) N.list (by decide +kernel) (pa_cons (pv 3) pa_nil))))))), ?_⟩
  refine ⟨_, rfl, x, _, dx, _, _, rfl, k1, C.cl _, C.nd _, sfs_done, true, .inl ⟨_, SqL.of k2, by simp⟩, ifF rfl ?_⟩
  refine ⟨_, rfl, x, _, dx, _, _, rfl, k1, C.cl _, C.nd _, sfs_done, .inl ⟨rfl, _, SqL.of k2⟩, da, _, _, rfl, rfl, k2, by rw [List.map_append]; exact len_last, ?_⟩
  have e0 : (List.map V.ref (zs ++ [r])).dropLast = zs.map V.ref := by simp
  rw [e0]
  have W1 := W.wr (o' := .lst (zs.map V.ref)) h2 True.intro
  refine ⟨r, _, rfl, SqT.of (W1.same _ _ q1), rfl, _, _, rfl, _, _, rfl, _, _, rfl, rfl, ?_⟩
  have px1 : updS S da x (.lst (zs.map V.ref)) x = some (x, .ins (cof CS CK s.kept) dx (sfs ra s.lim da ua)) := by rw [updS_ne (Ne.symm k5)]; exact h1
  have pu1 : updS S da x (.lst (zs.map V.ref)) ua = some (x, .lst (ur.map V.ref)) := by rw [updS_ne (Ne.symm h4)]; exact h3
  refine ⟨_, rfl, x, _, dx, _, _, rfl, (W1.s _ _ _ px1).1, C.cl _, C.nu _, sfs_undone, .inl ⟨rfl, _, SqL.of (W1.s _ _ _ pu1).1⟩, ?_⟩
  refine ⟨_, rfl, _, rfl, _, rfl, x, _, dx, _, _, rfl, (W1.s _ _ _ px1).1, C.cl _, C.nr _, sfs_row, by show 3 ≤ sizeLine; decide, fun p hp => ?_⟩
  obtain ⟨W2, eG2⟩ := W1.new (o := .tup [.str c.user, .ref b, .ref ra]) hp True.intro
  refine ⟨ua, _, _, rfl, rfl, (W2.s _ _ _ pu1).1, ?_, ?_⟩
  · rw [List.length_map, h7.length]
    have := ok.n
    exact thou (by omega)
  have W3 := W2.wr (o' := .lst (ur.map V.ref ++ [.ref p])) pu1 True.intro
  have px3 : updS (updS S da x (.lst (zs.map V.ref))) ua x (.lst (ur.map V.ref ++ [.ref p])) x = some (x, .ins (cof CS CK s.kept) dx (sfs ra s.lim da ua)) := by rw [updS_ne (Ne.symm k6)]; exact px1
  refine ⟨_, rfl, _, rfl, x, _, dx, _, rfl, (W3.s _ _ _ px3).1, C.cl _, C.nr _, by show (4 : Nat) < 1000; decide, ?_⟩
  rw [show putF (Str.ofString "own_row") (.ref rr) (sfs ra s.lim da ua) = sfs rr s.lim da ua from put_row]
  have W4 := W3.wr (o' := .ins (cof CS CK s.kept) dx (sfs rr s.lim da ua)) px3 True.intro
  have q4' := eG2 _ _ q4
  refine ⟨_, rfl, rr, _, rfl, .inl (SqL.of (W4.same _ _ q4')), fun l hl => ?_⟩
  obtain ⟨W5, eG5⟩ := W4.new (o := .lst (c.row.map V.int)) hl True.intro
  refine h _ _ _ l W5 (eG2.trans eG5) ?_ ⟨dx, rr, da, ua, zs, ur ++ [p], updS_same, ?_, ?_, h4, q4.mono (eG2.trans eG5), calls_mono hz (eG2.trans eG5), paired_app ?_ (calls_mono h7 (eG2.trans eG5))⟩ upd_same
  · have f1 : Fr [x] S _ := Fr.upd (u := .lst (zs.map V.ref)) h2 (by simp)
    have f2 := f1.trans (Fr.upd (u := .lst (ur.map V.ref ++ [.ref p])) pu1 (by simp))
    exact f2.trans (Fr.upd px3 (by simp))
  · rw [updS_ne k5, updS_ne h4, updS_same]
  · rw [updS_ne k6, updS_same, List.map_append]
    rfl
  · exact ⟨b, ra, eG5 _ _ upd_same, ⟨sr, eG5 _ _ (eG2 _ _ q2), stps_mono q3 (eG2.trans eG5)⟩, h5.mono (eG2.trans eG5)⟩
def spRedo (CS CK CN : Addr) : Sp := fun vs H Q E => ∃ (x : Addr) (s : Se) (T : List (Addr × Str)) (G : Hp) (S : Own) (m : Nat), vs = [.ref x] ∧ Wd T G S H ∧ Ses CS CK G S x s ∧ OkS m s ∧ m ≤ 200 ∧
  ((s.undone = [] ∧ ∀ d H', Same H H' → E (.ref CN) d H') ∨ ∃ rest c, s.undone = rest ++ [c] ∧
  ∀ G' S' H' p, Wd T G' S' H' → Same G G' → Fr [x] S S' → Ses CS CK G' S' x (s.redid rest c) → IsRow G' p c.row → Q (.ref p) H')
theorem scRedo : FnScope ["self", "user", "steps", "behind"] ["self"] (defScope sRedo) := ⟨rfl, rfl, rfl, by decide +kernel, rfl, by decide +kernel, by decide +kernel⟩
theorem f_redo (N : Nm mg) (C : CxS K CS CK) (TX : TxX K mg CF CN) (cN : MakX P w K mg base 1 "NothingLeft" CN (spNothingI CN)) (F : IsFn K "redo" "Session.redo" sRedo f) : FnR P w K mg base (L2.CX P w) 3 f (spRedo CS CK CN) := by
  refine fnX (k := 2) F scRedo (fun _ _ _ _ _ _ us hl => match us, hl with | [_], _ => rfl) (fun _ _ _ _ ⟨_, _, _, _, _, _, h, _⟩ => by rw [h]; rfl) fun cdv A outer s H vs Q E hr h => ?_
  obtain ⟨x, s, T, G, S, m, rfl, W, hs, ok, hm, h⟩ := h
  obtain ⟨dx, ra, da, ua, dr, ur, h1, h2, h3, h4, h5, h6, h7, k1, k2, k3, k4, k5, k6⟩ := hs.op W
  obtain ⟨fI, FI, i1, i2⟩ := cN.ex
  refine ⟨_, pss_cons (ps_if (pt_not (pt_truth (pe_fld (pv 0) rfl) (by intro _; rfl))) (pss_one (ps_raise rfl (takes_of rfl rfl rfl rfl) (pmk_x0 (k := 1) TX.oN i1 i2 FI hr cN.m))) pss_nil)
    (pss_cons (ps_asg (pe_bm0 PySem.F.plainAttrs_list PySem.F.slot_list_pop PySem.F.type_list_pop mt_pop (pe_fld (pv 0) rfl)) (pg_tup rfl (pgs_cons (pg_name (i := 1) scRedo.nd rfl (.inl rfl)) (pgs_cons (pg_name (i := 2) scRedo.nd rfl (.inl rfl)) (pgs_cons (pg_name (i := 3) scRedo.nd rfl (.inl rfl)) pgs_nil)))))
    (pss_cons (ps_expr (pe_bm PySem.F.plainAttrs_list PySem.F.slot_list_append PySem.F.type_list_append mt_append (pe_fld (pv 0) rfl) (pa_cons (pe_tup (pa_cons (pv 1) (pa_cons (pv 2) (pa_cons (pe_fld (pv 0) rfl) pa_nil)))) pa_nil)))
    (pss_cons (ps_fld (pv 0) (pv 3) rfl)
    (pss_one (ps_ret (pe_callTy call_list_of (by rfl) N.list (by decide +kernel) (pa_cons (pv 3) pa_nil))))))), ?_⟩
  rcases h with ⟨eu, h⟩ | ⟨rest, c, eu, h⟩
  · rw [eu] at h7
    cases h7
    refine ⟨_, rfl, x, _, dx, _, _, rfl, k1, C.cl _, C.nu _, sfs_undone, false, .inl ⟨_, SqL.of k3, by simp⟩, ifT rfl ?_⟩
    refine ⟨by show 0 ≤ 1000; decide, fun a ha => ⟨a, rfl, upd_same, rfl, .inr ⟨upd_same, ?_⟩⟩⟩
    refine h _ _ fun z o hz => ?_
    have nz : z ≠ a := ne_of_none hz ha
    rw [del_ne nz, upd_ne nz]
    exact hz
  rw [eu] at h7
  obtain ⟨zs, r, rfl, hz, ⟨b, rr, q1, ⟨sr, q2, q3⟩, q4⟩⟩ := paired_last h7
  refine ⟨_, rfl, x, _, dx, _, _, rfl, k1, C.cl _, C.nu _, sfs_undone, true, .inl ⟨_, SqL.of k3, by simp⟩, ifF rfl ?_⟩
  refine ⟨_, rfl, x, _, dx, _, _, rfl, k1, C.cl _, C.nu _, sfs_undone, .inl ⟨rfl, _, SqL.of k3⟩, ua, _, _, rfl, rfl, k3, by rw [List.map_append]; exact len_last, ?_⟩
  have e0 : (List.map V.ref (zs ++ [r])).dropLast = zs.map V.ref := by simp
  rw [e0]
  have W1 := W.wr (o' := .lst (zs.map V.ref)) h3 True.intro
  refine ⟨r, _, rfl, SqT.of (W1.same _ _ q1), rfl, _, _, rfl, _, _, rfl, _, _, rfl, rfl, ?_⟩
  have px1 : updS S ua x (.lst (zs.map V.ref)) x = some (x, .ins (cof CS CK s.kept) dx (sfs ra s.lim da ua)) := by rw [updS_ne (Ne.symm k6)]; exact h1
  have pu1 : updS S ua x (.lst (zs.map V.ref)) da = some (x, .lst (dr.map V.ref)) := by rw [updS_ne h4]; exact h2
  refine ⟨_, rfl, x, _, dx, _, _, rfl, (W1.s _ _ _ px1).1, C.cl _, C.nd _, sfs_done, .inl ⟨rfl, _, SqL.of (W1.s _ _ _ pu1).1⟩, ?_⟩
  refine ⟨_, rfl, _, rfl, _, rfl, x, _, dx, _, _, rfl, (W1.s _ _ _ px1).1, C.cl _, C.nr _, sfs_row, by show 3 ≤ sizeLine; decide, fun p hp => ?_⟩
  obtain ⟨W2, eG2⟩ := W1.new (o := .tup [.str c.user, .ref b, .ref ra]) hp True.intro
  refine ⟨da, _, _, rfl, rfl, (W2.s _ _ _ pu1).1, ?_, ?_⟩
  · rw [List.length_map, h6.length]
    have := ok.n
    exact thou (by omega)
  have W3 := W2.wr (o' := .lst (dr.map V.ref ++ [.ref p])) pu1 True.intro
  have px3 : updS (updS S ua x (.lst (zs.map V.ref))) da x (.lst (dr.map V.ref ++ [.ref p])) x = some (x, .ins (cof CS CK s.kept) dx (sfs ra s.lim da ua)) := by rw [updS_ne (Ne.symm k5)]; exact px1
  refine ⟨_, rfl, _, rfl, x, _, dx, _, rfl, (W3.s _ _ _ px3).1, C.cl _, C.nr _, by show (4 : Nat) < 1000; decide, ?_⟩
  rw [show putF (Str.ofString "own_row") (.ref rr) (sfs ra s.lim da ua) = sfs rr s.lim da ua from put_row]
  have W4 := W3.wr (o' := .ins (cof CS CK s.kept) dx (sfs rr s.lim da ua)) px3 True.intro
  have q4' := eG2 _ _ q4
  refine ⟨_, rfl, rr, _, rfl, .inl (SqL.of (W4.same _ _ q4')), fun l hl => ?_⟩
  obtain ⟨W5, eG5⟩ := W4.new (o := .lst (c.row.map V.int)) hl True.intro
  refine h _ _ _ l W5 (eG2.trans eG5) ?_ ⟨dx, rr, da, ua, dr ++ [p], zs, updS_same, ?_, ?_, h4, q4.mono (eG2.trans eG5), paired_app ?_ (calls_mono h6 (eG2.trans eG5)), calls_mono hz (eG2.trans eG5)⟩ upd_same
  · have f1 : Fr [x] S _ := Fr.upd (u := .lst (zs.map V.ref)) h3 (by simp)
    have f2 := f1.trans (Fr.upd (u := .lst (dr.map V.ref ++ [.ref p])) pu1 (by simp))
    exact f2.trans (Fr.upd px3 (by simp))
  · rw [updS_ne k5, updS_same, List.map_append]
    rfl
  · rw [updS_ne k6, updS_ne (Ne.symm h4), updS_same]
  · exact ⟨b, ra, eG5 _ _ upd_same, ⟨sr, eG5 _ _ (eG2 _ _ q2), stps_mono q3 (eG2.trans eG5)⟩, h5.mono (eG2.trans eG5)⟩
end
end Dq
set_option maxHeartbeats 4000000
/-! enumerate over a tuple. -/
namespace Dq
open PySem PySem.Spec PyProof.Rows L2
def Itf (K : PySem.W.Frag) (a : Addr) : It :=
  ⟨fun i H => ∃ (xs : List V) (x : V), SqT K H a xs ∧ xs[i]? = some x, fun i H v H' => ∃ T x, v = .ref T ∧ H T = none ∧ H' = upd H T (.tup [.int (i : Nat), x]) ∧ ∀ xs, SqT K H a xs → xs[i]? = some x, fun i H => ∃ xs : List V, SqT K H a xs ∧ xs.length ≤ i⟩
theorem turn_enumT {P : Program} {w : World} {K : PySem.W.Frag} {elts : List Expr} {kk : Nat} {tpos : Pos} (a e it : Addr) (hai : a ≠ it) (hae : a ≠ e) :
    Turn P w K (.Tuple elts kk tpos) (Itf K a) [e, it] e (fun i h => (∃ old, IsEnum h e it ((i : Nat) : Int) old) ∧ h.IsTupleIter it a i ∧ e ≠ it) where
  mem := by simp
  obj := fun i h st b hb => by
    obtain ⟨⟨old, he⟩, ⟨o, ho, hc, hd⟩, _⟩ := st
    have e' : b = e ∨ b = it := by simpa using hb
    rcases e' with z | z
    · rw [z]; exact ⟨_, he, fun v q => nomatch q⟩
    · rw [z]; exact ⟨o, ho, fun v q => by rw [hd] at q; cases q⟩
  keep := fun i h h' st k => let ⟨⟨old, he⟩, hi, hne⟩ := st; ⟨⟨old, k e (by simp) _ he⟩, hi.at fun o q => k it (by simp) o q, hne⟩
  item := by
    intro X hP hw hK hc i pins s σ H E I hf st hg
    subst hP hw hK
    obtain ⟨⟨old, he⟩, hit, hne⟩ := st
    obtain ⟨xs, x, hq, hx⟩ := hg
    obtain ⟨its, rv, p, hz⟩ := I.tuple hq
    obtain ⟨u, hu, ru⟩ := rv.get hx
    have hel : e < s.heap.objs.size := Heap.lt_size he
    have hil : it < s.heap.objs.size := by obtain ⟨_, q, _⟩ := hit; exact Heap.lt_size q
    have hlt : i < its.toArray.size := by
      have := (List.getElem?_eq_some_iff.mp hu).1
      simpa using this
    have D := Draws.tuple (prog := X.prog) (w := X.w) (A := X.A.in1) (I.ok.hd hc) it a hai its.toArray
    refine wpAny_pyNext_enum_itemD D he ⟨hit, (show s.heap.IsTuple a its.toArray from p)⟩ hlt hne (by simp [hne, Ne.symm hae]) fun x2 h' tk hP ho st' hT hsz hk => ?_
    have e2 : x2 = u := by
      have hP' : its[i]? = some x2 := by simpa using hP
      rw [hu] at hP'
      exact (Option.some.inj hP').symm
    subst e2
    obtain ⟨hit', _⟩ := st'
    refine ⟨_, rfl, wpAny_letOwnedTupleGo_enum (s := { s with heap := h', toks := tk + 1 }) ho fun h'' he' sb => ?_⟩
    have hT2 : h''.get? s.heap.objs.size = some { cls := .type "tuple", data := .seq #[.int i tk, x2] } := (sb.2 _ (Nat.ne_of_gt hel)).trans hT
    have new : ObjOk X.prog X.w (upd H s.heap.objs.size (.tup [.int (i : Nat), x])) h'' s.heap.objs.size (.tup [.int (i : Nat), x]) :=
      ⟨by show 2 ≤ sizeLine; decide, [.int i tk, x2], .cons ⟨_, rfl⟩ (.cons ru .nil), ⟨_, hT2, rfl, _, rfl⟩⟩
    have I1 : Inv X pins σ (upd H s.heap.objs.size (.tup [.int (i : Nat), x])) { s with heap := h'', toks := tk + 1 } :=
      I.turnedNew (ch := [e, it]) (fun b ob hb q => (sb.2 b (fun z => hb (by simp [z]))).trans (hk b ob (fun z => hb (by simp [z])) (fun z => hb (by simp [z])) q)) hf (Nat.le_refl _) new
    refine ⟨.ref s.heap.objs.size, _, I1, rfl, ⟨_, x, rfl, I.hok.fresh (Nat.le_refl _), rfl, fun ys hy => by rw [I.tuple_inj hy hq]; exact hx⟩, ⟨⟨x2, ?_⟩, hit'.at fun o q => (sb.2 it (Ne.symm hne)).trans q, hne⟩, fun b hb => ?_⟩
    · have e1 : ((i + 1 : Nat) : Int) = (i : Int) + 1 := by omega
      rw [e1]; exact he'
    · have hb' : b < s.heap.objs.size := by
        have e' : b = e ∨ b = it := by simpa using hb
        rcases e' with z | z
        · rw [z]; exact hel
        · rw [z]; exact hil
      rw [upd_ne (Nat.ne_of_lt hb')]
      exact (hf b hb).1
  done := by
    intro X hP hw hK hc i pins s σ H E I hf st hg
    subst hP hw hK
    obtain ⟨⟨old, he⟩, hit, hne⟩ := st
    obtain ⟨xs, hq, hx⟩ := hg
    obtain ⟨its, rv, p, hz⟩ := I.tuple hq
    obtain ⟨f0, f1, f2, f3, f4, f5⟩ := hf it (by simp)
    have hl := rv.length
    have fin : ∀ Q : Option Value → Shared → Prop, (∀ h', Heap.ExtBut it s.heap h' → Q none { s with heap := h' }) → wpAny (model X.prog X.w) X.A (pyNext (.ref e)) Q E s := fun Q hQ => by
      have hT : s.TypeIs (.ref e) "enumerate" := ⟨_, he, rfl⟩
      unfold pyNext
      refine wpAny_bind (wpAny_attempt (wpAny_callSpecial?_slot (name := Str.ofString "__next__") hT F.slot_enumerate_next
        (wpAny_call_entry F.slot_enumerate_next hT F.entry_enumerate_next ?_ (F.args_enumerate_next_1 _))))
      show wpAny _ _ (field (.ref e) 2 >>= _) _ _ _
      refine wpAny_bind (wpAny_field he rfl (x := .ref it) rfl ?_)
      refine wpAny_bind (wpAny_nextOf_tuple_end (items := its.toArray) (I.ok.hd hc) hit (show s.heap.IsTuple a its.toArray from p) (by simp; omega) fun h' x he' hx' => ?_)
      obtain ⟨o, ho, hc⟩ := hx'
      refine wpAny_bind (wpAny_isInstance (T := "StopIteration") (b := true) ⟨o, ho, hc⟩ isSubtype_stop ?_)
      exact wpAny_pure (hQ _ he')
    exact fin _ fun h' eb => ⟨rfl, I.turned (t' := s.toks) (fun b o hb q => eb b o hb q) f0 f1 f3 f4 f5⟩
  self := fun A i s Q E st h => let ⟨⟨_, he⟩, _⟩ := st; wpAny_pyIter_enum he h
set_option maxHeartbeats 1000000 in
theorem meets_enumerate_newB1 {v : Value} {o : Obj} {H : Heap → Prop} (B : Begins v o H) :
    Meets (Builtin.«enumerate.__new__» ⟨[.type "enumerate", v], []⟩) (fun _ R s => H s.heap ∧
      R (.ok (.ret (.ref (s.heap.push o).objs.size))) { s with heap := (s.heap.push o).push { cls := .type "enumerate", data := .fields #[.none, .bool false, .ref s.heap.objs.size, rawInt 0, .none, .none] } }) :=
  .of_wp fun prog w A R s h => by
    obtain ⟨hp, g, d, tk, os⟩ := s; obtain ⟨h1, h⟩ := h
    have hsub := sub_enumerate
    have q1 : ∀ {A' : Around} {E : Value → Shared → Prop} {Q : Value → Shared → Prop}, Q (.ref hp.objs.size) ⟨hp.push o, g, d, tk, os⟩ → wpAny (model prog w) A' (pyIter v) Q E ⟨hp, g, d, tk, os⟩ :=
      fun q => B.iter prog w _ _ ⟨hp, g, d, tk, os⟩ _ h1 q
    wp_walk using q1
    refine wpAny_stack_any fun st => wpAny_pure ?_
    split
    · rename_i c _ _ _ _ _
      cases (c == Value.type "enumerate")
      · wp_walk using q1
        exact ⟨_, rfl, h⟩
      · wp_walk using q1
        exact ⟨_, rfl, h⟩
    · wp_walk using q1
      exact ⟨_, rfl, h⟩
theorem call_enumT {prog : Program} {w : World} {A : Around} {E : Value → Shared → Prop} {s : Shared} {v : Value} {o : Obj} {H : Heap → Prop} {Q : Value → Shared → Prop} (B : Begins v o H) (h1 : H s.heap)
    (h : ∀ h', IsEnum h' (s.heap.objs.size + 1) s.heap.objs.size 0 .none → h'.get? s.heap.objs.size = some o → (∀ b o, s.heap.get? b = some o → h'.get? b = some o) → Q (.ref (s.heap.objs.size + 1)) { s with heap := h' }) :
    wpAny (model prog w) A (call (.type "enumerate") [v]) Q E s := by
  refine callType_new F.called_enumerate (by decide) (F.typeCall_enumerate_1 _) (F.newCall_enumerate_1 _) (fun obj => F.args_object_init_2 obj _) F.entry_enumerate_new (meets_enumerate_newB1 B) ⟨h1, ?_⟩
  have hz : (s.heap.push o).objs.size = s.heap.objs.size + 1 := Heap.size_push ..
  show _ ∧ _
  rw [hz]
  have he : IsEnum ((s.heap.push o).push { cls := .type "enumerate", data := .fields #[.none, .bool false, .ref s.heap.objs.size, rawInt 0, .none, .none] }) (s.heap.objs.size + 1) s.heap.objs.size 0 .none := by
    have := Heap.get?_push_size (s.heap.push o) (o := { cls := .type "enumerate", data := .fields #[.none, .bool false, .ref s.heap.objs.size, rawInt 0, .none, .none] }) rfl
    rw [hz] at this; exact this
  exact ⟨⟨_, he, rfl⟩, h _ he (Heap.get?_push_of_some _ (Heap.get?_push_size _ B.free)) fun b o x => Heap.get?_push_of_some _ (Heap.get?_push_of_some _ x)⟩
def iEnumT (K : PySem.W.Frag) (ta : TA) : TI := fun σ H R => ta σ H fun vs H1 => ∃ a xs, vs = [.ref a] ∧ SqT K H1 a xs ∧ R (Itf K a) H1
theorem pi_enumT {X : Cx} {e : Expr} {ta : TA} {p pos tpos : Pos} {elts : List Expr} {kk : Nat} (hg : Gl X "enumerate") (hm : X.mg "enumerate" = none) (ha : PA X [e] ta) (hs : starEach [e] X.env = [(false, eval e X.env)] := by rfl) :
    PI X (.Tuple elts kk tpos) (.Call (.Name "enumerate" p) [e] [] pos) (iEnumT X.K ta) := by
  refine ⟨fun pins s σ H R I h => ?_⟩
  refine Call_ (ld_blt I hg hm boot_enumerate (PyProof.Rows.callWith_type1 (thn (ha.run pos pins s σ H _ I h) fun us s1 ⟨vs, H1, I1, r1, q1⟩ => ?_) hs rfl))
  obtain ⟨a, xs, ex, hq, q⟩ := q1
  subst ex
  cases r1 with
  | cons r rr =>
    cases rr
    cases r
    obtain ⟨its, rv, p', hz⟩ := I1.tuple hq
    have pt : s1.heap.IsTuple a its.toArray := p'
    have hla : a < s1.heap.objs.size := by obtain ⟨_, q, _⟩ := id pt; exact Heap.lt_size q
    refine call_enumT (begins_tuple a its.toArray) pt fun h' he hit hk => wpAny_pyIter_enum he ?_
    have I2 : Inv X pins σ H1 { s1 with heap := h' } := I1.kept (t' := s1.toks) hk
    refine ⟨s1.heap.objs.size + 1, [s1.heap.objs.size + 1, s1.heap.objs.size], _, _, H1, rfl, I2, turn_enumT a (s1.heap.objs.size + 1) s1.heap.objs.size (Nat.ne_of_lt hla) (Nat.ne_of_lt (Nat.lt_succ_of_lt hla)), ⟨⟨.none, he⟩, ⟨_, hit, rfl, rfl⟩, Nat.succ_ne_self _⟩, fun b hb => ?_, q⟩
    have e' : b = s1.heap.objs.size + 1 ∨ b = s1.heap.objs.size := by simpa using hb
    have hle : s1.heap.objs.size ≤ b := by
      rcases e' with z | z
      · rw [z]; exact Nat.le_add_right _ _
      · rw [z]; exact Nat.le_refl _
    exact I1.fpOk hle (I1.hok.fresh hle)
theorem walk_enumT {K : PySem.W.Frag} {a : Addr} {xs : List V} : Walk (Itf K a) xs.length (fun H => SqT K H a xs) (YPair (fun i => some (.int (i : Nat))) (fun i => xs[i]?)) := by
  refine ⟨fun i _ hi q => ⟨xs, xs[i], q, by simp [hi]⟩, fun _ q => ⟨xs, q, Nat.le_refl _⟩, fun i H v H' _ q y => ?_⟩
  obtain ⟨T, x, h1, h2, h3, h4⟩ := y
  exact ⟨T, .int (i : Nat), x, h1, h2, h3, rfl, h4 xs q⟩
end Dq
set_option maxHeartbeats 4000000
/-! Session.do. -/
namespace Dq
open PySem PySem.Spec PyProof.Rows L2
theorem after_row {k : Bool} {lim : Nat} {r r' : List Int} {st : Stp} (h : after k lim r st = some r') (hr : Sm r) (hs : SmS st) : Sm r' ∧ r'.length ≤ r.length + 1 := by
  have h1 := (after_kept h).1
  refine ⟨?_, stepped_len h1⟩
  unfold stepped at h1
  intro i hi
  split at h1
  · cases h1
    split at hi
    · rcases List.mem_cons.mp hi with e | e
      · rw [e]; exact hs
      · exact hr i e
    · rcases List.mem_append.mp hi with e | e
      · exact hr i e
      · rw [List.mem_singleton.mp e]; exact hs
  · split at h1
    · split at h1
      · cases h1
        exact hr i (List.mem_of_mem_tail hi)
      · cases h1
    · split at h1
      · cases h1
        exact hr i (List.dropLast_subset r hi)
      · cases h1
theorem perf_cons {k : Bool} {lim i : Nat} {r : List Int} {s : Stp} {t : List Stp} : perf k lim i r (s :: t) = (match after k lim r s with | none => .error i | some r' => perf k lim (i + 1) r' t) := rfl
theorem perf_nil {k : Bool} {lim i : Nat} {r : List Int} : perf k lim i r [] = .ok r := rfl
/-- what do wants of its caller -/
def DoOut (T : List (Addr × Str)) (CS CK CF x : Addr) (s : Se) (u : Str) (ss : List Stp) (G : Hp) (S : Own) (Q : VK) (E : XK) : Except Nat (List Int) → Prop
  | .error i => ∀ d G' H', Wd T G' S H' → Same G G' → H' d = some (.xd [("value", .int i)]) → E (.ref CF) (some d) H'
  | .ok r' => ∀ G' S' H' p, Wd T G' S' H' → Same G G' → Fr [x] S S' → Ses CS CK G' S' x (s.did u ss r') → IsRow G' p r' → Q (.ref p) H'
theorem DoOut.sub {T : List (Addr × Str)} {CS CK CF x : Addr} {s : Se} {u : Str} {ss : List Stp} {G G1 : Hp} {S : Own} {Q : VK} {E : XK} {o} (h : DoOut T CS CK CF x s u ss G S Q E o) (e : Same G G1) : DoOut T CS CK CF x s u ss G1 S Q E o := by
  cases o with
  | error i => exact fun d G' H' W e' => h d G' H' W (e.trans e')
  | ok r => exact fun G' S' H' p W e' => h G' S' H' p W (e.trans e')
section
variable {P : Program} {w : World} {K : PySem.W.Frag} {mg : Str → Option Value} {base : Heap} {f CF CN CS CK : Addr}
def spDo (CS CK CF : Addr) : Sp := fun vs H Q E => ∃ (x : Addr) (u : Str) (rs : List Addr) (ss : List Stp) (s : Se) (T : List (Addr × Str)) (G : Hp) (S : Own) (m : Nat), vs = .ref x :: .str u :: rs.map V.ref ∧ Wd T G S H ∧ Ses CS CK G S x s ∧ OkS m s ∧ m ≤ 190 ∧ OkU u ∧ Paired (IsStp G) rs ss ∧ (∀ t ∈ ss, SmS t) ∧ ss.length ≤ 3 ∧
  DoOut T CS CK CF x s u ss G S Q E (perf s.kept s.lim 0 s.row ss)
def spDoI (CS CK CF : Addr) : Sp := fun vs H Q E => ∃ (x p : Addr) (u : Str) (rs : List Addr) (ss : List Stp) (s : Se) (T : List (Addr × Str)) (G : Hp) (S : Own) (m : Nat), vs = [.ref x, .str u, .ref p] ∧ Wd T G S H ∧ Ses CS CK G S x s ∧ OkS m s ∧ m ≤ 190 ∧ OkU u ∧ G p = some (.tup (rs.map V.ref)) ∧ Paired (IsStp G) rs ss ∧ (∀ t ∈ ss, SmS t) ∧ ss.length ≤ 3 ∧
  DoOut T CS CK CF x s u ss G S Q E (perf s.kept s.lim 0 s.row ss)
theorem scDo : FnScope ["self", "user", "steps", "present", "index", "step"] ["self", "user", "steps"] (defScope sDo) := ⟨rfl, rfl, rfl, by decide +kernel, rfl, by decide +kernel, by decide +kernel⟩
theorem FnR.up {CX : CXT} {k j : Nat} {sp : Sp} (F : FnR P w K mg base CX k f sp) (h : k ≤ j) : FnR P w K mg base CX j f sp := fun A outer s H us vs Q E hr e0 r q => F A outer s H us vs Q E (hr.mono h) e0 r q
theorem f_do (N : Nm mg) (C : CxS K CS CK) (TX : TxX K mg CF CN) (cF : MakX P w K mg base 1 "Fails" CF (spFailsI CF)) (cU : Glo P w K mg base CX0 1 "is_name" spName) (cS : Glo P w K mg base CX0 4 "check_steps" spCkSteps)
    (cA : ∀ b, Mtd P w K mg base CX0 4 (cof CS CK b) "after" (spAfter CS CK b)) (F : IsFn K "do" "Session.do" sDo f) : FnR P w K mg base (L2.CX P w) 5 f (spDo CS CK CF) := by
  refine FnR.mono (fnStar (k := 4) (sp := spDoI CS CK CF) (ps := ["self", "user"]) (pv := "steps") F scDo (fun _ _ _ _ _ _ us rest hl => match us, rest, hl with | [_, _], [], _ => rfl | [_, _], _ :: _, _ => rfl) fun cdv A outer s H vs Q E hr h => ?_) fun vs H Q E h => ?_
  · obtain ⟨x, p, u, rs, ss, s, T, G, S, m, rfl, W, hs, ok, hm, hu, hp, hst, hsm, hn, h⟩ := h
    obtain ⟨dx, ra, da, ua, dr, ur, h1, h2, h3, h4, h5, h6, h7, k1, k2, k3, k4, k5, k6⟩ := hs.op W
    obtain ⟨fI, FI, i1, i2⟩ := cF.ex
    refine ⟨_, pss_cons (ps_if (pt_not (pt_val (pe_g cU hr pass0 (pa_cons (pv 1) pa_nil)))) (pss_one ps_never) pss_nil)
      (pss_cons (ps_expr (pe_g cS hr pass0 (pa_cons (pv 2) pa_nil)))
      (pss_cons (ps_set (i := 3) scDo.nd rfl (Or.inl rfl) (pe_fld (pv 0) rfl))
      (pss_cons (ps_for (passes_of rfl) rfl (pi_enumT (by rfl) N.enum (pa_cons (pv 2) pa_nil)) (pg_tup rfl (pgs_cons (pg_name (i := 4) scDo.nd rfl (.inl rfl)) (pgs_cons (pg_name (i := 5) scDo.nd rfl (.inl rfl)) pgs_nil)))
        (pss_cons (ps_set (i := 3) scDo.nd rfl (Or.inl rfl) (pe_m (pv 0) (cA s.kept) hr pass0 (pa_cons (pv 3) (pa_cons (pv 5) pa_nil))))
        (pss_one (ps_if (pt_cmpR op_isN (pv 3) pe_non (nomark _)) (pss_one (ps_raise rfl (takes_of rfl rfl rfl rfl) (pmk_x (k := 3) TX.oF i1 i2 FI hr cF.m (pa_cons (pv 4) pa_nil)))) pss_nil))))
      (pss_cons (ps_expr (pe_bm PySem.F.plainAttrs_list PySem.F.slot_list_append PySem.F.type_list_append mt_append (pe_fld (pv 0) rfl) (pa_cons (pe_tup (pa_cons (pv 1) (pa_cons (pe_callTy call_list_of (by rfl) N.list (by decide +kernel) (pa_cons (pv 2) pa_nil)) (pa_cons (pe_fld (pv 0) rfl) pa_nil)))) pa_nil)))
      (pss_cons (ps_fld (pv 0) (pe_lst pa_nil) rfl)
      (pss_cons (ps_fld (pv 0) (pv 3) rfl)
      (pss_one (ps_ret (pe_callTy call_list_of (by rfl) N.list (by decide +kernel) (pa_cons (pv 3) pa_nil)))))))))), ?_⟩
    refine ⟨_, rfl, u, rfl, hu, fun H1 e1 => ⟨true, rfl, ifF rfl ?_⟩⟩
    have W1 := W.grow e1
    refine ⟨_, rfl, p, rs, ss, rfl, W1.same _ _ hp, stps_mono hst W1.same, fun t ht => (hsm t ht).1, by omega, fun H2 e2 => ?_⟩
    have W2 := W1.grow e2
    have hlen : rs.length = ss.length := hst.length
    refine ⟨_, rfl, x, _, dx, _, _, rfl, (W2.s _ _ _ h1).1, C.cl _, C.nr _, sfs_row, ?_⟩
    refine ⟨_, rfl, p, _, rfl, SqT.of (W2.same _ _ hp), ?_⟩
    refine for_it (walk_enumT (xs := rs.map V.ref)) (fun i σ H' => ∃ G' cur ri o1 o2, σ = [some (.ref x), some (.str u), some (.ref p), some (.ref cur), o1, o2] ∧ Wd T G' S H' ∧ Same G G' ∧ IsRow G' cur ri ∧ Sm ri ∧ ri.length ≤ m + i ∧ perf s.kept s.lim i ri (ss.drop i) = perf s.kept s.lim 0 s.row ss)
      ⟨G, ra, s.row, none, none, rfl, W2, Same.refl _, h5, ok.r, ok.l, rfl⟩ (fun i σ H' _ ⟨G', cur, ri, o1, o2, _, W', eG, _⟩ => SqT.of (W'.same _ _ (eG _ _ hp))) (fun i y σ H' H'' hi h' hY => ?_) (fun σ H' h' => ?_)
    · obtain ⟨G', cur, ri, o1, o2, rfl, W', eG, hc, hsmr, hlr, hpf⟩ := h'
      obtain ⟨tp, x1, x2, rfl, htp, rfl, ex1, ex2⟩ := hY
      cases ex1
      have ex2 : (List.map V.ref rs)[i]? = some x2 := ex2
      rw [List.getElem?_map] at ex2
      obtain ⟨r, hr1, rfl⟩ := Option.map_eq_some_iff.mp ex2
      obtain ⟨st, hs1, hs2⟩ := paired_get hst hr1
      have hi' : i < ss.length := (List.getElem?_eq_some_iff.mp hs1).1
      have hsst := hsm st (List.mem_of_getElem? hs1)
      have W3 := W'.grow (same_upd (o := .tup [.int (i : Nat), .ref r]) htp)
      have hdrop : ss.drop i = st :: ss.drop (i + 1) := by
        rw [← (List.getElem?_eq_some_iff.mp hs1).2]
        exact List.drop_eq_getElem_cons hi'
      rw [hdrop, perf_cons] at hpf
      refine ⟨tp, _, rfl, SqT.of upd_same, rfl, _, _, rfl, _, _, rfl, rfl, ?_⟩
      refine ⟨_, rfl, x, dx, _, rfl, (W3.s _ _ _ h1).1, by kernel_rfl, _, rfl, _, rfl, ?_⟩
      refine ⟨x, cur, r, ri, st, s, T, G', S, rfl, rfl, W3, hs.mono eG (fun _ _ q => q), hc.mono W3.same, (hs2.mono eG).mono W3.same, hsmr, hsst, by omega, ?_⟩
      cases ho : after s.kept s.lim ri st with
      | none =>
        rw [ho] at hpf
        rw [← hpf] at h
        refine fun H4 e4 => ⟨_, rfl, rfl, true, rfl, ifT rfl ⟨_, rfl, Nat.le_of_ble_eq_true rfl, fun a ha => ⟨a, _, rfl, upd_same, fun d hd nd => ⟨rfl, .inl ⟨d, _, upd_same, by rw [upd_ne nd]; exact upd_same, by rw [upd_ne nd] at hd; exact hd, ?_⟩⟩⟩⟩⟩
        rw [upd_ne nd] at hd
        refine h d G' _ ((W3.grow e4).grow fun z o hz => ?_) eG upd_same
        have nza : z ≠ a := ne_of_none hz ha
        have nzd : z ≠ d := ne_of_none hz hd
        rw [upd_ne nzd, del_ne nza, upd_ne nza, upd_ne nzd, upd_ne nza]
        exact hz
      | some r' =>
        rw [ho] at hpf
        refine fun H4 q e4 hq hrow => ⟨_, rfl, rfl, false, rfl, ifF rfl ?_⟩
        obtain ⟨W5, eG5⟩ := W3.got e4 hq hrow True.intro
        obtain ⟨a1, a2⟩ := after_row ho hsmr hsst
        exact ⟨_, q, r', _, _, rfl, W5, eG.trans eG5, upd_same, a1, by omega, hpf⟩
    · obtain ⟨G', cur, ri, o1, o2, rfl, W', eG, hc, hsmr, hlr, hpf⟩ := h'
      rw [List.length_map, hlen] at hlr hpf
      rw [List.drop_length, perf_nil] at hpf
      rw [← hpf] at h
      have h0 := h.sub eG
      have k2' := (W'.s _ _ _ h2).1
      refine ⟨_, rfl, x, _, dx, _, _, rfl, (W'.s _ _ _ h1).1, C.cl _, C.nd _, sfs_done, .inl ⟨rfl, _, SqL.of k2'⟩, ?_⟩
      refine ⟨_, rfl, _, rfl, p, _, rfl, .inr (SqT.of (W'.same _ _ (eG _ _ hp))), fun l hl => ?_⟩
      obtain ⟨W6, eG6⟩ := W'.new (o := .lst (rs.map V.ref)) hl True.intro
      refine ⟨_, rfl, x, _, dx, _, _, rfl, (W6.s _ _ _ h1).1, C.cl _, C.nr _, sfs_row, by show 3 ≤ sizeLine; decide, fun t ht => ?_⟩
      obtain ⟨W7, eG7⟩ := W6.new (o := .tup [.str u, .ref l, .ref ra]) ht True.intro
      refine ⟨da, _, _, rfl, rfl, (W7.s _ _ _ h2).1, ?_, ?_⟩
      · rw [List.length_map, h6.length]
        have := ok.n
        exact thou (by omega)
      have W8 := W7.wr (o' := .lst (dr.map V.ref ++ [.ref t])) h2 True.intro
      have px8 : updS S da x (.lst (dr.map V.ref ++ [.ref t])) x = some (x, .ins (cof CS CK s.kept) dx (sfs ra s.lim da ua)) := by rw [updS_ne (Ne.symm k5)]; exact h1
      refine ⟨by show 0 ≤ sizeLine; decide, fun un hun => ?_⟩
      have W9 := W8.newS (o := .lst []) hun True.intro x
      have nxu : x ≠ un := ne_of_none (W8.s _ _ _ px8).1 hun
      have ndu : da ≠ un := ne_of_none (W8.s _ _ _ updS_same).1 hun
      have px9 : updS (updS S da x (.lst (dr.map V.ref ++ [.ref t]))) un x (.lst []) x = some (x, .ins (cof CS CK s.kept) dx (sfs ra s.lim da ua)) := by rw [updS_ne nxu]; exact px8
      refine ⟨_, rfl, x, _, dx, _, rfl, (W9.s _ _ _ px9).1, C.cl _, C.nu _, by show (4 : Nat) < 1000; decide, ?_⟩
      rw [show putF (Str.ofString "undone") (.ref un) (sfs ra s.lim da ua) = sfs ra s.lim da un from put_undone]
      have W10 := W9.wr (o' := .ins (cof CS CK s.kept) dx (sfs ra s.lim da un)) px9 True.intro
      refine ⟨_, rfl, _, rfl, x, _, dx, _, rfl, (W10.s _ _ _ updS_same).1, C.cl _, C.nr _, by show (4 : Nat) < 1000; decide, ?_⟩
      rw [show putF (Str.ofString "own_row") (.ref cur) (sfs ra s.lim da un) = sfs cur s.lim da un from put_row]
      have W11 := W10.wr (o' := .ins (cof CS CK s.kept) dx (sfs cur s.lim da un)) updS_same True.intro
      have hc' := eG7 _ _ (eG6 _ _ hc)
      refine ⟨_, rfl, cur, _, rfl, .inl (SqL.of (W11.same _ _ hc')), fun q hq => ?_⟩
      obtain ⟨W12, eG12⟩ := W11.new (o := .lst (ri.map V.int)) hq True.intro
      have eAll := (eG6.trans eG7).trans eG12
      refine h0 _ _ _ q W12 eAll ?_ ⟨dx, cur, da, un, dr ++ [t], [], updS_same, ?_, ?_, ndu, hc.mono eAll, paired_app ?_ (calls_mono h6 (eG.trans eAll)), .nil⟩ upd_same
      · have f1 : Fr [x] S _ := Fr.upd (u := .lst (dr.map V.ref ++ [.ref t])) h2 (by simp)
        have f2 := f1.trans (Fr.new (u := .lst []) (w := x) (W8.noS hun))
        have f3 := f2.trans (Fr.upd (u := .ins (cof CS CK s.kept) dx (sfs ra s.lim da un)) px9 (by simp))
        exact f3.trans (Fr.upd updS_same (by simp))
      · rw [updS_ne k5, updS_ne k5, updS_ne ndu, updS_same, List.map_append]
        rfl
      · rw [updS_ne (Ne.symm nxu), updS_ne (Ne.symm nxu), updS_same]
        rfl
      · exact ⟨l, ra, eG12 _ _ upd_same, ⟨rs, eG12 _ _ (eG7 _ _ upd_same), stps_mono hst (eG.trans eAll)⟩, h5.mono (eG.trans eAll)⟩
  · obtain ⟨x, u, rs, ss, s, T, G, S, m, rfl, W, hs, ok, hm, hu, hst, hsm, hn, h⟩ := h
    refine ⟨[.ref x, .str u], rs.map V.ref, rfl, rfl, ?_, fun p hp => ?_⟩
    · rw [List.length_map, hst.length]
      exact Nat.le_of_lt (thou (by omega))
    obtain ⟨W1, eG⟩ := W.new (o := .tup (rs.map V.ref)) hp True.intro
    exact ⟨x, p, u, rs, ss, s, T, _, S, m, rfl, W1, hs.mono eG (fun _ _ q => q), ok, hm, hu, upd_same, stps_mono hst eG, hsm, hn, h.sub eG⟩
end
end Dq
set_option maxHeartbeats 4000000
/-! Session.__eq__, Session.replayed. -/
namespace Dq
open PySem PySem.Spec PyProof.Rows L2
theorem Chain.inv {k : Bool} {lim : Nat} {r0 r : List Int} {cs : List Call} (h : Chain k lim r0 cs r) : (cs = [] ∧ r = r0) ∨ ∃ ds c, cs = ds ++ [c] ∧ Chain k lim r0 ds c.row ∧ perf k lim 0 c.row c.steps = .ok r := by
  cases h with
  | nil => exact .inl ⟨rfl, rfl⟩
  | snoc a b => exact .inr ⟨_, _, rfl, a, b⟩
theorem Chain.uniq {k : Bool} {lim : Nat} {r0 r r' : List Int} {cs : List Call} (h : Chain k lim r0 cs r) (h' : Chain k lim r0 cs r') : r = r' := by
  rcases h.inv with ⟨e, e2⟩ | ⟨ds, c, e, a, b⟩
  · rcases h'.inv with ⟨_, e3⟩ | ⟨ds', c', e', _, _⟩
    · rw [e2, e3]
    · rw [e] at e'
      simp at e'
  · rcases h'.inv with ⟨e3, _⟩ | ⟨ds', c', e', a', b'⟩
    · rw [e] at e3
      simp at e3
    · rw [e] at e'
      obtain ⟨_, e2⟩ := List.append_inj' e' rfl
      have e3 : c = c' := by simpa using e2
      subst e3
      rw [b] at b'
      injection b'
theorem Chain.at {k : Bool} {lim : Nat} {r0 r : List Int} {cs : List Call} (h : Chain k lim r0 cs r) : ∀ {i : Nat} {c : Call}, cs[i]? = some c → Chain k lim r0 (cs.take i) c.row ∧ ∃ r', perf k lim 0 c.row c.steps = .ok r' ∧ Chain k lim r0 (cs.take (i + 1)) r' := by
  induction h with
  | nil => intro i c e; simp at e
  | @snoc cs c r a b ih =>
    intro i d e
    by_cases hi : i < cs.length
    · rw [List.getElem?_append_left hi] at e
      obtain ⟨x, r', y, z⟩ := ih e
      rw [List.take_append_of_le_length (by omega), List.take_append_of_le_length (by omega)]
      exact ⟨x, r', y, z⟩
    · have hlt := (List.getElem?_eq_some_iff.mp e).1
      rw [List.length_append, List.length_singleton] at hlt
      have hi2 : i = cs.length := by omega
      subst hi2
      have e2 : d = c := by simpa using e.symm
      subst e2
      rw [List.take_left', List.take_of_length_le (by simp)]
      · exact ⟨a, r, b, .snoc a b⟩
      · rfl
structure TxI (K : PySem.W.Frag) (CS CK : Addr) : Prop where
  ha : ∀ b, PySem.W.findIn K (.ref (cof CS CK b)) "__class__" = some (some (.builtin "object.__class__"))
  hn : PySem.W.specialIn K (.builtin "object.__class__") "__get__" = some (some (.builtin "getset_descriptor.__get__"))
  ht : PySem.W.takesIn K (.builtin "object.__class__") = some true
  hm : ∀ b, PySem.W.mroIn K (cof CS CK b) (.type "object") = some true
  is : ∀ b, PySem.W.kitOne K (.ref (cof CS CK b)) (.ref CS) = some true
  li : PySem.W.kitOne K (.type "list") (.ref CS) = some false
structure Bm (P : Program) (w : World) (K : PySem.W.Frag) (mg : Str → Option Value) (base : Heap) (CX : CXT) (k : Nat) (C : Addr) (m : Str) (sp : Sp) : Prop where
  ex : ∃ g, FnR P w K mg base CX k g sp ∧ BMeth K C m g
theorem Bm.mtd {P : Program} {w : World} {K : PySem.W.Frag} {mg : Str → Option Value} {base : Heap} {CX : CXT} {k : Nat} {C : Addr} {m : Str} {sp : Sp} (b : Bm P w K mg base CX k C m sp) (c : Cls K C) : Mtd P w K mg base CX k C m sp := let ⟨g, F, h⟩ := b.ex; ⟨⟨g, F, h.mt⟩, c⟩
def eqS (s t : Se) : Bool := decide (s.kept = t.kept) && (decide (s.row = t.row) && (decide (s.log = t.log) && decide (s.lim = t.lim)))
section
variable {P : Program} {w : World} {K : PySem.W.Frag} {mg : Str → Option Value} {base : Heap} {f CF CN CS CK : Addr}
def spEq (CS CK : Addr) : Sp := fun vs H Q _ => ∃ (x y : Addr) (s : Se) (T : List (Addr × Str)) (G : Hp) (S : Own) (m : Nat), vs = [.ref x, .ref y] ∧ Wd T G S H ∧ Ses CS CK G S x s ∧ OkS m s ∧ m ≤ 200 ∧
  ((∃ xs, H y = some (.lst xs) ∧ Q (.bl false) H) ∨ ∃ t, Ses CS CK G S y t ∧ OkS m t ∧ ∀ G' H', Wd T G' S H' → Same G G' → Same H H' → Q (.bl (eqS s t)) H')
theorem scEq : FnScope ["self", "other"] ["self", "other"] (defScope sEq) := ⟨rfl, rfl, rfl, by decide +kernel, rfl, by decide +kernel, by decide +kernel⟩
theorem f_eq (N : Nm mg) (C : CxS K CS CK) (TI : TxI K CS CK) (mS : mg "Session" = some (.ref CS)) (cK : ∀ b, Mtd P w K mg base CX0 1 (cof CS CK b) "is_kept" (spKept b)) (cL : ∀ b, Mtd P w K mg base CX0 1 (cof CS CK b) "log" (spLog CS CK))
    (F : IsFn K "__eq__" "Session.__eq__" sEq f) : FnR P w K mg base CX0 2 f (spEq CS CK) := by
  refine fn0 (k := 1) F scEq (fun _ _ _ _ _ _ us hl => match us, hl with | [_, _], _ => rfl) (fun _ _ _ _ ⟨_, _, _, _, _, _, _, h, _⟩ => by rw [h]; rfl) fun cdv A outer s0 H vs Q E hr h => ?_
  obtain ⟨x, y, s, T, G, S, m, rfl, W, hs, ok, hm, h⟩ := h
  obtain ⟨dx, ra, da, ua, dr, ur, h1, h2, h3, h4, h5, h6, h7, k1, k2, k3, k4, k5, k6⟩ := hs.op W
  rcases h with ⟨xs, hy, h⟩ | ⟨t, ht, ok', h⟩
  · refine ⟨_, pss_cons (ps_if (PW.pt (pw_or (pt_not (pt_val (pe_callB call_isi (by rfl) N.isi (by decide +kernel) (pa_cons (pv 1) (pa_cons (pe_glob (v := .ref CS) rfl mS rfl) pa_nil)))))
      (pw_or1 (pt_cmpR op_ne (pe_m0 (pv 0) (cK false) hr pass0) (pe_m0 (pv 1) (cK false) hr pass0) (nomark _))))) (pss_one (ps_ret pe_bl)) pss_nil)
    (pss_one (ps_ret (pe_and (pe_cmpR (op_eqD hr.units) (pe_fld (pv 0) rfl) (pe_fld (pv 1) rfl) (nomark _))
      (pe_and (pe_cmpR (op_eqD hr.units) (pe_m0 (pv 0) (cL false) hr pass0) (pe_m0 (pv 1) (cL false) hr pass0) (nomark _)) (pe_one (pe_cmpR op_eq (pe_fld (pv 0) rfl) (pe_fld (pv 1) rfl) (nomark _))))))), ?_⟩
    refine ⟨_, rfl, .ref y, .ref CS, _, _, false, rfl, .own CS, .base (.lst hy), TI.li, false, rfl, ifT rfl h⟩
  · obtain ⟨dy, rb, db, ub, es, us, g1, g2, g3, g4, g5, g6, g7, j1, j2, j3, j4, j5, j6⟩ := ht.op W
    refine ⟨_, pss_cons (ps_if (PW.pt (pw_or (pt_not (pt_val (pe_callB call_isi (by rfl) N.isi (by decide +kernel) (pa_cons (pv 1) (pa_cons (pe_glob (v := .ref CS) rfl mS rfl) pa_nil)))))
      (pw_or1 (pt_cmpR op_ne (pe_m0 (pv 0) (cK s.kept) hr pass0) (pe_m0 (pv 1) (cK t.kept) hr pass0) (nomark _))))) (pss_one (ps_ret pe_bl)) pss_nil)
    (pss_one (ps_ret (pe_and (pe_cmpR (op_eqD hr.units) (pe_fld (pv 0) rfl) (pe_fld (pv 1) rfl) (nomark _))
      (pe_and (pe_cmpR (op_eqD hr.units) (pe_m0 (pv 0) (cL s.kept) hr pass0) (pe_m0 (pv 1) (cL t.kept) hr pass0) (nomark _)) (pe_one (pe_cmpR op_eq (pe_fld (pv 0) rfl) (pe_fld (pv 1) rfl) (nomark _))))))), ?_⟩
    refine ⟨_, rfl, .ref y, .ref CS, _, _, true, rfl, .own CS, .base (.ins j1 (C.cl _) (TI.ha _) TI.hn TI.ht (TI.hm _)), TI.is _, true, rfl, ifF rfl ?_⟩
    refine ⟨_, rfl, x, dx, _, rfl, k1, by kernel_rfl, x, rfl, ?_⟩
    refine ⟨_, rfl, y, dy, _, rfl, j1, by kernel_rfl, y, rfl, rfl, _, rfl, ?_⟩
    by_cases ek : s.kept = t.kept
    · refine ifF (by rw [ek]; simp) ?_
      refine ⟨_, rfl, x, _, dx, _, _, rfl, k1, C.cl _, C.nr _, sfs_row, _, rfl, y, _, dy, _, _, rfl, j1, C.cl _, C.nr _, sfs_row, ?_⟩
      refine ⟨_, _, dp_row k4, dp_row j4, (fine_row ok.r).shaped (by omega), (fine_row ok'.r).shaped (by omega), decide (s.row = t.row), by rw [eqv_row ok.r ok'.r], ?_⟩
      by_cases er : s.row = t.row
      · refine ifT (decide_eq_true er) ?_
        refine ⟨_, rfl, x, dx, _, rfl, k1, by kernel_rfl, x, s, T, G, S, m, rfl, W, hs, ok, hm, fun G1 H1 p1 W1 eG1 eH1 hp1 hl1 => ?_⟩
        refine ⟨_, rfl, y, dy, _, rfl, (W1.s _ _ _ g1).1, by kernel_rfl, y, t, T, G1, S, m, rfl, W1, ht.mono eG1 (fun _ _ q => q), ok', hm, fun G2 H2 p2 W2 eG2 eH2 hp2 hl2 => ?_⟩
        refine ⟨_, _, dp_log ((hl1.mono eG2).mono W2.same), dp_log (hl2.mono W2.same), (fine_log ok).shaped (by omega), (fine_log ok').shaped (by omega), decide (s.log = t.log), by rw [eqv_log ok ok'], ?_⟩
        have h' := h G2 H2 W2 (eG1.trans eG2) (eH1.trans eH2)
        unfold eqS at h'
        rw [decide_eq_true ek, decide_eq_true er, Bool.true_and, Bool.true_and] at h'
        by_cases el : s.log = t.log
        · refine ifT (decide_eq_true el) ?_
          rw [decide_eq_true el, Bool.true_and] at h'
          refine ⟨_, rfl, x, _, dx, _, _, rfl, (W2.s _ _ _ h1).1, C.cl _, C.nl _, sfs_lim, _, rfl, y, _, dy, _, _, rfl, (W2.s _ _ _ g1).1, C.cl _, C.nl _, sfs_lim, rfl, ?_⟩
          have e : decide (V.int (s.lim : Int) = V.int (t.lim : Int)) = decide (s.lim = t.lim) := by
            rw [decide_eq_decide]
            constructor
            · intro z
              injection z with z
              exact Int.ofNat.inj z
            · intro z
              rw [z]
          show Q (.bl (decide (V.int (s.lim : Int) = V.int (t.lim : Int)))) H2
          rw [e]
          exact h'
        · refine ifF (decide_eq_false el) ?_
          rw [decide_eq_false el, Bool.false_and] at h'
          exact h'
      · refine ifF (decide_eq_false er) ?_
        have h' := h G H W (Same.refl _) (Same.refl _)
        unfold eqS at h'
        rw [decide_eq_true ek, decide_eq_false er, Bool.true_and, Bool.false_and] at h'
        exact h'
    · refine ifT (by simp [ek]) ?_
      have h' := h G H W (Same.refl _) (Same.refl _)
      unfold eqS at h'
      rw [decide_eq_false ek, Bool.false_and] at h'
      exact h'
end
end Dq
set_option maxHeartbeats 4000000
/-! Session.replayed. -/
namespace Dq
open PySem PySem.Spec PyProof.Rows L2
section
variable {P : Program} {w : World} {K : PySem.W.Frag} {mg : Str → Option Value} {base : Heap} {f CF CN CS CK : Addr}
def logOf (cs : List Call) : List (Str × List Stp) := cs.map fun c => (c.user, c.steps)
def spReplayed (CS CK : Addr) (b : Bool) : Sp := fun vs H Q _ => ∃ (a l : Addr) (r0 r : List Int) (done : List Call) (T : List (Addr × Str)) (G : Hp) (S : Own) (m : Nat), vs = [.ref (cof CS CK b), .ref a, .ref l] ∧ Wd T G S H ∧ IsRow G a r0 ∧ IsLog G l (logOf done) ∧
  Chain b 200 r0 done r ∧ OkS m ⟨b, r, 200, done, []⟩ ∧ m ≤ 190 ∧ Sm r0 ∧ r0.length ≤ m ∧ ∀ G' S' H' y, Wd T G' S' H' → Same G G' → Fr [y] S S' → Ses CS CK G' S' y ⟨b, r, 200, done, []⟩ → S y = none → Q (.ref y) H'
theorem scReplayed : FnScope ["cls", "row", "log", "found", "user", "steps", "call"] ["cls", "row", "log"] (defScope sReplayed) := ⟨rfl, rfl, rfl, by decide +kernel, rfl, by decide +kernel, by decide +kernel⟩
theorem f_replayed {b : Bool} (N : Nm mg) (C : CxS K CS CK) (cM : Mak P w K mg base CX0 5 (cof CS CK b) (spInit CS CK)) (cC : Glo P w K mg base CX0 1 "is_call" spIsCall) (cD : Bm P w K mg base (L2.CX P w) 5 (cof CS CK b) "do" (spDo CS CK CF))
    (F : IsFn K "replayed" "Session.replayed" sReplayed f) : FnR P w K mg base CX0 7 f (spReplayed CS CK b) := by
  refine fn0 (k := 6) F scReplayed (fun _ _ _ _ _ _ us hl => match us, hl with | [_, _, _], _ => rfl) (fun _ _ _ _ ⟨_, _, _, _, _, _, _, _, _, h, _⟩ => by rw [h]; rfl) fun cdv A outer s0 H vs Q E hr h => ?_
  obtain ⟨a, l, r0, r, done, T, G, S, m, rfl, W, ha, hlog, hch, ok, hm, hsm, hlen, h⟩ := h
  obtain ⟨gD, FD, bD⟩ := cD.ex
  obtain ⟨rs, hl1, hl2⟩ := hlog
  refine ⟨_, pss_cons (ps_set (i := 3) scReplayed.nd rfl (Or.inl rfl) (pe_mkL (k := 5) 0 cM hr pass0 (pa_cons (pv 1) pa_nil)))
    (pss_cons (ps_if (PW.pt (pw_or (pt_not (pt_val (pe_callB call_isi (by rfl) N.isi (by decide +kernel) (pa_cons (pv 2) (pa_cons (pe_bltn (v := .ty "list") (by rfl) N.list (by decide +kernel) rfl) pa_nil)))))
      (pw_or1 (pt_not (pt_val (pe_callB (cr_all rfl) (by rfl) N.all (by decide +kernel) (pa_cons (pe_lc (own := [("call", 6)]) (g := gName 6) (tt := tYes) rfl scReplayed.nd (pi_list (pv 2)) (blkOk_by (N := ["cls", "row", "log", "found", "user", "steps", "call"]) (sc := defScope sReplayed) (by decide +kernel))
        (fun _ _ _ _ _ => pg_name (i := 6) scReplayed.nd rfl (Or.inl rfl)) (fun _ _ _ _ _ => pts_nil) (fun _ _ _ _ _ => pe_g cC hr pass0 (pa_cons (pv 6) pa_nil))) pa_nil))))))) (pss_one ps_never) pss_nil)
    (pss_cons (ps_for PassesOwn.never rfl (pi_list (pv 2)) (pg_tup rfl (pgs_cons (pg_name (i := 4) scReplayed.nd rfl (.inl rfl)) (pgs_cons (pg_name (i := 5) scReplayed.nd rfl (.inl rfl)) pgs_nil)))
      (pss_one (ps_expr (pe_methSB (k := 5) (pv 3) (C.cl b) bD FD (hr.mono (by decide)) (passL) (pv 4) (pv 5)))))
    (pss_one (ps_ret (pv 3))))), ?_⟩
  refine ⟨rfl, _, rfl, fun y dy hy hdy ne => ?_⟩
  obtain ⟨W1, gy, sy, e1⟩ := W.inst (C := cof CS CK b) hy hdy ne
  refine ⟨y, a, dy, b, r0, T, G, S, rfl, W1, gy, sy, upd_same, W1.same _ _ ha, hsm, by omega, fun G1 S1 H1 W2 eG1 fr1 hy1 => ⟨rfl, ?_⟩⟩
  refine ⟨_, rfl, .ref l, .ty "list", _, _, true, rfl, .ty "list", .base (.lst (W2.same _ _ (eG1 _ _ hl1))), kit_ty (by decide +kernel), true, rfl, ifF rfl ?_⟩
  refine ⟨_, rfl, l, rfl, ⟨_, SqL.of (W2.same _ _ (eG1 _ _ hl1))⟩, fun D hD => ?_⟩
  refine lc_list (K := K) (xs := rs.map V.ref) (fun i H' => Same H1 H' ∧ H' D = some (.lst ((List.replicate i true).map V.bl))) ⟨same_upd hD, upd_same⟩ (fun i H' _ h' => .of (h'.1 _ _ (W2.same _ _ (eG1 _ _ hl1)))) (fun i z H' hx h' => ?_) (fun H' h' => ?_)
  · rw [List.getElem?_map] at hx
    obtain ⟨q, hq1, rfl⟩ := Option.map_eq_some_iff.mp hx
    obtain ⟨e, he1, he2⟩ := paired_get hl2 hq1
    refine ⟨rfl, _, rfl, q, e, rfl, ((he2.mono eG1).mono W2.same).mono h'.1, _, h'.2, ?_, ?_⟩
    · have h3 : i < rs.length := (List.getElem?_eq_some_iff.mp hq1).1
      have h4 := hl2.length
      have h5 := ok.n
      simp [logOf] at h4
      simp at h5
      simp
      exact thou (by omega)
    · rw [rep_snoc]
      exact ⟨fun b u e => by rw [upd_ne (ne_of_none e hD)]; exact h'.1 b u e, upd_same⟩
  refine ⟨_, _, rfl, SqL.of h'.2, ?_⟩
  refine ⟨((List.replicate (rs.map V.ref).length true).all id), rfl, ?_⟩
  rw [all_true]
  refine ifF rfl ?_
  have W3 := W2.grow h'.1
  refine ⟨_, rfl, l, rfl, ⟨_, SqL.of (W3.same _ _ (eG1 _ _ hl1))⟩, for_list (xs := rs.map V.ref) (fun i σ H' => ∃ G' S' ri o1 o2 o3, σ = [some (.ref (cof CS CK b)), some (.ref a), some (.ref l), some (.ref y), o1, o2, o3] ∧ Wd T G' S' H' ∧ Same G G' ∧ Fr [y] S S' ∧ Ses CS CK G' S' y ⟨b, ri, 200, done.take i, []⟩ ∧ Chain b 200 r0 (done.take i) ri)
    ⟨G1, S1, r0, _, _, _, rfl, W3, eG1, fr1.mono (by simp), hy1, by simp; exact .nil⟩ (fun i σ H' _ ⟨G', S', ri, o1, o2, o3, _, W', eG, _⟩ => SqL.of (W'.same _ _ (eG _ _ hl1))) (fun i z σ H' hx h' => ?_) (fun σ H' h' => ?_)⟩
  · obtain ⟨G', S', ri, o1, o2, o3, rfl, W', eG, fr, hses, hc⟩ := h'
    rw [List.getElem?_map] at hx
    obtain ⟨q, hq1, rfl⟩ := Option.map_eq_some_iff.mp hx
    obtain ⟨e, he1, bb, q1, sr, q2, q3⟩ := paired_get hl2 hq1
    unfold logOf at he1
    rw [List.getElem?_map] at he1
    obtain ⟨c, hc1, rfl⟩ := Option.map_eq_some_iff.mp he1
    obtain ⟨hc2, r', hp, hc3⟩ := hch.at hc1
    have er := hc.uniq hc2
    subst er
    have okc := ok.d c (List.mem_of_getElem? hc1)
    refine ⟨q, _, rfl, SqT.of (W'.same _ _ (eG _ _ q1)), rfl, _, _, rfl, _, _, rfl, rfl, ?_⟩
    obtain ⟨dx, ra, da, ua, dr, ur, h1, _⟩ := hses.op W'
    refine ⟨_, rfl, y, dx, _, rfl, (W'.s _ _ _ h1).1, by kernel_rfl, fun qm hqm => ?_⟩
    have W4 := W'.grow (same_upd (o := .met gD y) hqm)
    refine ⟨_, rfl, _, rfl, bb, _, rfl, .inr (SqL.of (W4.same _ _ (eG _ _ q2))), upd_same, ?_⟩
    refine ⟨y, c.user, sr, c.steps, _, T, G', S', m, rfl, W4, hses, ?_, hm, okc.u, stps_mono q3 eG, okc.s, okc.n, ?_⟩
    · refine ⟨okc.r, okc.l, by show (200 : Nat) ≤ 200; decide, fun d hd => ok.d d (List.mem_of_mem_take hd), fun d hd => (by cases hd), ?_⟩
      have := ok.n
      simp at this ⊢
      omega
    · show DoOut T CS CK CF y _ c.user c.steps G' S' _ _ (perf b 200 0 c.row c.steps)
      rw [hp]
      intro G5 S5 H5 p W5 eG5 fr5 hs5 _
      refine ⟨G5, S5, r', _, _, _, rfl, W5, eG.trans eG5, fr.trans fr5, ?_, hc3⟩
      rw [take_next hc1]
      exact hs5
  · obtain ⟨G', S', ri, o1, o2, o3, rfl, W', eG, fr, hses, hc⟩ := h'
    have hl4 : (rs.map V.ref).length = done.length := by
      have := hl2.length
      simp [logOf] at this
      simpa using this
    rw [hl4, List.take_length] at hc hses
    have er := hc.uniq hch
    subst er
    exact ⟨_, rfl, h G' S' H' y W' eG fr hses sy⟩
end
end Dq
set_option maxHeartbeats 4000000
/-! The law's helpers: _law_pool, _law_take, _law_after, _law_led, _law_tried. -/
namespace Dq
open PySem PySem.Spec PyProof.Rows L2
section
variable {P : Program} {w : World} {K : PySem.W.Frag} {mg : Str → Option Value} {base : Heap} {f CF CN CS CK : Addr}
def spPool (K : PySem.W.Frag) : Sp := fun vs H Q _ => ∃ (a : Addr) (ns : List Int) (k : Nat), vs = [.ref a, .int k] ∧ SqL K H a (ns.map V.int) ∧ ns.length ≤ 1000 ∧ k ≤ 10 ∧ ∀ (c e : Int) (p : Addr), 0 ≤ c → 0 ≤ e → e < 2147483648 → H p = none → Q (.ref p) (upd H p (.lst [.int c, .int e]))
theorem scPool : FnScope ["_law_script", "_law_k", "_law_cell", "_law_seed"] ["_law_script", "_law_k"] (defScope sPool) := ⟨rfl, rfl, rfl, by decide +kernel, rfl, by decide +kernel, by decide +kernel⟩
theorem f_pool (N : Nm mg) (F : IsFn K "_law_pool" "_law_pool" sPool f) : FnR P w K mg base CX0 1 f (spPool K) := by
  refine fn0 (k := 0) F scPool (fun _ _ _ _ _ _ us hl => match us, hl with | [_, _], _ => rfl) (fun _ _ _ _ ⟨_, _, _, h, _⟩ => by rw [h]; rfl) fun cdv A outer s0 H vs Q E hr h => ?_
  obtain ⟨a, ns, k, rfl, ha, hl, hk, h⟩ := h
  refine ⟨_, pss_cons (ps_set (i := 2) scPool.nd rfl (Or.inl rfl) pe_int)
    (pss_cons (ps_if (pt_cmpR op_lt (pv 1) (pe_callB call_len_seq (by rfl) N.len (by decide +kernel) (pa_cons (pv 0) pa_nil)) (nomark _)) (pss_one (ps_set (i := 2) scPool.nd rfl (Or.inl rfl) (pe_ix ix_list (pv 0) (pv 1) (fun _ _ => rfl)))) pss_nil)
    (pss_cons (ps_set (i := 3) scPool.nd rfl (Or.inl rfl) (pe_op op_mod (pe_op op_mul (pe_op op_add (pe_op op_add (pe_op op_mod (pv 2) pe_int) (pe_op op_mul (pe_op op_mul pe_int (pv 1)) (pv 1))) pe_int) pe_int) pe_int))
    (pss_cons (ps_if (pt_cmpR op_lt (pv 2) (pe_op op_pow pe_int pe_int) (nomark _)) (pss_one (ps_set (i := 2) scPool.nd rfl (Or.inl rfl) pe_int)) pss_nil)
    (pss_one (ps_ret (pe_lst (pa_cons (pv 2) (pa_cons (pe_op op_add (pe_op op_mod (pe_op op_mul (pv 3) (pv 3)) pe_int) pe_int) pa_nil)))))))), ?_⟩
  have hb : ∀ c : Int, 0 ≤ c % 2147483629 + 7919 * (k : Int) * k + 13 ∧ c % 2147483629 + 7919 * (k : Int) * k + 13 < 18446744073709551616 := fun c => by
    have h1 := Int.emod_nonneg c (show (2147483629 : Int) ≠ 0 by decide)
    have h2 := Int.emod_lt_of_pos c (show (0 : Int) < 2147483629 by decide)
    have h3 : (0 : Int) ≤ k := Int.natCast_nonneg k
    have h4 : (k : Int) ≤ 10 := by omega
    have h5 : 0 ≤ (k : Int) * k := Int.mul_nonneg h3 h3
    have h6 : (k : Int) * k ≤ 10 * 10 := Int.mul_le_mul h4 h4 h3 (by omega)
    rw [Int.mul_assoc]
    omega
  have fin : ∀ e : Int, 0 ≤ e % 2147483587 + 1 ∧ e % 2147483587 + 1 < 2147483648 := fun e => by
    have h1 := Int.emod_nonneg e (show (2147483587 : Int) ≠ 0 by decide)
    have h2 := Int.emod_lt_of_pos e (show (0 : Int) < 2147483587 by decide)
    omega
  have hm : ∀ e : Int, CMul (e % 2147483647) (e % 2147483647) := fun e => by
    have h1 := Int.emod_nonneg e (show (2147483647 : Int) ≠ 0 by decide)
    have h2 := Int.emod_lt_of_pos e (show (0 : Int) < 2147483647 by decide)
    exact .inl ⟨by omega, by omega⟩
  refine ⟨_, rfl, _, rfl, a, _, rfl, .inl ha, _, _, rfl, rfl, _, rfl, ?_⟩
  refine ite2 (fun hk2 => ?_) (fun _ => ?_)
  · rw [decide_eq_true_eq, List.length_map] at hk2
    have hk3 : k < ns.length := Int.ofNat_lt.mp hk2
    refine ⟨_, rfl, _, rfl, a, _, _, .int ns[k], rfl, rfl, ha, atI_nat (by rw [List.getElem?_map, List.getElem?_eq_getElem hk3]; rfl), ?_⟩
    refine ⟨_, rfl, _, _, rfl, rfl, by show (0 : Int) < 2147483629; decide, _, rfl, _, _, rfl, rfl, .inl ⟨by decide, by decide⟩, _, rfl, _, _, rfl, rfl, .inr ⟨by omega, by omega⟩, _, _, rfl, rfl, _, _, rfl, rfl, _, _, rfl, rfl, .inl ⟨by have := hb ns[k]; omega, by have := hb ns[k]; omega⟩, _, _, rfl, rfl, by show (0 : Int) < 2147483647; decide, ?_⟩
    refine ⟨_, rfl, _, _, rfl, rfl, ⟨by decide, by decide, by decide⟩, _, _, rfl, rfl, _, rfl, ite2 (fun hz => ?_) (fun hz => ?_)⟩
    · exact ⟨_, rfl, _, rfl, _, rfl, _, _, rfl, rfl, hm _, _, _, rfl, rfl, by show (0 : Int) < 2147483587; decide, _, _, rfl, rfl, by show 2 ≤ sizeLine; decide, fun p hp => h _ _ p (by decide) (fin _).1 (fin _).2 hp⟩
    · rw [decide_eq_true_eq] at hz
      refine ⟨_, rfl, _, rfl, _, rfl, _, _, rfl, rfl, hm _, _, _, rfl, rfl, by show (0 : Int) < 2147483587; decide, _, _, rfl, rfl, by show 2 ≤ sizeLine; decide, fun p hp => h _ _ p ?_ (fin _).1 (fin _).2 hp⟩
      have e : ((10 : Int) ^ (18 : Int).toNat) = 1000000000000000000 := by decide
      rw [e] at hz
      omega
  · refine ⟨_, rfl, _, _, rfl, rfl, by show (0 : Int) < 2147483629; decide, _, rfl, _, _, rfl, rfl, .inl ⟨by decide, by decide⟩, _, rfl, _, _, rfl, rfl, .inr ⟨by omega, by omega⟩, _, _, rfl, rfl, _, _, rfl, rfl, _, _, rfl, rfl, .inl ⟨by have := hb 0; omega, by have := hb 0; omega⟩, _, _, rfl, rfl, by show (0 : Int) < 2147483647; decide, ?_⟩
    refine ⟨_, rfl, _, _, rfl, rfl, ⟨by decide, by decide, by decide⟩, _, _, rfl, rfl, _, rfl, ifT (by decide) ?_⟩
    exact ⟨_, rfl, _, rfl, _, rfl, _, _, rfl, rfl, hm _, _, _, rfl, rfl, by show (0 : Int) < 2147483587; decide, _, _, rfl, rfl, by show 2 ≤ sizeLine; decide, fun p hp => h _ _ p (by decide) (fin _).1 (fin _).2 hp⟩
end
end Dq
set_option maxHeartbeats 4000000
/-! _law_take, _law_after, _law_led, _law_tried. -/
namespace Dq
open PySem PySem.Spec PyProof.Rows L2
/-- the law's pool stands at p -/
def Pool (S : Own) (p : Addr) : Prop := ∃ c e : Int, 0 ≤ c ∧ 0 ≤ e ∧ e < 2147483648 ∧ S p = some (p, .lst [.int c, .int e])
theorem Pool.mono {S S' : Own} {p : Addr} {xs : List Addr} (h : Pool S p) (f : Fr xs S S') (n : p ∉ xs) : Pool S' p := let ⟨c, e, h1, h2, h3, h4⟩ := h; ⟨c, e, h1, h2, h3, f _ _ _ n h4⟩
/-- only what stands at p changes -/
def Ch (p : Addr) (S S' : Own) : Prop := ∀ a, a ≠ p → S' a = S a
theorem Ch.fr {p : Addr} {S S' : Own} (c : Ch p S S') (h : Pool S p) : Fr [p] S S' := fun a w o n e => by
  obtain ⟨_, _, _, _, _, q⟩ := h
  have ne : a ≠ p := fun z => by
    rw [z, q] at e
    cases e
    exact n (by simp)
  rw [c a ne]
  exact e
section
variable {P : Program} {w : World} {K : PySem.W.Frag} {mg : Str → Option Value} {base : Heap} {f CF CN CS CK : Addr}
def spTake0 : Sp := fun vs H Q _ => ∃ (p : Addr) (n : Nat) (c e : Int), vs = [.ref p, .int n] ∧ 1 ≤ n ∧ n ≤ 100 ∧ H p = some (.lst [.int c, .int e]) ∧ 0 ≤ c ∧ 0 ≤ e ∧ e < 2147483648 ∧
  ∀ (c' e' : Int) (r : Nat), 0 ≤ c' → 0 ≤ e' → e' < 2147483648 → r < n → Q (.int r) (upd H p (.lst [.int c', .int e']))
def spTake : Sp := fun vs H Q _ => ∃ (p : Addr) (n : Nat) (T : List (Addr × Str)) (G : Hp) (S : Own), vs = [.ref p, .int n] ∧ 1 ≤ n ∧ n ≤ 100 ∧ Wd T G S H ∧ Pool S p ∧
  ∀ S' H' (r : Nat), Wd T G S' H' → Ch p S S' → Pool S' p → r < n → Q (.int r) H'
theorem scTake : FnScope ["_law_pool_here", "_law_sides", "_law_found"] ["_law_pool_here", "_law_sides"] (defScope sTake) := ⟨rfl, rfl, rfl, by decide +kernel, rfl, by decide +kernel, by decide +kernel⟩
theorem f_take0 (F : IsFn K "_law_take" "_law_take" sTake f) : FnR P w K mg base CX0 1 f spTake0 := by
  refine fn0 (k := 0) F scTake (fun _ _ _ _ _ _ us hl => match us, hl with | [_, _], _ => rfl) (fun _ _ _ _ ⟨_, _, _, _, h, _⟩ => by rw [h]; rfl) fun cdv A outer s0 H vs Q E hr h => ?_
  obtain ⟨p, n, c, e, rfl, hn1, hn2, hp, hc, he1, he2, h⟩ := h
  refine ⟨_, pss_cons (ps_if (pt_cmpR op_gt (pe_ix ix_list (pv 0) pe_int (fun _ _ => rfl)) pe_int (nomark _))
      (pss_cons (ps_set (i := 2) scTake.nd rfl (Or.inl rfl) (pe_op op_mod (pe_ix ix_list (pv 0) pe_int (fun _ _ => rfl)) (pv 1)))
      (pss_cons (ps_asg (pe_op op_fdiv (pe_ix ix_list (pv 0) pe_int (fun _ _ => rfl)) (pv 1)) (pg_sub (pv 0) pe_int set_list))
      (pss_one (ps_ret (pv 2))))) pss_nil)
    (pss_cons (ps_asg (pe_op op_mod (pe_op op_add (pe_op op_mul (pe_ix ix_list (pv 0) pe_int (fun _ _ => rfl)) pe_int) pe_int) pe_int) (pg_sub (pv 0) pe_int set_list))
    (pss_one (ps_ret (pe_op op_mod (pe_op op_fdiv (pe_op op_mod (pe_op op_mul (pe_ix ix_list (pv 0) pe_int (fun _ _ => rfl)) (pe_ix ix_list (pv 0) pe_int (fun _ _ => rfl))) pe_int) pe_int) (pv 1))))), ?_⟩
  have hn : (0 : Int) < n := by omega
  have md : ∀ i : Int, ∃ r : Nat, i % n = r ∧ r < n := fun i => by
    have h1 := Int.emod_nonneg i (show (n : Int) ≠ 0 by omega)
    have h2 := Int.emod_lt_of_pos i hn
    obtain ⟨r, hr⟩ := Int.eq_ofNat_of_zero_le h1
    exact ⟨r, hr, by omega⟩
  refine ⟨_, rfl, p, _, _, _, rfl, rfl, SqL.of hp, rfl, _, _, rfl, rfl, _, rfl, ite2 (fun hz => ?_) (fun hz => ?_)⟩
  · refine ⟨_, rfl, p, _, _, _, rfl, rfl, SqL.of hp, rfl, _, rfl, _, _, rfl, rfl, hn, ?_⟩
    refine ⟨_, rfl, p, _, _, _, rfl, rfl, SqL.of hp, rfl, _, rfl, _, _, rfl, rfl, ⟨hn, by omega⟩, ?_⟩
    refine ⟨_, rfl, p, _, _, 0, rfl, rfl, hp, show ixN 2 0 = some 0 by decide, _, rfl, ?_⟩
    obtain ⟨r, hr1, hr2⟩ := md c
    show Q (.int (c % n)) (upd H p (.lst [.int (c / n), .int e]))
    rw [hr1]
    exact h _ _ r (Int.ediv_nonneg hc (by omega)) he1 he2 hr2
  · refine ⟨_, rfl, p, _, _, _, rfl, rfl, SqL.of hp, rfl, _, _, rfl, rfl, .inl ⟨by omega, by omega⟩, _, _, rfl, rfl, _, _, rfl, rfl, by show (0 : Int) < 2147483647; decide, ?_⟩
    refine ⟨_, rfl, p, _, _, 1, rfl, rfl, hp, show ixN 2 1 = some 1 by decide, ?_⟩
    have b1 := Int.emod_nonneg (e * 48271 + 11) (show (2147483647 : Int) ≠ 0 by decide)
    have b2 := Int.emod_lt_of_pos (e * 48271 + 11) (show (0 : Int) < 2147483647 by decide)
    refine ⟨_, rfl, p, _, _, _, rfl, rfl, SqL.of upd_same, rfl, _, rfl, p, _, _, _, rfl, rfl, SqL.of upd_same, rfl, _, _, rfl, rfl, .inl ⟨by omega, by omega⟩, _, _, rfl, rfl, by show (0 : Int) < 2147483629; decide, _, _, rfl, rfl, ⟨by decide, by decide⟩, _, rfl, _, _, rfl, rfl, hn, ?_⟩
    obtain ⟨r, hr1, hr2⟩ := md ((e * 48271 + 11) % 2147483647 * ((e * 48271 + 11) % 2147483647) % 2147483629 / 64)
    show Q (.int (((e * 48271 + 11) % 2147483647 * ((e * 48271 + 11) % 2147483647) % 2147483629 / 64) % n)) (upd H p (.lst [.int c, .int ((e * 48271 + 11) % 2147483647)]))
    rw [hr1]
    exact h _ _ r hc b1 (by omega) hr2
theorem f_take (F : IsFn K "_law_take" "_law_take" sTake f) : FnR P w K mg base CX0 1 f spTake := FnR.mono (f_take0 F) fun vs H Q E h => by
  obtain ⟨p, n, T, G, S, rfl, hn1, hn2, W, ⟨c, e, h1, h2, h3, h4⟩, h⟩ := h
  exact ⟨p, n, c, e, rfl, hn1, hn2, (W.s _ _ _ h4).1, h1, h2, h3, fun c' e' r a1 a2 a3 a4 => h _ _ r (W.wr h4 True.intro) (fun _ n => updS_ne n) ⟨c', e', a1, a2, a3, updS_same⟩ a4⟩
def spLAfter : Sp := fun vs H Q _ => ∃ (a b : Addr) (r : List Int) (st : Stp), vs = [.ref a, .ref b] ∧ IsRow H a r ∧ IsStp H b st ∧ Sm r ∧ r.length ≤ 1000 ∧ RowOut H Q (stepped r st)
theorem scLAfter : FnScope ["_law_here", "_law_step_here", "_law_deed", "_law_where", "_law_thing"] ["_law_here", "_law_step_here"] (defScope sLAfter) := ⟨rfl, rfl, rfl, by decide +kernel, rfl, by decide +kernel, by decide +kernel⟩
theorem right_dec (b : Bool) : decide (V.str (txtL b) = V.str "right") = !b := by cases b <;> decide +kernel
theorem f_lafter (N : Nm mg) (F : IsFn K "_law_after" "_law_after" sLAfter f) : FnR P w K mg base CX0 1 f spLAfter := by
  refine fn0 (k := 0) F scLAfter (fun _ _ _ _ _ _ us hl => match us, hl with | [_, _], _ => rfl) (fun _ _ _ _ ⟨_, _, _, _, h, _⟩ => by rw [h]; rfl) fun cdv A outer s H vs Q E hr h => ?_
  obtain ⟨a, b, r, st, rfl, h1, h2, h3, h4, h⟩ := h
  refine ⟨_, pss_cons (ps_asg (pv 1) (pg_tup rfl (pgs_cons (pg_name (i := 2) scLAfter.nd rfl (.inl rfl)) (pgs_cons (pg_name (i := 3) scLAfter.nd rfl (.inl rfl)) (pgs_cons (pg_name (i := 4) scLAfter.nd rfl (.inl rfl)) pgs_nil)))))
    (pss_cons (ps_if (pt_cmpR op_eq (pv 2) pe_str (nomark _)) (pss_one (ps_ret (pe_ifExp (pt_cmpR op_eq (pv 3) pe_str (nomark _)) (pe_op op_cat (pe_lst (pa_cons (pv 4) pa_nil)) (pv 0)) (pe_op op_cat (pv 0) (pe_lst (pa_cons (pv 4) pa_nil)))))) pss_nil)
    (pss_cons (ps_if (PW.pt (pw_or (pt_cmpR (op_eqD hr.units) (pv 0) (pe_lst pa_nil) (nomark _)) (pw_or1 (pt_cmpR op_ne (pe_ix ix_list (pv 0) (pe_ix ix_list (pe_lst (pa_cons pe_int (pa_cons (pe_un un_neg pe_int) pa_nil))) (pe_callTy call_int1 (by rfl) N.int (by decide +kernel) (pa_cons (pe_cmpR op_eq (pv 3) pe_str (nomark _)) pa_nil)) (fun _ _ => rfl)) (fun _ _ => rfl)) (pv 4) (nomark _))))) (pss_one (ps_ret pe_non)) pss_nil)
    (pss_one (ps_ret (pe_ifExp (pt_cmpR op_eq (pv 3) pe_str (nomark _)) (pe_slice sl_list (pv 0) (po_some pe_int) po_none) (pe_slice sl_list (pv 0) po_none (po_some (pe_un un_neg pe_int)))))))), ?_⟩
  refine ⟨_, rfl, b, _, rfl, SqT.of h2, rfl, _, _, rfl, _, _, rfl, _, _, rfl, rfl, ?_⟩
  refine ⟨_, rfl, rfl, _, rfl, ?_⟩
  rw [put_dec]
  obtain ⟨pb, lb, it⟩ := st
  cases pb with
  | true =>
    refine ifT rfl ⟨_, rfl, rfl, _, rfl, ?_⟩
    rw [left_dec]
    cases lb with
    | true =>
      refine ifT rfl ⟨_, rfl, by show 1 ≤ sizeLine; decide, fun p hp => ⟨_, rfl, p, a, _, _, rfl, rfl, upd_same, same_upd hp _ _ h1, ?_, fun q hq => ?_⟩⟩
      · have := thou h4
        rw [List.length_map]
        show 1 + r.length ≤ sizeLine
        omega
      · exact (h.sub (same_upd hp)).new hq rfl
    | false =>
      refine ifF rfl ⟨_, rfl, _, rfl, by show 1 ≤ sizeLine; decide, fun p hp => ⟨a, p, _, _, rfl, rfl, same_upd hp _ _ h1, upd_same, ?_, fun q hq => ?_⟩⟩
      · have := thou h4
        rw [List.length_map]
        show r.length + 1 ≤ sizeLine
        omega
      · exact (h.sub (same_upd hp)).new hq (by simp)
  | false =>
    refine ifF rfl ⟨_, rfl, by show 0 ≤ sizeLine; decide, fun p hp => ⟨dRow r, dRow [], dp_row (same_upd hp _ _ h1), dp_row upd_same, (fine_row h3).shaped (by omega), (fine_row (fun i z => by cases z)).shaped (by omega), _, rfl, ?_⟩⟩
    rw [eqv_row h3 (fun i z => by cases z)]
    have h' := h.sub (same_upd (o := .lst []) hp)
    have h1' : IsRow (upd H p (.lst [])) a r := same_upd hp _ _ h1
    by_cases hz : r = []
    · subst hz
      refine ifT rfl ?_
      cases lb <;> exact h' _ (Same.refl _)
    · refine ifF (decide_eq_false hz) ⟨_, rfl, _, rfl, by show 2 ≤ sizeLine; decide, fun q hq => ⟨_, rfl, rfl, .inr ⟨_, rfl, ?_⟩⟩⟩
      rw [right_dec]
      have e2 := same_upd (o := .lst [.int 0, .int (-1)]) hq
      have h1'' : IsRow _ a r := e2 _ _ h1'
      have h'' := h'.sub e2
      cases lb with
      | true =>
        cases r with
        | nil => exact absurd rfl hz
        | cons x r =>
          refine ⟨q, _, _, .int 0, rfl, rfl, SqL.of upd_same, by rfl, a, _, _, _, rfl, rfl, SqL.of h1'', at_first, _, rfl, rfl, _, rfl, ?_⟩
          by_cases hx : x = it
          · subst hx
            refine ifF (by simp) ⟨_, rfl, rfl, _, rfl, ?_⟩
            rw [left_dec]
            refine ifT rfl ⟨_, rfl, _, rfl, a, _, rfl, SqL.of h1'', fun q hq => ?_⟩
            refine RowOut.new (r := r) ?_ hq ?_
            · have e : stepped (x :: r) ⟨false, true, x⟩ = some r := by simp [stepped]
              rw [e] at h''
              exact h''
            · exact cut_tail (x :: r)
          · refine ifT (by simp [hx]) ?_
            have e : stepped (x :: r) ⟨false, true, it⟩ = none := by simp [stepped, hx]
            rw [e] at h''
            exact h'' _ (Same.refl _)
      | false =>
        refine ⟨q, _, _, .int (-1), rfl, rfl, SqL.of upd_same, by rfl, a, _, _, _, rfl, rfl, SqL.of h1'', at_last hz, _, rfl, rfl, _, rfl, ?_⟩
        have el : r.getLast? = some (r.getLast hz) := List.getLast?_eq_getLast hz
        by_cases hx : r.getLast hz = it
        · refine ifF (by simp [hx]) ⟨_, rfl, rfl, _, rfl, ?_⟩
          rw [left_dec]
          refine ifF rfl ⟨_, rfl, 1, rfl, _, rfl, a, _, rfl, SqL.of h1'', fun q hq => ?_⟩
          refine RowOut.new (r := r.dropLast) ?_ hq ?_
          · have e : stepped r ⟨false, false, it⟩ = some r.dropLast := by simp [stepped, el, hx]
            rw [e] at h''
            exact h''
          · exact cut_init r
        · refine ifT (by simp [hx]) ?_
          have e : stepped r ⟨false, false, it⟩ = none := by simp [stepped, el, hx]
          rw [e] at h''
          exact h'' _ (Same.refl _)
end
end Dq
set_option maxHeartbeats 4000000
/-! _law_led, _law_tried. -/
namespace Dq
open PySem PySem.Spec PyProof.Rows L2
theorem stepped_sm {r r' : List Int} {st : Stp} (h1 : stepped r st = some r') (hr : Sm r) (hs : SmS st) : Sm r' := by
  unfold stepped at h1
  intro i hi
  split at h1
  · cases h1
    split at hi
    · rcases List.mem_cons.mp hi with e | e
      · rw [e]; exact hs
      · exact hr i e
    · rcases List.mem_append.mp hi with e | e
      · exact hr i e
      · rw [List.mem_singleton.mp e]; exact hs
  · split at h1
    · split at h1
      · cases h1
        exact hr i (List.mem_of_mem_tail hi)
      · cases h1
    · split at h1
      · cases h1
        exact hr i (List.dropLast_subset r hi)
      · cases h1
def LedOut (H : Hp) (Q : VK) : Option (List Int) → Prop
  | none => ∀ H', Same H H' → Q .non H'
  | some r' => ∀ H' p, Same H H' → IsRow H' p r' → Q (.ref p) H'
def IsDue (G : Hp) (p : Addr) : Except Nat (List Int) → Prop
  | .error i => G p = some (.lst [.str "fails", .int i])
  | .ok r => ∃ a, G p = some (.lst [.str "told", .ref a]) ∧ IsRow G a r
theorem IsDue.mono {G G' : Hp} {p : Addr} {o} (h : IsDue G p o) (e : Same G G') : IsDue G' p o := by
  cases o with
  | error i => exact e _ _ h
  | ok r => exact let ⟨a, h1, h2⟩ := h; ⟨a, e _ _ h1, h2.mono e⟩
theorem led_cons {r : List Int} {s : Stp} {t : List Stp} : led r (s :: t) = (match stepped r s with | none => none | some r' => led r' t) := rfl
theorem led_nil {r : List Int} : led r [] = some r := rfl
theorem tried_cons {k : Bool} {i : Nat} {r : List Int} {s : Stp} {t : List Stp} : tried k i r (s :: t) = (match stepped r s with | none => .error i | some r' => if (k && decide (r' = [])) = true then .error i else tried k (i + 1) r' t) := rfl
theorem tried_nil {k : Bool} {i : Nat} {r : List Int} : tried k i r [] = .ok r := rfl
section
variable {P : Program} {w : World} {K : PySem.W.Frag} {mg : Str → Option Value} {base : Heap} {f CF CN CS CK : Addr}
def spLed : Sp := fun vs H Q _ => ∃ (a l : Addr) (r : List Int) (ss : List Stp), vs = [.ref a, .ref l] ∧ IsRow H a r ∧ IsStps H l ss ∧ Sm r ∧ (∀ s ∈ ss, SmS s) ∧ r.length + ss.length ≤ 900 ∧ LedOut H Q (led r ss)
theorem scLed : FnScope ["_law_here", "_law_some", "_law_step_here"] ["_law_here", "_law_some"] (defScope sLed) := ⟨rfl, rfl, rfl, by decide +kernel, rfl, by decide +kernel, by decide +kernel⟩
theorem f_led (cA : Glo P w K mg base CX0 1 "_law_after" spLAfter) (F : IsFn K "_law_led" "_law_led" sLed f) : FnR P w K mg base CX0 2 f spLed := by
  refine fn0 (k := 1) F scLed (fun _ _ _ _ _ _ us hl => match us, hl with | [_, _], _ => rfl) (fun _ _ _ _ ⟨_, _, _, _, h, _⟩ => by rw [h]; rfl) fun cdv A outer s0 H vs Q E hr h => ?_
  obtain ⟨a, l, r, ss, rfl, ha, ⟨rs, hl1, hl2⟩, hsm, hss, hlen, h⟩ := h
  refine ⟨_, pss_cons (ps_for PassesOwn.never rfl (pi_list (pv 1)) (pg_name (i := 2) scLed.nd rfl (Or.inl rfl))
      (pss_cons (ps_set (i := 0) scLed.nd rfl (Or.inl rfl) (pe_g cA hr pass0 (pa_cons (pv 0) (pa_cons (pv 2) pa_nil))))
      (pss_one (ps_if (pt_cmpR op_isN (pv 0) pe_non (nomark _)) (pss_one (ps_ret pe_non)) pss_nil))))
    (pss_one (ps_ret (pv 0))), ?_⟩
  refine ⟨_, rfl, l, rfl, ⟨_, SqL.of hl1⟩, for_list (xs := rs.map V.ref) (fun i σ H' => ∃ cur ri o, σ = [some (.ref cur), some (.ref l), o] ∧ Same H H' ∧ IsRow H' cur ri ∧ Sm ri ∧ ri.length ≤ r.length + i ∧ led ri (ss.drop i) = led r ss)
    ⟨a, r, _, rfl, Same.refl _, ha, hsm, Nat.le_refl _, rfl⟩ (fun i σ H' _ ⟨_, _, _, _, e, _⟩ => SqL.of (e _ _ hl1)) (fun i z σ H' hx h' => ?_) (fun σ H' h' => ?_)⟩
  · obtain ⟨cur, ri, o, rfl, e, hc, hsr, hlr, hled⟩ := h'
    rw [List.getElem?_map] at hx
    obtain ⟨q, hq1, rfl⟩ := Option.map_eq_some_iff.mp hx
    obtain ⟨st, hs1, hs2⟩ := paired_get hl2 hq1
    have hlt : i < ss.length := (List.getElem?_eq_some_iff.mp hs1).1
    have hdrop : ss.drop i = st :: ss.drop (i + 1) := by
      rw [← (List.getElem?_eq_some_iff.mp hs1).2]
      exact List.drop_eq_getElem_cons hlt
    rw [hdrop, led_cons] at hled
    refine ⟨_, rfl, _, rfl, cur, q, ri, st, rfl, hc, hs2.mono e, hsr, by omega, ?_⟩
    cases ho : stepped ri st with
    | none =>
      rw [ho] at hled
      rw [← hled] at h
      exact fun H2 e2 => ⟨_, rfl, rfl, true, rfl, ifT rfl (h _ (e.trans e2))⟩
    | some r' =>
      rw [ho] at hled
      exact fun H2 p e2 hp hrow => ⟨_, rfl, rfl, false, rfl, ifF rfl ⟨p, r', _, rfl, e.trans e2, hrow, stepped_sm ho hsr (hss _ (List.mem_of_getElem? hs1)), by have := stepped_len ho; omega, hled⟩⟩
  · obtain ⟨cur, ri, o, rfl, e, hc, hsr, hlr, hled⟩ := h'
    have hl4 : (rs.map V.ref).length = ss.length := by rw [List.length_map]; exact hl2.length
    rw [hl4, List.drop_length, led_nil] at hled
    rw [← hled] at h
    exact ⟨_, rfl, h _ _ e hc⟩
def spTried : Sp := fun vs H Q _ => ∃ (a l : Addr) (k : Bool) (r : List Int) (ss : List Stp) (T : List (Addr × Str)) (G : Hp) (S : Own), vs = [.ref a, .ref l, .bl k] ∧ Wd T G S H ∧ IsRow G a r ∧ IsStps G l ss ∧ Sm r ∧ (∀ s ∈ ss, SmS s) ∧ r.length + ss.length ≤ 900 ∧
  ∀ G' H' p, Wd T G' S H' → Same G G' → IsDue G' p (tried k 0 r ss) → Q (.ref p) H'
theorem scTried : FnScope ["_law_here", "_law_some", "_law_is_kept", "_law_at"] ["_law_here", "_law_some", "_law_is_kept"] (defScope sTried) := ⟨rfl, rfl, rfl, by decide +kernel, rfl, by decide +kernel, by decide +kernel⟩
theorem f_tried (N : Nm mg) (cA : Glo P w K mg base CX0 1 "_law_after" spLAfter) (F : IsFn K "_law_tried" "_law_tried" sTried f) : FnR P w K mg base CX0 2 f spTried := by
  refine fn0 (k := 1) F scTried (fun _ _ _ _ _ _ us hl => match us, hl with | [_, _, _], _ => rfl) (fun _ _ _ _ ⟨_, _, _, _, _, _, _, _, h, _⟩ => by rw [h]; rfl) fun cdv A outer s0 H vs Q E hr h => ?_
  obtain ⟨a, l, k, r, ss, T, G, S, rfl, W, ha, ⟨rs, hl1, hl2⟩, hsm, hss, hlen, h⟩ := h
  have hl3 : rs.length = ss.length := hl2.length
  refine ⟨_, pss_cons (ps_for PassesOwn.never rfl (pi_range1 (by rfl) N.range (pa_cons (pe_callB call_len_seq (by rfl) N.len (by decide +kernel) (pa_cons (pv 1) pa_nil)) pa_nil)) (pg_name (i := 3) scTried.nd rfl (Or.inl rfl))
      (pss_cons (ps_set (i := 0) scTried.nd rfl (Or.inl rfl) (pe_g cA hr pass0 (pa_cons (pv 0) (pa_cons (pe_ix ix_list (pv 1) (pv 3) (fun _ _ => rfl)) pa_nil))))
      (pss_one (ps_if (PW.pt (pw_or (pt_cmpR op_isN (pv 0) pe_non (nomark _)) (pw_or1 (PW.pt (pw_and (pt_val (pv 2)) (pw_and1 (pt_cmpR (op_eqD hr.units) (pv 0) (pe_lst pa_nil) (nomark _))))))))
        (pss_one (ps_ret (pe_lst (pa_cons pe_str (pa_cons (pv 3) pa_nil))))) pss_nil))))
    (pss_one (ps_ret (pe_lst (pa_cons pe_str (pa_cons (pv 0) pa_nil))))), ?_⟩
  refine ⟨_, rfl, l, _, rfl, .inl (SqL.of (W.same _ _ hl1)), _, rfl, by rw [List.length_map]; omega, by rw [List.length_map]; omega, ?_⟩
  refine for_range (lo := 0) (fun i σ H' => ∃ G' cur ri o, σ = [some (.ref cur), some (.ref l), some (.bl k), o] ∧ Wd T G' S H' ∧ Same G G' ∧ IsRow G' cur ri ∧ Sm ri ∧ ri.length ≤ r.length + i ∧ tried k i ri (ss.drop i) = tried k 0 r ss)
    ⟨G, a, r, _, rfl, W, Same.refl _, ha, hsm, Nat.le_refl _, rfl⟩ (fun i σ H' hi h' => ?_) (fun σ H' h' => ?_)
  · obtain ⟨G', cur, ri, o, rfl, W', eG, hc, hsr, hlr, ht⟩ := h'
    rw [List.length_map, Int.toNat_natCast, hl3] at hi
    have hq1 : rs[i]? = some (rs[i]'(by omega)) := List.getElem?_eq_getElem _
    obtain ⟨st, hs1, hs2⟩ := paired_get hl2 hq1
    have hdrop : ss.drop i = st :: ss.drop (i + 1) := by
      rw [← (List.getElem?_eq_some_iff.mp hs1).2]
      exact List.drop_eq_getElem_cons hi
    rw [hdrop, tried_cons] at ht
    have fin : ∀ G2 H2, Wd T G2 S H2 → Same G G2 → tried k 0 r ss = .error i → ∀ p, H2 p = none → Q (.ref p) (upd H2 p (.lst [.str "fails", .int (0 + (i : Nat))])) := fun G2 H2 W2 e2 et p hp => by
      rw [et] at h
      obtain ⟨W3, e3⟩ := W2.new (o := .lst [.str "fails", .int (0 + (i : Nat))]) hp True.intro
      refine h _ _ p W3 (e2.trans e3) ?_
      show upd G2 p (.lst [.str "fails", .int (0 + (i : Nat))]) p = _
      rw [upd_same, Int.zero_add]
    refine ⟨_, rfl, _, rfl, _, rfl, l, _, _, _, rfl, rfl, SqL.of (W'.same _ _ (eG _ _ hl1)), by rw [Int.zero_add]; exact atI_nat (by rw [List.getElem?_map, hq1]; rfl), ?_⟩
    refine ⟨cur, _, ri, st, rfl, hc.mono W'.same, (hs2.mono eG).mono W'.same, hsr, by omega, ?_⟩
    cases ho : stepped ri st with
    | none =>
      rw [ho] at ht
      refine fun H2 e2 => ⟨_, rfl, rfl, true, rfl, ifT rfl ⟨_, rfl, by show 2 ≤ sizeLine; decide, fin G' H2 (W'.grow e2) eG ht.symm⟩⟩
    | some r' =>
      rw [ho] at ht
      dsimp only at ht
      intro H2 p e2 hp hrow
      obtain ⟨W2, e3⟩ := W'.got e2 hp hrow True.intro
      have hsr' := stepped_sm ho hsr (hss _ (List.mem_of_getElem? hs1))
      have hrow2 : IsRow (upd G' p (.lst (r'.map V.int))) p r' := upd_same
      refine ⟨_, rfl, rfl, false, rfl, ifF rfl ⟨_, rfl, k, rfl, ?_⟩⟩
      cases k with
      | false => exact ifF rfl (ifF rfl ⟨_, p, r', _, rfl, W2, eG.trans e3, hrow2, hsr', by have := stepped_len ho; omega, by simpa using ht⟩)
      | true =>
        refine ifT rfl ⟨_, rfl, by show 0 ≤ sizeLine; decide, fun q hq => ⟨dRow r', dRow [], dp_row ((hrow2.mono W2.same).mono (same_upd hq)), dp_row upd_same, (fine_row hsr').shaped (by omega), (fine_row (fun i z => by cases z)).shaped (by omega), _, rfl, ?_⟩⟩
        rw [eqv_row hsr' (fun i z => by cases z)]
        obtain ⟨W3, e4⟩ := W2.new (o := .lst []) hq True.intro
        by_cases hz : r' = []
        · refine ifT (decide_eq_true hz) ⟨_, rfl, by show 2 ≤ sizeLine; decide, fin _ _ W3 ((eG.trans e3).trans e4) ?_⟩
          rw [if_pos (by simp [hz])] at ht
          exact ht.symm
        · refine ifF (decide_eq_false hz) ⟨_, p, r', _, rfl, W3, (eG.trans e3).trans e4, hrow2.mono e4, hsr', by have := stepped_len ho; omega, ?_⟩
          rw [if_neg (by simp [hz])] at ht
          exact ht
  · obtain ⟨G', cur, ri, o, rfl, W', eG, hc, hsr, hlr, ht⟩ := h'
    rw [List.length_map, Int.toNat_natCast, hl3, List.drop_length, tried_nil] at ht
    rw [← ht] at h
    refine ⟨_, rfl, by show 2 ≤ sizeLine; decide, fun p hp => ?_⟩
    obtain ⟨W3, e3⟩ := W'.new (o := .lst [.str "told", .ref cur]) hp True.intro
    exact h _ _ p W3 (eG.trans e3) ⟨cur, upd_same, hc.mono e3⟩
end
end Dq
set_option maxHeartbeats 4000000
/-! _law_guided. -/
namespace Dq
open PySem PySem.Spec PyProof.Rows L2
section
variable {P : Program} {w : World} {K : PySem.W.Frag} {mg : Str → Option Value} {base : Heap} {f CF CN CS CK : Addr}
def spGuided : Sp := fun vs H Q _ => ∃ (p a : Addr) (r : List Int) (T : List (Addr × Str)) (G : Hp) (S : Own), vs = [.ref p, .ref a, .int 3, .int 2] ∧ Wd T G S H ∧ Pool S p ∧ IsRow G a r ∧ Sm r ∧ r.length ≤ 500 ∧
  ∀ G' S' H' l ss, Wd T G' S' H' → Same G G' → Fr [p] S S' → Pool S' p → IsStps G' l ss → (∀ s ∈ ss, SmS s) → ss.length ≤ 3 → Q (.ref l) H'
abbrev nGuided : List Str := ["_law_pool_here", "_law_here", "_law_top", "_law_kinds", "_law_found", "_law_turn", "_law_deed", "_law_where", "_law_thing", "_law_step_here", "_law_later"]
theorem scGuided : FnScope nGuided ["_law_pool_here", "_law_here", "_law_top", "_law_kinds"] (defScope sGuided) := ⟨rfl, rfl, rfl, by decide +kernel, rfl, by decide +kernel, by decide +kernel⟩
def forBody (ss : List Stmt) (i : Nat) : List Stmt := match ss[i]? with
  | some (.For _ _ b _ _) => b
  | _ => []
theorem take_dec (b : Bool) : decide (V.str (txtP b) = V.str "take") = !b := by cases b <;> decide +kernel
/-- between the turns -/
def GI (p l : Addr) (T : List (Addr × Str)) (G : Hp) (S : Own) (m n : Nat) : L2.St → Hp → Prop := fun σ H => ∃ (G' : Hp) (S' : Own) (cur : Addr) (ri : List Int) (refs : List Addr) (ss : List Stp) (o5 o6 o7 o8 o9 o10 : Option V),
  σ = [some (.ref p), some (.ref cur), some (.int 3), some (.int 2), some (.ref l), o5, o6, o7, o8, o9, o10] ∧ Wd T G' S' H ∧ Same G G' ∧ Fr [p] S S' ∧ Pool S' p ∧ p ≠ l ∧ S' l = some (p, .lst (refs.map V.ref)) ∧ Paired (IsStp G') refs ss ∧ (∀ s ∈ ss, SmS s) ∧ ss.length ≤ n ∧
  IsRow G' cur ri ∧ Sm ri ∧ ri.length ≤ m + n
theorem guided_tail {cdv : Value} {A : Around} {outer : List Env} {s0 : Shared} {H0 : Hp} {E : XK} (N : Nm mg) (cA : Glo P w K mg base CX0 1 "_law_after" spLAfter) (hr : Room 1 (A.deeper (envOfC "_law_guided" (defScope sGuided) s0.heap.objs.size f cdv))) :
    ∃ t, PSs (cxOf CX0 P w K mg base nGuided "_law_guided" (defScope sGuided) f cdv A outer s0 H0 E).nox ((forBody (defBody sGuided) 1).drop 3) t ∧
      ∀ (D : Ends) (p l cur : Addr) (T : List (Addr × Str)) (G G' : Hp) (S S' : Own) (m n : Nat) (ri : List Int) (refs : List Addr) (ss : List Stp) (st : Stp) (o5 o9 o10 : Option V) (H : Hp), Wd T G' S' H → Same G G' → Fr [p] S S' → Pool S' p → p ≠ l → S' l = some (p, .lst (refs.map V.ref)) → Paired (IsStp G') refs ss → (∀ s ∈ ss, SmS s) → ss.length ≤ n →
        IsRow G' cur ri → Sm ri → ri.length ≤ m + n → m + n ≤ 900 → SmS st → (∀ σ' H', GI p l T G S m (n + 1) σ' H' → D.nx σ' H') →
        t D [some (.ref p), some (.ref cur), some (.int 3), some (.int 2), some (.ref l), o5, some (.str (txtP st.put)), some (.str (txtL st.left)), some (.int st.item), o9, o10] H := by
  refine ⟨_, pss_cons (ps_set (i := 9) scGuided.nd rfl (Or.inl rfl) (pe_tup (pa_cons (pv 6) (pa_cons (pv 7) (pa_cons (pv 8) pa_nil)))))
    (pss_one (ps_if (PW.pt (pw_or (pt_cmpR op_eq (pv 6) pe_str (nomark _)) (pw_or1 (pt_cmpR (op_neD hr.units) (pv 1) (pe_lst pa_nil) (nomark _)))))
      (pss_cons (ps_expr (pe_bm PySem.F.plainAttrs_list PySem.F.slot_list_append PySem.F.type_list_append mt_append (pv 4) (pa_cons (pv 9) pa_nil)))
      (pss_cons (ps_set (i := 10) scGuided.nd rfl (Or.inl rfl) (pe_g cA hr pass0 (pa_cons (pv 1) (pa_cons (pv 9) pa_nil))))
      (pss_one (ps_set (i := 1) scGuided.nd rfl (Or.inl rfl) (pe_ifExp (pt_cmpR op_isN (pv 10) pe_non (nomark _)) (pv 1) (pv 10)))))) pss_nil)), ?_⟩
  intro D p l cur T G G' S S' m n ri refs ss st o5 o9 o10 H W eG fr hP npl hl hps hss hn hc hsr hlr hmn hst hD
  refine ⟨_, rfl, _, rfl, _, rfl, by show 3 ≤ sizeLine; decide, fun tp htp => ?_⟩
  obtain ⟨W1, e1⟩ := W.new (o := .tup (stpV st)) htp True.intro
  have skip : ∀ G2 H2, Wd T G2 S' H2 → Same G' G2 → GI p l T G S m (n + 1) [some (.ref p), some (.ref cur), some (.int 3), some (.int 2), some (.ref l), o5, some (.str (txtP st.put)), some (.str (txtL st.left)), some (.int st.item), some (.ref tp), o10] H2 := fun G2 H2 W2 e2 =>
    ⟨G2, S', cur, ri, refs, ss, _, _, _, _, _, _, rfl, W2, eG.trans e2, fr, hP, npl, hl, stps_mono hps e2, hss, by omega, hc.mono e2, hsr, by omega⟩
  have take : ∀ G2 H2, Wd T G2 S' H2 → Same G' G2 → IsStp G2 tp st → tSeq (tDrop (tBM K "list" rAppend (tVar 4) (tCons (tVar 9) tNil))) (tSeq (tAsg (tCallR spLAfter E0 (tCons (tVar 1) (tCons (tVar 9) tNil))) (gName 10)) (tAsg (tIf (tTest (tOp (fun x y H Q => y = .non ∧ Q (.bl (decide (x = .non))) H) (tVar 10) (tC .non))) (tVar 1) (tVar 10)) (gName 1))) D
      [some (.ref p), some (.ref cur), some (.int 3), some (.int 2), some (.ref l), o5, some (.str (txtP st.put)), some (.str (txtL st.left)), some (.int st.item), some (.ref tp), o10] H2 := fun G2 H2 W2 e2 hts => by
    refine ⟨_, rfl, .inl ⟨rfl, _, SqL.of (W2.s _ _ _ hl).1⟩, _, rfl, l, _, _, rfl, rfl, (W2.s _ _ _ hl).1, ?_, ?_⟩
    · rw [List.length_map, hps.length]
      exact thou (by omega)
    have W3 := W2.wr (o' := .lst (refs.map V.ref ++ [.ref tp])) hl True.intro
    have hP3 : Pool (updS S' l p (.lst (refs.map V.ref ++ [.ref tp]))) p := by
      obtain ⟨c, e, q1, q2, q3, q4⟩ := hP
      exact ⟨c, e, q1, q2, q3, by rw [updS_ne npl]; exact q4⟩
    have fr3 := fr.trans (Fr.upd (u := .lst (refs.map V.ref ++ [.ref tp])) hl (by simp))
    refine ⟨_, rfl, _, rfl, cur, tp, ri, st, rfl, (hc.mono e2).mono W3.same, hts.mono W3.same, hsr, by omega, ?_⟩
    have app : (refs ++ [tp]).map V.ref = refs.map V.ref ++ [.ref tp] := by simp
    have hss' : ∀ s ∈ ss ++ [st], SmS s := fun s hs => by
      rcases List.mem_append.mp hs with q | q
      · exact hss s q
      · rw [List.mem_singleton.mp q]
        exact hst
    cases ho : stepped ri st with
    | none =>
      refine fun H4 e4 => ⟨_, rfl, rfl, true, rfl, ifT rfl ⟨_, rfl, hD _ _ ⟨G2, _, cur, ri, refs ++ [tp], ss ++ [st], _, _, _, _, _, _, rfl, W3.grow e4, eG.trans e2, fr3, hP3, npl, by rw [app]; exact updS_same, paired_app hts (stps_mono hps e2), hss', by simp; omega, hc.mono e2, hsr, by omega⟩⟩⟩
    | some r' =>
      intro H4 q e4 hq hrow
      obtain ⟨W5, e5⟩ := W3.got e4 hq hrow True.intro
      refine ⟨_, rfl, rfl, false, rfl, ifF rfl ⟨_, rfl, hD _ _ ⟨_, _, q, r', refs ++ [tp], ss ++ [st], _, _, _, _, _, _, rfl, W5, (eG.trans e2).trans e5, fr3, hP3, npl, by rw [app]; exact updS_same, paired_app (hts.mono e5) (stps_mono hps (e2.trans e5)), hss', by simp; omega, upd_same, stepped_sm ho hsr hst, by have := stepped_len ho; omega⟩⟩⟩
  refine ⟨_, rfl, rfl, _, rfl, ?_⟩
  rw [put_dec]
  by_cases hp : st.put = true
  · exact ifT hp (take _ _ W1 e1 upd_same)
  · refine ifF (by simpa using hp) ⟨_, rfl, by show 0 ≤ sizeLine; decide, fun q hq => ⟨dRow ri, dRow [], dp_row ((((hc.mono e1)).mono W1.same).mono (same_upd hq)), dp_row upd_same, (fine_row hsr).shaped (by omega), (fine_row (fun i z => by cases z)).shaped (by omega), _, rfl, ?_⟩⟩
    rw [eqv_row hsr (fun i z => by cases z)]
    obtain ⟨W6, e6⟩ := W1.new (o := .lst []) hq True.intro
    by_cases hz : ri = []
    · exact ifF (by simp [hz]) (hD _ _ (skip _ _ W6 (e1.trans e6)))
    · exact ifT (by simp [hz]) (take _ _ W6 (e1.trans e6) (e6 _ _ upd_same))
theorem f_guided (N : Nm mg) (cA : Glo P w K mg base CX0 1 "_law_after" spLAfter) (cT : Glo P w K mg base CX0 1 "_law_take" spTake) (F : IsFn K "_law_guided" "_law_guided" sGuided f) : FnR P w K mg base CX0 2 f spGuided := by
  refine fn0 (k := 1) F scGuided (fun _ _ _ _ _ _ us hl => match us, hl with | [_, _, _, _], _ => rfl) (fun _ _ _ _ ⟨_, _, _, _, _, _, h, _⟩ => by rw [h]; rfl) fun cdv A outer s0 H vs Q E hr h => ?_
  obtain ⟨p, a, r, T, G, S, rfl, W, hP, ha, hsm, hlen, h⟩ := h
  obtain ⟨tt, ht, tail⟩ := guided_tail (f := f) (cdv := cdv) (A := A) (outer := outer) (s0 := s0) (H0 := H) (E := E) N cA hr
  refine ⟨_, pss_cons (ps_set (i := 4) scGuided.nd rfl (Or.inl rfl) (pe_lst pa_nil))
    (pss_cons (ps_for PassesOwn.never rfl (pi_range1 (by rfl) N.range (pa_cons (pe_g cT hr pass0 (pa_cons (pv 0) (pa_cons (pe_op op_add (pv 2) pe_int) pa_nil))) pa_nil)) (pg_name (i := 5) scGuided.nd rfl (Or.inl rfl))
      (pss_cons (ps_par (i := 6) (j := 7) rfl scGuided.nd rfl rfl (by decide) rfl rfl (pa_cons (pe_ix ix_list (pe_lst (pa_cons pe_str (pa_cons pe_str (pa_cons pe_str pa_nil)))) (pe_g cT hr pass0 (pa_cons (pv 0) (pa_cons pe_int pa_nil))) (fun _ _ => rfl))
          (pa_cons (pe_ix ix_list (pe_lst (pa_cons pe_str (pa_cons pe_str pa_nil))) (pe_g cT hr pass0 (pa_cons (pv 0) (pa_cons pe_int pa_nil))) (fun _ _ => rfl)) pa_nil)) (by rfl))
      (pss_cons (ps_set (i := 8) scGuided.nd rfl (Or.inl rfl) (pe_g cT hr pass0 (pa_cons (pv 0) (pa_cons (pv 3) pa_nil))))
      (pss_cons (ps_if (PW.pt (pw_and (pt_cmpR op_eq (pv 6) pe_str (nomark _)) (pw_and (pt_cmpR (op_neD hr.units) (pv 1) (pe_lst pa_nil) (nomark _)) (pw_and1 (pt_cmpR op_gt (pe_g cT hr pass0 (pa_cons (pv 0) (pa_cons pe_int pa_nil))) pe_int (nomark _))))))
        (pss_one (ps_set (i := 8) scGuided.nd rfl (Or.inl rfl) (pe_ix ix_list (pv 1) (pe_ix ix_list (pe_lst (pa_cons pe_int (pa_cons (pe_un un_neg pe_int) pa_nil))) (pe_callTy call_int1 (by rfl) N.int (by decide +kernel) (pa_cons (pe_cmpR op_eq (pv 7) pe_str (nomark _)) pa_nil)) (fun _ _ => rfl)) (fun _ _ => rfl)))) pss_nil)
      ht))))
    (pss_one (ps_ret (pv 4)))), ?_⟩
  refine ⟨by show 0 ≤ sizeLine; decide, fun l hl => ?_⟩
  have W1 := W.newS (o := .lst []) hl True.intro p
  have npl : p ≠ l := by
    obtain ⟨c, e, _, _, _, q⟩ := hP
    exact ne_of_none (W.s _ _ _ q).1 hl
  have hP1 : Pool (updS S l p (.lst [])) p := by
    obtain ⟨c, e, q1, q2, q3, q4⟩ := hP
    exact ⟨c, e, q1, q2, q3, by rw [updS_ne npl]; exact q4⟩
  have fr1 : Fr [p] S (updS S l p (.lst [])) := Fr.new (W.noS hl)
  refine ⟨_, rfl, _, rfl, _, _, rfl, rfl, p, 4, T, G, _, rfl, by decide, by decide, W1, hP1, fun S2 H2 k W2 ch2 hP2 hk => ?_⟩
  have hl2 : S2 l = some (p, .lst []) := by rw [ch2 l (Ne.symm npl)]; exact updS_same
  refine ⟨_, rfl, by omega, by omega, ?_⟩
  refine for_range (lo := 0) (fun i σ H' => GI p l T G S r.length i σ H') ⟨G, S2, a, r, [], [], _, _, _, _, _, _, rfl, W2, Same.refl _, fr1.trans (ch2.fr hP1), hP2, npl, hl2, .nil, (fun s hs => by cases hs), by simp, ha, hsm, by omega⟩ (fun i σ H' hi h' => ?_) (fun σ H' h' => ?_)
  · rw [Int.toNat_natCast] at hi
    obtain ⟨G', S', cur, ri, refs, ss, o5, o6, o7, o8, o9, o10, rfl, W3, eG, fr, hP3, _, hl3, hps, hss, hn, hc, hsr, hlr⟩ := h'
    refine ⟨by show 3 ≤ sizeLine; decide, fun q1 hq1 => ?_⟩
    obtain ⟨W4, e4⟩ := W3.new (o := .lst [.str "put", .str "take", .str "take"]) hq1 True.intro
    refine ⟨_, rfl, p, 3, T, _, S', rfl, by decide, by decide, W4, hP3, fun S5 H5 k1 W5 ch5 hP5 hk1 => ?_⟩
    have hd : ∃ b : Bool, ([V.str "put", V.str "take", V.str "take"])[k1]? = some (V.str (txtP b)) := by
      match k1, hk1 with
      | 0, _ => exact ⟨true, rfl⟩
      | 1, _ => exact ⟨false, rfl⟩
      | 2, _ => exact ⟨false, rfl⟩
    obtain ⟨bp, hbp⟩ := hd
    refine ⟨q1, _, _, _, rfl, rfl, SqL.of (W5.same _ _ upd_same), atI_nat hbp, ?_⟩
    refine ⟨by show 2 ≤ sizeLine; decide, fun q2 hq2 => ?_⟩
    obtain ⟨W6, e6⟩ := W5.new (o := .lst [.str "left", .str "right"]) hq2 True.intro
    refine ⟨_, rfl, p, 2, T, _, S5, rfl, by decide, by decide, W6, hP5, fun S7 H7 k2 W7 ch7 hP7 hk2 => ?_⟩
    have hd : ∃ b : Bool, ([V.str "left", V.str "right"])[k2]? = some (V.str (txtL b)) := by
      match k2, hk2 with
      | 0, _ => exact ⟨true, rfl⟩
      | 1, _ => exact ⟨false, rfl⟩
    obtain ⟨bl, hbl⟩ := hd
    refine ⟨q2, _, _, _, rfl, rfl, SqL.of (W7.same _ _ upd_same), atI_nat hbl, _, _, rfl, ?_⟩
    refine ⟨_, rfl, _, rfl, p, 2, T, _, S7, rfl, by decide, by decide, W7, hP7, fun S8 H8 k3 W8 ch8 hP8 hk3 => ?_⟩
    have e46 := e4.trans e6
    have fr8 : Fr [p] S S8 := ((fr.trans (ch5.fr hP3)).trans (ch7.fr hP5)).trans (ch8.fr hP7)
    have hl8 : S8 l = some (p, .lst (refs.map V.ref)) := by rw [ch8 l (Ne.symm npl), ch7 l (Ne.symm npl), ch5 l (Ne.symm npl)]; exact hl3
    have go : ∀ (D : Ends) (G2 : Hp) (S2 : Own) (H2 : Hp) (th : Int), (∀ σ' H', GI p l T G S r.length (i + 1) σ' H' → D.nx σ' H') → Wd T G2 S2 H2 → Same G' G2 → Ch p S8 S2 → Pool S2 p → (0 ≤ th ∧ th < 10) → tt D
        [some (.ref p), some (.ref cur), some (.int 3), some (.int 2), some (.ref l), some (.int (0 + (i : Nat))), some (.str (txtP bp)), some (.str (txtL bl)), some (.int th), o9, o10] H2 := fun D G2 S2 H2 th hD W2 e2 ch2 hP2 hth => by
      exact tail D p l cur T G G2 S S2 r.length i ri refs ss ⟨bp, bl, th⟩ _ _ _ H2 W2 (eG.trans e2) (fr8.trans (ch2.fr hP8)) hP2 npl (by rw [ch2 l (Ne.symm npl)]; exact hl8) (stps_mono hps e2) hss hn (hc.mono e2) hsr hlr (by omega) hth hD
    have hk3' : (0 : Int) ≤ (k3 : Int) ∧ (k3 : Int) < 10 := ⟨by omega, by omega⟩
    refine ⟨_, rfl, rfl, _, rfl, ?_⟩
    rw [take_dec]
    by_cases hb : bp = true
    · exact ifF (by simp [hb]) (go _ _ S8 H8 _ (fun _ _ z => z) W8 e46 (fun _ _ => rfl) hP8 hk3')
    · refine ifT (by simpa using hb) ⟨_, rfl, by show 0 ≤ sizeLine; decide, fun q3 hq3 => ⟨dRow ri, dRow [], dp_row (((hc.mono e46).mono W8.same).mono (same_upd hq3)), dp_row upd_same, (fine_row hsr).shaped (by omega), (fine_row (fun i z => by cases z)).shaped (by omega), _, rfl, ?_⟩⟩
      rw [eqv_row hsr (fun i z => by cases z)]
      obtain ⟨W9, e9⟩ := W8.new (o := .lst []) hq3 True.intro
      by_cases hz : ri = []
      · exact ifF (by simp [hz]) (go _ _ S8 _ _ (fun _ _ z => z) W9 (e46.trans e9) (fun _ _ => rfl) hP8 hk3')
      · refine ifT (by simp [hz]) ⟨_, rfl, p, 8, T, _, S8, rfl, by decide, by decide, W9, hP8, fun S10 H10 k4 W10 ch10 hP10 hk4 => ⟨_, _, rfl, rfl, _, rfl, ite2 (fun _ => ?_) (fun _ => go _ _ S10 H10 _ (fun _ _ z => z) W10 (e46.trans e9) ch10 hP10 hk3')⟩⟩
        refine ⟨_, rfl, _, rfl, by show 2 ≤ sizeLine; decide, fun q4 hq4 => ⟨_, rfl, rfl, .inr ⟨_, rfl, ?_⟩⟩⟩
        rw [right_dec]
        obtain ⟨W11, e11⟩ := W10.new (o := .lst [.int 0, .int (-1)]) hq4 True.intro
        have hcc : IsRow (upd H10 q4 (.lst [.int 0, .int (-1)])) cur ri := (hc.mono ((e46.trans e9).trans e11)).mono W11.same
        cases bl with
        | true =>
          cases ri with
          | nil => exact absurd rfl hz
          | cons x ri =>
            exact ⟨q4, _, _, .int 0, rfl, rfl, SqL.of upd_same, by rfl, cur, _, _, _, rfl, rfl, SqL.of hcc, at_first, go _ _ S10 _ x (fun _ _ z => z) W11 ((e46.trans e9).trans e11) ch10 hP10 (hsr x List.mem_cons_self)⟩
        | false =>
          exact ⟨q4, _, _, .int (-1), rfl, rfl, SqL.of upd_same, by rfl, cur, _, _, _, rfl, rfl, SqL.of hcc, at_last hz, go _ _ S10 _ (ri.getLast hz) (fun _ _ z => z) W11 ((e46.trans e9).trans e11) ch10 hP10 (hsr _ (List.getLast_mem hz))⟩
  · rw [Int.toNat_natCast] at h'
    obtain ⟨G', S', cur, ri, refs, ss, o5, o6, o7, o8, o9, o10, rfl, W3, eG, fr, hP3, _, hl3, hps, hss, hn, hc, hsr, hlr⟩ := h'
    refine ⟨_, rfl, ?_⟩
    obtain ⟨W4, e4⟩ := W3.freeze hl3
    refine h _ _ _ l ss W4 (eG.trans e4) (fr.trans (Fr.drop hl3 (by simp))) ?_ ⟨refs, upd_same, stps_mono hps e4⟩ hss (by omega)
    obtain ⟨c, e, q1, q2, q3, q4⟩ := hP3
    exact ⟨c, e, q1, q2, q3, by show (if p = l then none else S' p) = _; rw [if_neg npl]; exact q4⟩
end
end Dq
set_option maxHeartbeats 4000000
/-! _law_called, _law_state. -/
namespace Dq
open PySem PySem.Spec PyProof.Rows L2
def IsState (H : Hp) (p : Addr) (s : Se) : Prop := ∃ a l, H p = some (.lst [.ref a, .ref l, .int s.lim, .int s.done.length]) ∧ IsRow H a s.row ∧ IsLog H l s.log
theorem IsState.mono {H H' : Hp} {p : Addr} {s : Se} (h : IsState H p s) (e : Same H H') : IsState H' p s := let ⟨a, l, h1, h2, h3⟩ := h; ⟨a, l, e _ _ h1, h2.mono e, h3.mono e⟩
theorem dp_state {K : PySem.W.Frag} {H : Hp} {p : Addr} {s : Se} (h : IsState H p s) : Dp K H (.ref p) (dState s) := let ⟨a, l, h1, h2, h3⟩ := h; .lst (SqL.of h1) (.cons (dp_row h2) (.cons (dp_log h3) (.cons (.int _) (.cons (.int _) .nil))))
section
variable {P : Program} {w : World} {K : PySem.W.Frag} {mg : Str → Option Value} {base : Heap} {f CF CN CS CK : Addr}
def spCalled (CS CK CF : Addr) : Sp := fun vs H Q E => ∃ (x l : Addr) (u : Str) (ss : List Stp) (s : Se) (T : List (Addr × Str)) (G : Hp) (S : Own) (m : Nat), vs = [.ref x, .str u, .ref l] ∧ Wd T G S H ∧ Ses CS CK G S x s ∧ OkS m s ∧ m ≤ 190 ∧ OkU u ∧ IsStps G l ss ∧ (∀ t ∈ ss, SmS t) ∧ ss.length ≤ 3 ∧
  DoOut T CS CK CF x s u ss G S Q E (perf s.kept s.lim 0 s.row ss)
theorem scCalled : FnScope ["_law_session", "_law_who", "_law_some"] ["_law_session", "_law_who", "_law_some"] (defScope sCalled) := ⟨rfl, rfl, rfl, by decide +kernel, rfl, by decide +kernel, by decide +kernel⟩
theorem f_called (N : Nm mg) (cD : ∀ b, Mtd P w K mg base (L2.CX P w) 5 (cof CS CK b) "do" (spDo CS CK CF)) (F : IsFn K "_law_called" "_law_called" sCalled f) : FnR P w K mg base (L2.CX P w) 6 f (spCalled CS CK CF) := by
  refine fnX (k := 5) F scCalled (fun _ _ _ _ _ _ us hl => match us, hl with | [_, _, _], _ => rfl) (fun _ _ _ _ ⟨_, _, _, _, _, _, _, _, _, h, _⟩ => by rw [h]; rfl) fun cdv A outer s0 H vs Q E hr h => ?_
  obtain ⟨x, l, u, ss, s, T, G, S, m, rfl, W, hs, ok, hm, hu, ⟨rs, hl1, hl2⟩, hss, hn, h⟩ := h
  obtain ⟨dx, ra, da, ua, dr, ur, h1, _⟩ := hs.op W
  have hx := (W.s _ _ _ h1).1
  have hl := W.same _ _ hl1
  refine ⟨_, pss_cons (ps_if (pt_cmpR op_eq (pe_callB call_len_seq (by rfl) N.len (by decide +kernel) (pa_cons (pv 2) pa_nil)) pe_int (nomark _)) (pss_one (ps_ret (pe_m (pv 0) (cD s.kept) hr (passes_call (takes_of rfl rfl rfl rfl) (fun _ _ _ _ z => z)) (pa_cons (pv 1) pa_nil)))) pss_nil)
    (pss_cons (ps_if (pt_cmpR op_eq (pe_callB call_len_seq (by rfl) N.len (by decide +kernel) (pa_cons (pv 2) pa_nil)) pe_int (nomark _)) (pss_one (ps_ret (pe_m (pv 0) (cD s.kept) hr (passes_call (takes_of rfl rfl rfl rfl) (fun _ _ _ _ z => z)) (pa_cons (pv 1) (pa_cons (pe_ix ix_list (pv 2) pe_int (fun _ _ => rfl)) pa_nil))))) pss_nil)
    (pss_cons (ps_if (pt_cmpR op_eq (pe_callB call_len_seq (by rfl) N.len (by decide +kernel) (pa_cons (pv 2) pa_nil)) pe_int (nomark _)) (pss_one (ps_ret (pe_m (pv 0) (cD s.kept) hr (passes_call (takes_of rfl rfl rfl rfl) (fun _ _ _ _ z => z)) (pa_cons (pv 1) (pa_cons (pe_ix ix_list (pv 2) pe_int (fun _ _ => rfl)) (pa_cons (pe_ix ix_list (pv 2) pe_int (fun _ _ => rfl)) pa_nil)))))) pss_nil)
    (pss_one (ps_ret (pe_m (pv 0) (cD s.kept) hr (passes_call (takes_of rfl rfl rfl rfl) (fun _ _ _ _ z => z)) (pa_cons (pv 1) (pa_cons (pe_ix ix_list (pv 2) pe_int (fun _ _ => rfl)) (pa_cons (pe_ix ix_list (pv 2) pe_int (fun _ _ => rfl)) (pa_cons (pe_ix ix_list (pv 2) pe_int (fun _ _ => rfl)) pa_nil))))))))), ?_⟩
  have hlen : rs.length = ss.length := hl2.length
  match rs, hl1, hl2, hl, hlen with
  | [], hl1, hl2, hl, hlen =>
    refine ⟨_, rfl, l, _, rfl, .inl (SqL.of hl), rfl, _, rfl, ifT (by rfl) ?_⟩
    exact ⟨_, rfl, x, dx, _, rfl, hx, by kernel_rfl, _, rfl, x, u, [], ss, s, T, G, S, m, rfl, W, hs, ok, hm, hu, hl2, hss, hn, h⟩
  | [a], hl1, hl2, hl, hlen =>
    refine ⟨_, rfl, l, _, rfl, .inl (SqL.of hl), rfl, _, rfl, ifF (by rfl) ?_⟩
    refine ⟨_, rfl, l, _, rfl, .inl (SqL.of hl), rfl, _, rfl, ifT (by rfl) ?_⟩
    exact ⟨_, rfl, x, dx, _, rfl, hx, by kernel_rfl, _, rfl, _, rfl, l, _, _, _, rfl, rfl, SqL.of hl, rfl, x, u, [a], ss, s, T, G, S, m, rfl, W, hs, ok, hm, hu, hl2, hss, hn, h⟩
  | [a, b], hl1, hl2, hl, hlen =>
    refine ⟨_, rfl, l, _, rfl, .inl (SqL.of hl), rfl, _, rfl, ifF (by rfl) ?_⟩
    refine ⟨_, rfl, l, _, rfl, .inl (SqL.of hl), rfl, _, rfl, ifF (by rfl) ?_⟩
    refine ⟨_, rfl, l, _, rfl, .inl (SqL.of hl), rfl, _, rfl, ifT (by rfl) ?_⟩
    exact ⟨_, rfl, x, dx, _, rfl, hx, by kernel_rfl, _, rfl, _, rfl, l, _, _, _, rfl, rfl, SqL.of hl, rfl, _, rfl, l, _, _, _, rfl, rfl, SqL.of hl, rfl, x, u, [a, b], ss, s, T, G, S, m, rfl, W, hs, ok, hm, hu, hl2, hss, hn, h⟩
  | [a, b, c], hl1, hl2, hl, hlen =>
    refine ⟨_, rfl, l, _, rfl, .inl (SqL.of hl), rfl, _, rfl, ifF (by rfl) ?_⟩
    refine ⟨_, rfl, l, _, rfl, .inl (SqL.of hl), rfl, _, rfl, ifF (by rfl) ?_⟩
    refine ⟨_, rfl, l, _, rfl, .inl (SqL.of hl), rfl, _, rfl, ifF (by rfl) ?_⟩
    exact ⟨_, rfl, x, dx, _, rfl, hx, by kernel_rfl, _, rfl, _, rfl, l, _, _, _, rfl, rfl, SqL.of hl, rfl, _, rfl, l, _, _, _, rfl, rfl, SqL.of hl, rfl, _, rfl, l, _, _, _, rfl, rfl, SqL.of hl, rfl, x, u, [a, b, c], ss, s, T, G, S, m, rfl, W, hs, ok, hm, hu, hl2, hss, hn, h⟩
  | _ :: _ :: _ :: _ :: _, hl1, hl2, hl, hlen => simp at hlen; omega
def spState (CS CK : Addr) : Sp := fun vs H Q _ => ∃ (x : Addr) (s : Se) (T : List (Addr × Str)) (G : Hp) (S : Own) (m : Nat), vs = [.ref x] ∧ Wd T G S H ∧ Ses CS CK G S x s ∧ OkS m s ∧ m ≤ 200 ∧ ∀ G' H' p, Wd T G' S H' → Same G G' → IsState G' p s → Q (.ref p) H'
theorem scState : FnScope ["_law_session"] ["_law_session"] (defScope sState) := ⟨rfl, rfl, rfl, by decide +kernel, rfl, by decide +kernel, by decide +kernel⟩
theorem f_state (N : Nm mg) (cR : ∀ b, Prp P w K mg base CX0 1 (cof CS CK b) "row" (spRow CS CK)) (cM : ∀ b, Prp P w K mg base CX0 1 (cof CS CK b) "limit" (spLimit CS CK)) (cL : ∀ b, Mtd P w K mg base CX0 1 (cof CS CK b) "log" (spLog CS CK)) (cN : ∀ b, Lng P w K mg base 1 (cof CS CK b) (spLen CS CK))
    (F : IsFn K "_law_state" "_law_state" sState f) : FnR P w K mg base CX0 3 f (spState CS CK) := by
  refine fn0 (k := 2) F scState (fun _ _ _ _ _ _ us hl => match us, hl with | [_], _ => rfl) (fun _ _ _ _ ⟨_, _, _, _, _, _, h, _⟩ => by rw [h]; rfl) fun cdv A outer s0 H vs Q E hr h => ?_
  obtain ⟨x, s, T, G, S, m, rfl, W, hs, ok, hm, h⟩ := h
  obtain ⟨dx, ra, da, ua, dr, ur, h1, _⟩ := hs.op W
  refine ⟨_, pss_one (ps_ret (pe_lst (pa_cons (pe_p (k := 1) (E := E0) (pv 0) (cR s.kept) hr) (pa_cons (pe_m0 (k := 2) (pv 0) (cL s.kept) hr pass0) (pa_cons (pe_p (k := 1) (E := E0) (pv 0) (cM s.kept) hr) (pa_cons (pe_callB (call_lenO (k := 1) (cN s.kept) hr) (by rfl) N.len (by decide +kernel) (pa_cons (pv 0) pa_nil)) pa_nil)))))), ?_⟩
  refine ⟨_, rfl, x, dx, _, rfl, (W.s _ _ _ h1).1, x, s, T, G, S, rfl, W, hs, fun p hp => ?_⟩
  obtain ⟨W1, e1⟩ := W.new (o := .lst (s.row.map V.int)) hp True.intro
  have hs1 := hs.mono e1 (fun _ _ q => q)
  refine ⟨_, rfl, x, dx, _, rfl, (W1.s _ _ _ h1).1, by kernel_rfl, x, s, T, _, S, m, rfl, W1, hs1, ok, hm, fun G2 H2 q W2 e2 _ _ hlog => ?_⟩
  have hs2 := hs1.mono e2 (fun _ _ q => q)
  refine ⟨_, rfl, x, dx, _, rfl, (W2.s _ _ _ h1).1, x, s, T, _, S, rfl, W2, hs2, ?_⟩
  refine ⟨_, rfl, x, dx, _, rfl, (W2.s _ _ _ h1).1, x, s, T, _, S, rfl, W2, hs2, s.done.length, rfl, by have := ok.n; omega, ?_⟩
  refine ⟨by show 4 ≤ sizeLine; decide, fun l hl => ?_⟩
  obtain ⟨W3, e3⟩ := W2.new (o := .lst [.ref p, .ref q, .int s.lim, .int s.done.length]) hl True.intro
  exact h _ _ l W3 ((e1.trans e2).trans e3) ⟨p, q, upd_same, e3 _ _ (e2 _ _ upd_same), hlog.mono e3⟩
end
end Dq
set_option maxHeartbeats 1000000
/-! _law_told(lambda: ..), _law_step. -/
namespace Dq
open PySem PySem.Spec PyProof.Rows L2
structure ToldD (K : PySem.W.Frag) (mg : Str → Option Value) : Prop where
  ex : ∃ g, IsFn K "_law_told" "_law_told" sTold g ∧ mg "_law_told" = some (.ref g) ∧ PySem.W.keepIn K (.ref g) = true
/-- the def at f has its code object at c, c's table at P; q is what its lambdas are called -/
structure TabF (K : PySem.W.Frag) (mg : Str → Option Value) (base : Heap) (T : List (Addr × Str)) (q : Str) (f : Addr) : Prop where
  ex : ∃ c P, (∀ (oc : Value) (od : Option Addr) (fd : FuncData) (osl : Array (Option Value)), K.lookup f = some ⟨oc, od, .func fd, osl⟩ → fd.code = .ref c) ∧ LamX.TabB base mg c P ∧ (P, q ++ ".<locals>." ++ "<lambda>") ∈ T ∧ ∀ p ∈ T, p.1 = P → p.2 = q ++ ".<locals>." ++ "<lambda>"
theorem pe_told {X : Cx} {q : Str} (hq : X.env.qual = q) {T : List (Addr × Str)} {c P CF CN : Addr} {k : Nat} {params : Arguments} {body : Expr} {scope : Scope} {t : XK → TE} {p lpos pos : Pos} (D : ToldD X.K X.mg) (TT : ToldTxt X.K X.mg CF CN)
    (TB : LamX.TabB X.base X.mg c P) (hcode : X.env.code = .ref c) (hmT : (P, q ++ "<lambda>") ∈ T) (hu : ∀ p ∈ T, p.1 = P → p.2 = q ++ "<lambda>") (hr : Room (k + 2) X.A) (L : LamX.LamS X.env.scope scope)
    (hbody : ∀ (A : Around) (outer : List Env) (s : Shared) (H : Hp) (E : XK) (f c' : Addr), Room k (A.deeper (LamX.lamEnv X scope s.heap.objs.size f c')) → PE (LamX.lamCx X A outer s H E scope f c') body (t E))
    (hdef : defaultsOf params X.env = ([], []) := by rfl)
    (hbind : ∀ (q : Str) (cl : List (Str × Addr)) (pm cv ctv : Value), bindArgs (PySem.W.kla_fn "<lambda>" q params body scope cl pm cv ctv) ⟨[], []⟩ = pure [] := by intros; rfl)
    (hg : Gl X "_law_told" := by rfl) :
    PE X (.Call (.Name "_law_told" p) [.Lambda params body scope lpos] [] pos) (tLamS T (TTold CF CN) t) := by
  subst hq
  obtain ⟨g, ⟨oc, od, kV, doc, pm, an, cdv, ct, osl, lk, hcd⟩, hm, hk⟩ := D.ex
  refine pe_lamS (Ng := ["_law_door", "_law_kept", "e"]) (a := "_law_door") (P := P) (c := c) hm hk lk hcd ?_ scTold rfl (Or.inl rfl) (told_gives TT) TB hcode hmT hu hr L hdef hbind hbody hg
  intro s us _ hl
  match us, hl with
  | [_], _ => exact .of_eq rfl
theorem pe_toldC {CX : CXT} {Pr : Program} {w : World} {K : PySem.W.Frag} {mg : Str → Option Value} {base : Heap} {N : List Str} {q : Str} {sc : Scope} {fa : Addr} {cd : Value} {A0 : Around} {outer0 : List Env} {s0 : Shared} {H0 : Hp} {E0 : XK}
    {T : List (Addr × Str)} {c P CF CN : Addr} {k : Nat} {params : Arguments} {body : Expr} {scope : Scope} {t : XK → TE} {p lpos pos : Pos} (D : ToldD K mg) (TT : ToldTxt K mg CF CN)
    (TB : LamX.TabB base mg c P) (hcode : cd = .ref c) (hmT : (P, q ++ ".<locals>." ++ "<lambda>") ∈ T) (hu : ∀ p ∈ T, p.1 = P → p.2 = q ++ ".<locals>." ++ "<lambda>") (hr : Room (k + 2) (A0.deeper (envOfC q sc s0.heap.objs.size fa cd))) (L : LamX.LamS sc scope)
    (hbody : ∀ (A : Around) (outer : List Env) (s : Shared) (H : Hp) (E : XK) (f c' : Addr), Room k (A.deeper (LamX.lamEnv (cxOf CX Pr w K mg base N q sc fa cd A0 outer0 s0 H0 E0).nox scope s.heap.objs.size f c')) → PE (LamX.lamCx (cxOf CX Pr w K mg base N q sc fa cd A0 outer0 s0 H0 E0).nox A outer s H E scope f c') body (t E))
    (hdef : defaultsOf params (cxOf CX Pr w K mg base N q sc fa cd A0 outer0 s0 H0 E0).nox.env = ([], []) := by rfl)
    (hbind : ∀ (q : Str) (cl : List (Str × Addr)) (pm cv ctv : Value), bindArgs (PySem.W.kla_fn "<lambda>" q params body scope cl pm cv ctv) ⟨[], []⟩ = pure [] := by intros; rfl)
    (hg : Gl (cxOf CX Pr w K mg base N q sc fa cd A0 outer0 s0 H0 E0).nox "_law_told" := by rfl) :
    PE (cxOf CX Pr w K mg base N q sc fa cd A0 outer0 s0 H0 E0).nox (.Call (.Name "_law_told" p) [.Lambda params body scope lpos] [] pos) (tLamS T (TTold CF CN) t) :=
  pe_told (X := (cxOf CX Pr w K mg base N q sc fa cd A0 outer0 s0 H0 E0).nox) (q := q ++ ".<locals>.") rfl D TT TB hcode hmT hu hr L hbody hdef hbind hg
/-! ### told or failed, as data -/
def dDue : Except Nat (List Int) → PyData
  | .error i => .list [.str "fails", .int i]
  | .ok r => .list [.str "told", dRow r]
theorem fine_str {e n : Nat} {z : Str} (h1 : (PyData.str z).canLay0 = true) (h2 : (PyData.str z).shown.length ≤ n) : Fine e n (.str z) := ⟨h1, by rfl, Nat.zero_le _, h2, by rfl⟩
theorem fine_due {o : Except Nat (List Int)} (h : match o with | .error i => i < 256 | .ok r => Sm r ∧ r.length ≤ 1000) : Fine 2 20000 (dDue o) := by
  cases o with
  | error i =>
    refine ((fine_list (e := 1) (n := 5010) (ds := [_, _]) fun d hd => ?_).up (by show (5010 + 2) * 2 + 4 ≤ 20000; decide))
    simp only [List.mem_cons, List.not_mem_nil, or_false] at hd
    rcases hd with rfl | rfl
    · exact fine_str (by decide +kernel) (by decide +kernel)
    · exact ((fine_int h).up (by omega)).deep (by omega)
  | ok r =>
    refine ((fine_list (e := 1) (n := 5010) (ds := [_, _]) fun d hd => ?_).up (by show (5010 + 2) * 2 + 4 ≤ 20000; decide))
    simp only [List.mem_cons, List.not_mem_nil, or_false] at hd
    rcases hd with rfl | rfl
    · exact fine_str (by decide +kernel) (by decide +kernel)
    · have h2 := h.2
      exact (fine_row h.1).up (by omega)
theorem dp_due {K : PySem.W.Frag} {H : Hp} {p : Addr} {o : Except Nat (List Int)} (h : IsDue H p o) : Dp K H (.ref p) (dDue o) := by
  cases o with
  | error i => exact .lst (SqL.of h) (.cons (.str _) (.cons (.int _) .nil))
  | ok r => exact let ⟨a, h1, h2⟩ := h; .lst (SqL.of h1) (.cons (.str _) (.cons (dp_row h2) .nil))
theorem perf_sm {k : Bool} {lim : Nat} : ∀ {ss : List Stp} {i : Nat} {r r' : List Int}, Sm r → (∀ s ∈ ss, SmS s) → perf k lim i r ss = .ok r' → Sm r'
  | [], _, _, _, h, _, e => by
    rw [perf_nil] at e
    cases e
    exact h
  | s :: t, i, r, r', h, hs, e => by
    rw [perf_cons] at e
    cases q : after k lim r s with
    | none =>
      rw [q] at e
      cases e
    | some r1 =>
      rw [q] at e
      exact perf_sm (after_row q h (hs s List.mem_cons_self)).1 (fun x hx => hs x (List.mem_cons_of_mem _ hx)) e
/-- a session in the law -/
structure LI (k : Bool) (r0 : List Int) (m : Nat) (s : Se) : Prop where
  kp : s.kept = k
  lim : s.lim = 200
  ok : OkS m s
  ch : Chain k 200 r0 s.done s.row
theorem OkC.up {m n : Nat} {c : Call} (h : OkC m c) (k : m ≤ n) : OkC n c := ⟨h.u, h.n, h.s, h.r, by have := h.l; omega⟩
theorem OkS.up {m n : Nat} {s : Se} (h : OkS m s) (k : m ≤ n) : OkS n s := ⟨h.r, by have := h.l; omega, h.lim, fun c hc => (h.d c hc).up k, fun c hc => (h.e c hc).up k, by have := h.n; omega⟩
theorem OkS.did {m : Nat} {s : Se} {u : Str} {ss : List Stp} {r : List Int} (h : OkS m s) (hu : OkU u) (hss : ∀ t ∈ ss, SmS t) (hn : ss.length ≤ 3) (hr : Sm r) (hl : r.length ≤ m + 3) : OkS (m + 3) (s.did u ss r) := by
  refine ⟨hr, hl, h.lim, fun c hc => ?_, fun c hc => (by cases hc), ?_⟩
  · rcases List.mem_append.mp hc with q | q
    · exact (h.d c q).up (by omega)
    · rw [List.mem_singleton.mp q]
      exact ⟨hu, hn, hss, h.r, by have := h.l; show s.row.length ≤ m + 3; omega⟩
  · have := h.n
    simp [Se.did]
    omega
theorem OkS.undid {m : Nat} {s : Se} {rest : List Call} {c : Call} (h : OkS m s) (e : s.done = rest ++ [c]) : OkS m (s.undid rest c) := by
  have hc := h.d c (by rw [e]; simp)
  refine ⟨hc.r, hc.l, h.lim, fun d hd => h.d d (by rw [e]; exact List.mem_append_left _ hd), fun d hd => ?_, ?_⟩
  · rcases List.mem_append.mp hd with q | q
    · exact h.e d q
    · rw [List.mem_singleton.mp q]
      exact ⟨hc.u, hc.n, hc.s, h.r, h.l⟩
  · have := h.n
    rw [e] at this
    simp [Se.undid] at this ⊢
    omega
theorem OkS.redid {m : Nat} {s : Se} {rest : List Call} {c : Call} (h : OkS m s) (e : s.undone = rest ++ [c]) : OkS m (s.redid rest c) := by
  have hc := h.e c (by rw [e]; simp)
  refine ⟨hc.r, hc.l, h.lim, fun d hd => ?_, fun d hd => h.e d (by rw [e]; exact List.mem_append_left _ hd), ?_⟩
  · rcases List.mem_append.mp hd with q | q
    · exact h.d d q
    · rw [List.mem_singleton.mp q]
      exact ⟨hc.u, hc.n, hc.s, h.r, h.l⟩
  · have := h.n
    rw [e] at this
    simp [Se.redid] at this ⊢
    omega
theorem last_of {α : Type} {xs : List α} (h : xs ≠ []) : ∃ rest c, xs = rest ++ [c] := ⟨xs.dropLast, xs.getLast h, (List.dropLast_concat_getLast h).symm⟩
theorem Pool.ne {CS CK x p : Addr} {G : Hp} {S : Own} {s : Se} (h : Pool S p) (hs : Ses CS CK G S x s) : p ≠ x := fun z => by
  obtain ⟨c, e, _, _, _, q⟩ := h
  obtain ⟨dx, ra, da, ua, dr, ur, h1, _⟩ := hs.ex
  rw [z, h1] at q
  cases q
section
variable {P : Program} {w : World} {K : PySem.W.Frag} {mg : Str → Option Value} {base : Heap} {f CF CN CS CK : Addr}
def spStep (CS CK : Addr) (T : List (Addr × Str)) : Sp := fun vs H Q _ => ∃ (p x : Addr) (k : Bool) (r0 : List Int) (s : Se) (G : Hp) (S : Own) (m : Nat), vs = [.ref p, .ref x, .bl k] ∧ Wd T G S H ∧ Pool S p ∧ Ses CS CK G S x s ∧ LI k r0 m s ∧ m ≤ 150 ∧
  ∀ G' S' H' s', Wd T G' S' H' → Same G G' → Fr [p, x] S S' → Pool S' p → Ses CS CK G' S' x s' → LI k r0 (m + 3) s' → Q (.bl true) H'
theorem scStep : FnScope ["_law_pool_here", "_law_session", "_law_is_kept", "_law_sort", "_law_some", "_law_here", "_law_due"] ["_law_pool_here", "_law_session", "_law_is_kept"] (defScope sStep) := ⟨rfl, rfl, rfl, by decide +kernel, rfl, by decide +kernel, by decide +kernel⟩
theorem step_tail {T : List (Addr × Str)} {cdv : Value} {A : Around} {outer : List Env} {s0 : Shared} {H0 : Hp} {E : XK} (N : Nm mg) (D : ToldD K mg) (TT : ToldTxt K mg CF CN) {c Pt : Addr} (TB : LamX.TabB base mg c Pt) (hcode : cdv = .ref c) (hT1 : (Pt, ("_law_step" : Str) ++ ".<locals>." ++ "<lambda>") ∈ T) (hT2 : ∀ p ∈ T, p.1 = Pt → p.2 = ("_law_step" : Str) ++ ".<locals>." ++ "<lambda>")
    (cG : Glo P w K mg base CX0 2 "_law_guided" spGuided) (cR : ∀ b, Prp P w K mg base CX0 1 (cof CS CK b) "row" (spRow CS CK)) (cY : Glo P w K mg base CX0 2 "_law_tried" spTried) (cC : Glo P w K mg base (L2.CX P w) 6 "_law_called" (spCalled CS CK CF))
    (hgd : (A.deeper (envOfC "_law_step" (defScope sStep) s0.heap.objs.size f cdv)).guards = some []) (hr : Room 8 (A.deeper (envOfC "_law_step" (defScope sStep) s0.heap.objs.size f cdv))) (b : Bool) :
    ∃ t, PSs (cxOf CX0 P w K mg base ["_law_pool_here", "_law_session", "_law_is_kept", "_law_sort", "_law_some", "_law_here", "_law_due"] "_law_step" (defScope sStep) f cdv A outer s0 H0 E).nox ((defBody sStep).drop 2) t ∧
      ∀ (De : Ends) (p x : Addr) (r0 : List Int) (s : Se) (G : Hp) (S : Own) (m : Nat) (o3 o4 o5 o6 : Option V) (H : Hp), Wd T G S H → Pool S p → Ses CS CK G S x s → LI b r0 m s → m ≤ 150 →
        (∀ G' S' H' s', Wd T G' S' H' → Same G G' → Fr [p, x] S S' → Pool S' p → Ses CS CK G' S' x s' → LI b r0 (m + 3) s' → De.rt (.bl true) H') →
        t De [some (.ref p), some (.ref x), some (.bl b), o3, o4, o5, o6] H := by
  refine ⟨_, pss_cons (ps_asg (pe_tup (pa_cons (pe_g cG hr pass0 (pa_cons (pv 0) (pa_cons (pe_p (k := 7) (E := E0) (pv 1) (cR b) hr) (pa_cons pe_int (pa_cons pe_int pa_nil))))) (pa_cons (pe_p (k := 7) (E := E0) (pv 1) (cR b) hr) pa_nil))) (pg_tup rfl (pgs_cons (pg_name (i := 4) scStep.nd rfl (.inr rfl)) (pgs_cons (pg_name (i := 5) scStep.nd rfl (.inl rfl)) pgs_nil))))
    (pss_cons (ps_set (i := 6) scStep.nd rfl (Or.inl rfl) (pe_g cY hr pass0 (pa_cons (pv 5) (pa_cons (pv 4) (pa_cons (pv 2) pa_nil)))))
    (pss_one (ps_ret (pe_cmpR op_eq
      (pe_callB (call_repr hgd hr) (by rfl) N.repr (by decide +kernel) (pa_cons (pe_toldC (k := 6) (t := fun E => tCallR (spCalled CS CK CF) E (tCons (tVar 1) (tCons (tC (.str "ann")) (tCons (tVar 4) tNil)))) D TT TB hcode hT1 hT2 hr (LamX.lamS_by (by decide +kernel))
        (fun A outer s H E f c' hr2 => pe_g cC hr2 (passes_call (takes_of rfl rfl rfl rfl) (fun _ _ _ _ z => z)) (pa_cons (pv 1) (pa_cons pe_str (pa_cons (pv 4) pa_nil))))) pa_nil))
      (pe_callB (call_repr hgd hr) (by rfl) N.repr (by decide +kernel) (pa_cons (pv 6) pa_nil)) (nomark _))))), ?_⟩
  intro De p x r0 s G S m o3 o4 o5 o6 H W hP hs li hm h
  have ok := li.ok
  have ek : cof CS CK b = cof CS CK s.kept := by rw [li.kp]
  obtain ⟨dx, ra, da, ua, dr, ur, h1, _⟩ := hs.op W
  refine ⟨_, rfl, _, rfl, x, dx, _, rfl, by rw [ek]; exact (W.s _ _ _ h1).1, x, s, T, G, S, rfl, W, hs, fun a ha => ?_⟩
  obtain ⟨W1, e1⟩ := W.new (o := .lst (s.row.map V.int)) ha True.intro
  refine ⟨p, a, s.row, T, _, S, rfl, W1, hP, upd_same, ok.r, by have := ok.l; omega, fun G2 S2 H2 l ss W2 e2 fr2 hP2 hl hss hn => ?_⟩
  have hs2 := (hs.mono e1 fun _ _ q => q).fr e2 fr2 (by simpa using Ne.symm (hP.ne hs))
  obtain ⟨dx2, ra2, da2, ua2, dr2, ur2, g1, _⟩ := hs2.op W2
  refine ⟨_, rfl, x, dx2, _, rfl, by rw [ek]; exact (W2.s _ _ _ g1).1, x, s, T, G2, S2, rfl, W2, hs2, fun a2 ha2 => ?_⟩
  obtain ⟨W3, e3⟩ := W2.new (o := .lst (s.row.map V.int)) ha2 True.intro
  refine ⟨by show 2 ≤ sizeLine; decide, fun tp htp => ?_⟩
  have W4 := W3.grow (same_upd (o := .tup [.ref l, .ref a2]) htp)
  refine ⟨tp, _, rfl, SqT.of upd_same, rfl, _, _, rfl, _, _, rfl, rfl, ?_⟩
  have hs3 := hs2.mono e3 fun _ _ q => q
  have hl3 := hl.mono e3
  have hrl := ok.l
  refine ⟨_, rfl, _, rfl, _, rfl, a2, l, b, s.row, ss, T, _, S2, rfl, W4, upd_same, hl3, ok.r, hss, by omega, fun G5 H5 q W5 e5 hdue => ?_⟩
  have hs5 := hs3.mono e5 fun _ _ z => z
  have eG := (e1.trans e2).trans (e3.trans e5)
  have htr : perf s.kept s.lim 0 s.row ss = tried b 0 s.row ss := by
    rw [li.kp]
    exact perf_tried b s.lim ss 0 s.row (by rw [li.lim]; omega)
  refine ⟨W5.t, fun H6 x6 t6 => ?_⟩
  have W6 := W5.tab x6 t6
  intro E1 Q1 hv hf hnn
  refine ⟨_, rfl, _, rfl, x, l, "ann", ss, s, T, G5, S2, m, rfl, W6, hs5, ok, by omega, .inl rfl, hl3.mono e5, hss, hn, ?_⟩
  have fin : ∀ (o : Except Nat (List Int)) (G' : Hp) (S' : Own) (H' : Hp) (pd : Addr) (s' : Se), tried b 0 s.row ss = o → (match o with | .error i => i < 256 | .ok r => Sm r ∧ r.length ≤ 1000) → Wd T G' S' H' → Same G5 G' → Fr [x] S2 S' → Ses CS CK G' S' x s' → LI b r0 (m + 3) s' → IsDue G' pd o →
      rRepr K [.ref pd] H' (fun y H3 => tCB (rRepr K) (tCons (tVar 6) tNil) [some (.ref p), some (.ref x), some (.bl b), o3, some (.ref l), some (.ref a2), some (.ref q)] H3 fun z H4 => rEq y z H4 De.rt) := by
    intro o G' S' H' pd s' eo hfine W' e' fr' hs' li' hpd
    rw [eo] at hdue
    have fd := fine_due hfine
    refine ⟨pd, dDue o, rfl, dp_due (hpd.mono W'.same), fd.sho, fd.noD, by have := fd.dep; omega, by have := fd.len; rw [sizeLine_eq]; omega, ?_⟩
    refine ⟨_, rfl, q, dDue o, rfl, dp_due ((hdue.mono e').mono W'.same), fd.sho, fd.noD, by have := fd.dep; omega, by have := fd.len; rw [sizeLine_eq]; omega, rfl, ?_⟩
    show De.rt (.bl (decide (V.str (dDue o).shown = V.str (dDue o).shown))) H'
    rw [decide_eq_true rfl]
    have ff : Fr [p, x] S S' := (fr2.mono (by simp)).trans (fr'.mono (by simp))
    have hP' : Pool S' p := hP2.mono fr' (by simpa using hP.ne hs)
    exact h G' S' H' s' W' (eG.trans e') ff hP' hs' li'
  cases ho : perf s.kept s.lim 0 s.row ss with
  | error i =>
    intro d G7 H7 W7 e7 hd
    refine hf d (.int i) H7 hd fun pd hpd => ?_
    obtain ⟨W8, e8⟩ := W7.new (o := .lst [.str "fails", .int i]) hpd True.intro
    have hi := perf_err ho
    exact fin (.error i) _ S2 _ pd s (by rw [← htr]; exact ho) (show i < 256 by omega) W8 (e7.trans e8) Fr.refl ((hs5.mono e7 fun _ _ z => z).mono e8 fun _ _ z => z) ⟨li.kp, li.lim, ok.up (by omega), li.ch⟩ upd_same
  | ok r' =>
    intro G7 S7 H7 q7 W7 e7 fr7 hs7 hr7
    refine hv (.ref q7) H7 fun pd hpd => ?_
    obtain ⟨W8, e8⟩ := W7.new (o := .lst [.str "told", .ref q7]) hpd True.intro
    have hsm' := perf_sm ok.r hss ho
    have hlen' := perf_len ho
    have ho2 : perf b 200 0 s.row ss = .ok r' := by
      have e := ho
      rw [li.kp, li.lim] at e
      exact e
    refine fin (.ok r') _ S7 _ pd (s.did "ann" ss r') (by rw [← htr]; exact ho) ⟨hsm', by omega⟩ W8 (e7.trans e8) fr7 (hs7.mono e8 fun _ _ z => z) ⟨li.kp, li.lim, ok.did (.inl rfl) hss hn hsm' (by omega), ?_⟩ ⟨q7, upd_same, hr7.mono e8⟩
    exact .snoc li.ch ho2
theorem f_step {T : List (Addr × Str)} (N : Nm mg) (D : ToldD K mg) (TT : ToldTxt K mg CF CN) (TF : TabF K mg base T "_law_step" f) (cT : Glo P w K mg base CX0 1 "_law_take" spTake) (cG : Glo P w K mg base CX0 2 "_law_guided" spGuided) (cR : ∀ b, Prp P w K mg base CX0 1 (cof CS CK b) "row" (spRow CS CK))
    (cN : ∀ b, Lng P w K mg base 1 (cof CS CK b) (spLen CS CK)) (cU : ∀ b, Mtd P w K mg base CX0 1 (cof CS CK b) "undo" (spUndo CS CK)) (cY : Glo P w K mg base CX0 2 "_law_tried" spTried) (cC : Glo P w K mg base (L2.CX P w) 6 "_law_called" (spCalled CS CK CF))
    (F : IsFn K "_law_step" "_law_step" sStep f) : FnG P w K mg base CX0 9 f (spStep CS CK T) := by
  refine fnG (k := 8) F scStep (fun _ _ _ _ _ _ us hl => match us, hl with | [_, _, _], _ => rfl) (fun _ _ _ _ ⟨_, _, _, _, _, _, _, _, h, _⟩ => by rw [h]; rfl) fun cdv A outer s0 H vs Q E hgd hr h lk => ?_
  obtain ⟨p, x, k, r0, s, G, S, m, rfl, W, hP, hs, li, hm, h⟩ := h
  obtain ⟨oc, od, kV, doc, pm, an, ct, osl, lk⟩ := lk
  obtain ⟨c, Pt, hcd, TB, hT1, hT2⟩ := TF.ex
  have hcode : cdv = .ref c := hcd _ _ _ _ lk
  have ek : cof CS CK k = cof CS CK s.kept := by rw [li.kp]
  obtain ⟨tt, ht, tail⟩ := step_tail (f := f) (cdv := cdv) (A := A) (outer := outer) (s0 := s0) (H0 := H) (E := E) N D TT TB hcode hT1 hT2 cG cR cY cC hgd hr k
  refine ⟨_, pss_cons (ps_set (i := 3) scStep.nd rfl (Or.inl rfl) (pe_g cT hr pass0 (pa_cons (pv 0) (pa_cons pe_int pa_nil))))
    (pss_cons (ps_if (PW.pt (pw_and (pt_cmpR op_eq (pv 3) pe_int (nomark _)) (pw_and1 (pt_cmpR op_gt (pe_callB (call_lenO (k := 7) (cN k) hr) (by rfl) N.len (by decide +kernel) (pa_cons (pv 1) pa_nil)) pe_int (nomark _)))))
      (pss_cons (ps_expr (pe_m0 (pv 1) (cU k) hr pass0)) (pss_one (ps_ret pe_bl))) pss_nil) ht), ?_⟩
  refine ⟨_, rfl, p, 6, T, G, S, rfl, by decide, by decide, W, hP, fun S1 H1 kk W1 ch1 hP1 hk1 => ?_⟩
  have fr1 := ch1.fr hP
  have hs1 := hs.fr (Same.refl _) fr1 (by simpa using Ne.symm (hP.ne hs))
  have rest : ∀ o4 o5 o6, tt { nx := fun _ H' => Q .non H', rt := Q } [some (.ref p), some (.ref x), some (.bl k), some (.int kk), o4, o5, o6] H1 := fun o4 o5 o6 =>
    tail _ p x r0 s G S1 m _ _ _ _ H1 W1 hP1 hs1 li hm fun G' S' H' s' W' e' f' hP' hs' li' => h G' S' H' s' W' e' ((fr1.mono (by simp)).trans f') hP' hs' li'
  obtain ⟨dx, ra, da, ua, dr, ur, h1, _⟩ := hs1.op W1
  have hx1 : H1 x = some (.ins (cof CS CK k) dx (sfs ra s.lim da ua)) := by rw [ek]; exact (W1.s _ _ _ h1).1
  refine ⟨_, rfl, rfl, _, rfl, ite2 (fun hz => ?_) (fun _ => rest _ _ _)⟩
  refine ⟨_, rfl, x, dx, _, rfl, hx1, x, s, T, G, S1, rfl, W1, hs1, s.done.length, rfl, by have := li.ok.n; omega, _, _, rfl, rfl, _, rfl, ite2 (fun hd => ?_) (fun _ => rest _ _ _)⟩
  have hne : s.done ≠ [] := fun z => by
    rw [z] at hd
    exact absurd hd (by decide)
  obtain ⟨rs, c1, ed⟩ := last_of hne
  refine ⟨_, rfl, x, dx, _, rfl, hx1, by kernel_rfl, x, s, rs, c1, T, G, S1, m, rfl, W1, hs1, li.ok, by omega, ed, fun G2 S2 H2 q W2 e2 fr2 hs2 _ => ?_⟩
  refine h G2 S2 H2 _ W2 e2 ((fr1.mono (by simp)).trans (fr2.mono (by simp))) (hP1.mono fr2 (by simpa using hP.ne hs)) hs2 ⟨li.kp, li.lim, (li.ok.undid ed).up (by omega), ?_⟩
  have hch := li.ch
  rw [ed] at hch
  rcases hch.inv with ⟨z, _⟩ | ⟨ds, c2, e, a, b⟩
  · simp at z
  · obtain ⟨e2, e3⟩ := List.append_inj' e rfl
    have e4 : c1 = c2 := by simpa using e3
    subst e2 e4
    exact a
end
end Dq
set_option maxHeartbeats 1000000
/-! _law_led_back. -/
namespace Dq
open PySem PySem.Spec PyProof.Rows L2
/-- what those own that stand by themselves, but for xs, stands -/
def Kp (xs : List Addr) (S S' : Own) : Prop := ∀ a w o o', w ∉ xs → S w = some (w, o') → S a = some (w, o) → S' a = some (w, o)
section
variable {xs ys : List Addr} {S S' S1 S2 : Own} {a p w y : Addr} {o : HO} {T : List (Addr × Str)} {G G' H : Hp}
theorem Kp.refl : Kp xs S S := fun _ _ _ _ _ _ h => h
theorem Kp.trans (f : Kp xs S S1) (g : Kp xs S1 S2) : Kp xs S S2 := fun a w o o' n h1 h2 => g a w o o' n (f w w o' o' n h1 h1) (f a w o o' n h1 h2)
theorem Kp.mono (f : Kp xs S S1) (h : ∀ x ∈ xs, x ∈ ys) : Kp ys S S1 := fun a w o o' n => f a w o o' fun z => n (h _ z)
theorem Fr.kp (f : Fr xs S S1) : Kp xs S S1 := fun a w o o' n _ h => f a w o n h
/-- nothing of those stands at p -/
def Nw (xs : List Addr) (S : Own) (p : Addr) : Prop := ∀ w o o', w ∉ xs → S w = some (w, o') → S p ≠ some (w, o)
theorem Nw.of (h : S p = none) : Nw xs S p := fun w o o' _ _ e => by
  rw [h] at e
  cases e
theorem Kp.nw (f : Kp xs S S1) (h : S1 p = none) : Nw xs S p := fun w o o' n h1 h2 => by
  have := f p w o o' n h1 h2
  rw [h] at this
  cases this
theorem Kp.nw' (f : Kp xs S S1) (h : Nw xs S1 p) : Nw xs S p := fun w o o' n h1 h2 => h w o o' n (f w w o' o' n h1 h1) (f p w o o' n h1 h2)
/-- .. of what is new, too -/
theorem Kp.fr (f : Kp xs S S1) (g : Fr ys S1 S2) (h : ∀ y ∈ ys, y ∈ xs ∨ Nw xs S y) : Kp xs S S2 := fun a w o o' n h1 h2 => by
  refine g a w o (fun z => ?_) (f a w o o' n h1 h2)
  rcases h w z with q | q
  · exact n q
  · exact q w o' o' n h1 h1
theorem Kp.kp (f : Kp xs S S1) (g : Kp ys S1 S2) (h : ∀ y ∈ ys, y ∈ xs ∨ Nw xs S y) : Kp xs S S2 := fun a w o o' n h1 h2 => by
  refine g a w o o' (fun z => ?_) (f w w o' o' n h1 h1) (f a w o o' n h1 h2)
  rcases h w z with q | q
  · exact n q
  · exact q w o' o' n h1 h1
theorem Kp.upd {u : HO} (f : Kp xs S S1) (h : Nw xs S p) : Kp xs S (updS S1 p w u) := fun b v o o' n h1 h2 => by
  have nb : b ≠ p := fun z => h v o o' n h1 (by rw [← z]; exact h2)
  rw [updS_ne nb]
  exact f b v o o' n h1 h2
theorem Kp.drop (f : Kp xs S S1) (h : Nw xs S p) : Kp xs S (dropS S1 p) := fun b v o o' n h1 h2 => by
  have nb : b ≠ p := fun z => h v o o' n h1 (by rw [← z]; exact h2)
  show (if b = p then none else S1 b) = _
  rw [if_neg nb]
  exact f b v o o' n h1 h2
theorem Ses.kp {CS CK x : Addr} {s : Se} (h : Ses CS CK G S x s) (e : Same G G') (f : Kp xs S S') (n : x ∉ xs) : Ses CS CK G' S' x s :=
  let ⟨_, h1⟩ := h.have
  h.mono e fun a o q => f a x o _ n h1 q
theorem Pool.kp (h : Pool S p) (f : Kp xs S S') (n : p ∉ xs) : Pool S' p := let ⟨c, e, h1, h2, h3, h4⟩ := h; ⟨c, e, h1, h2, h3, f p p _ _ n h4 h4⟩
theorem Ses.nw {CS CK x y : Addr} {s : Se} (h : Ses CS CK G S x s) (n : Nw xs S y) (hx : x ∉ xs) : x ≠ y := fun z => by
  obtain ⟨o, h1⟩ := h.have
  subst z
  exact n x o o hx h1 h1
end
/-! ### undone by and by -/
inductive Und (s : Se) : List (List Int) → Se → Prop
  | nil : Und s [] s
  | snoc {rows : List (List Int)} {t : Se} {rest : List Call} {c : Call} : Und s rows t → t.done = rest ++ [c] → Und s (rows ++ [t.row]) (t.undid rest c)
theorem Und.inv {s t : Se} {rows : List (List Int)} (h : Und s rows t) : (rows = [] ∧ t = s) ∨ ∃ rows' t' rest c, rows = rows' ++ [t'.row] ∧ Und s rows' t' ∧ t'.done = rest ++ [c] ∧ t = t'.undid rest c := by
  cases h with
  | nil => exact .inl ⟨rfl, rfl⟩
  | snoc a b => exact .inr ⟨_, _, _, _, rfl, a, b, rfl⟩
theorem chain_undid {k : Bool} {lim : Nat} {r0 : List Int} {t : Se} {rest : List Call} {c : Call} (h : Chain k lim r0 t.done t.row) (e : t.done = rest ++ [c]) : Chain k lim r0 rest c.row ∧ perf k lim 0 c.row c.steps = .ok t.row := by
  rw [e] at h
  rcases h.inv with ⟨z, _⟩ | ⟨ds, c2, e, a, b⟩
  · simp at z
  · obtain ⟨e2, e3⟩ := List.append_inj' e rfl
    have e4 : c = c2 := by simpa using e3
    subst e2 e4
    exact ⟨a, b⟩
theorem LI.undid {k : Bool} {r0 : List Int} {m : Nat} {t : Se} {rest : List Call} {c : Call} (h : LI k r0 m t) (e : t.done = rest ++ [c]) : LI k r0 m (t.undid rest c) := ⟨h.kp, h.lim, h.ok.undid e, (chain_undid h.ch e).1⟩
theorem Und.li {k : Bool} {r0 : List Int} {m : Nat} {s t : Se} {rows : List (List Int)} (h : Und s rows t) (l : LI k r0 m s) : LI k r0 m t := by
  induction h with
  | nil => exact l
  | snoc a b ih => exact ih.undid b
theorem Und.len {s t : Se} {rows : List (List Int)} (h : Und s rows t) : t.done.length + rows.length = s.done.length := by
  induction h with
  | nil => simp
  | @snoc rows t rest c a b ih =>
    rw [b] at ih
    simp [Se.undid] at ih ⊢
    omega
theorem Und.sm {k : Bool} {r0 : List Int} {m : Nat} {s t : Se} {rows : List (List Int)} (h : Und s rows t) (l : LI k r0 m s) : ∀ r ∈ rows, Sm r := by
  induction h with
  | nil => intro r hr; cases hr
  | @snoc rows t rest c a b ih =>
    intro r hr
    rcases List.mem_append.mp hr with q | q
    · exact ih r q
    · rw [List.mem_singleton.mp q]
      exact (a.li l).ok.r
theorem redid_undid {t : Se} {rest : List Call} {c : Call} (e : t.done = rest ++ [c]) : (t.undid rest c).redid t.undone ⟨c.user, c.steps, t.row⟩ = t := by
  cases t
  cases c
  simp only [Se.undid, Se.redid] at e ⊢
  rw [← e]
theorem undid_redid {t : Se} {rest : List Call} {c : Call} (e : t.undone = rest ++ [c]) : (t.redid rest c).undid t.done ⟨c.user, c.steps, t.row⟩ = t := by
  cases t
  cases c
  simp only [Se.undid, Se.redid] at e ⊢
  rw [← e]
theorem paired_rev {α β : Type} {R : α → β → Prop} : ∀ {xs : List α} {ys : List β}, Paired R xs ys → Paired R xs.reverse ys.reverse
  | _, _, .nil => .nil
  | _, _, .cons h t => by
    rw [List.reverse_cons, List.reverse_cons]
    exact paired_app h (paired_rev t)
theorem ne_same {r : List Int} (h : Sm r) : (!PyData.eqv (dRow r) (dRow r)) = false := by rw [eqv_row h h, decide_eq_true rfl]; rfl
theorem rows_mono {H H' : Hp} {rs : List Addr} {cs : List (List Int)} (h : Paired (IsRow H) rs cs) (e : Same H H') : Paired (IsRow H') rs cs := Paired.mapP h fun _ _ q => q.mono e
theorem eqS_refl (s : Se) : eqS s s = true := by simp [eqS]
section
variable {P : Program} {w : World} {K : PySem.W.Frag} {mg : Str → Option Value} {base : Heap} {f CF CN CS CK : Addr}
def spLedBack (CS CK : Addr) (T : List (Addr × Str)) : Sp := fun vs H Q _ => ∃ (x : Addr) (k : Bool) (r0 : List Int) (s : Se) (G : Hp) (S : Own) (m : Nat), vs = [.ref x] ∧ Wd T G S H ∧ Ses CS CK G S x s ∧ LI k r0 m s ∧ m ≤ 180 ∧
  ∀ G' S' H', Wd T G' S' H' → Same G G' → Kp [] S S' → Q (.bl true) H'
theorem scLedBack : FnScope ["_law_session", "_law_twin", "_law_rows", "_law_last", "_law_here", "_law_again", "_law_due"] ["_law_session"] (defScope sLedBack) := ⟨rfl, rfl, rfl, by decide +kernel, rfl, by decide +kernel, by decide +kernel⟩
theorem f_ledBack {T : List (Addr × Str)} (N : Nm mg) (C : CxS K CS CK) (cW : ∀ b, Mtd P w K mg base CX0 7 (cof CS CK b) "twin" (spTwin CS CK b)) (cN : ∀ b, Lng P w K mg base 1 (cof CS CK b) (spLen CS CK)) (cL : ∀ b, Mtd P w K mg base CX0 1 (cof CS CK b) "log" (spLog CS CK)) (cR : ∀ b, Prp P w K mg base CX0 1 (cof CS CK b) "row" (spRow CS CK))
    (cU : ∀ b, Mtd P w K mg base CX0 1 (cof CS CK b) "undo" (spUndo CS CK)) (cO : ∀ b, Mtd P w K mg base (L2.CX P w) 3 (cof CS CK b) "redo" (spRedo CS CK CN)) (cE : Glo P w K mg base CX0 2 "_law_led" spLed) (cQ : EqS P w K mg base 2 CS CK (spEq CS CK))
    (F : IsFn K "_law_led_back" "_law_led_back" sLedBack f) : FnR P w K mg base CX0 9 f (spLedBack CS CK T) := by
  refine fn0 (k := 8) F scLedBack (fun _ _ _ _ _ _ us hl => match us, hl with | [_], _ => rfl) (fun _ _ _ _ ⟨_, _, _, _, _, _, _, h, _⟩ => by rw [h]; rfl) fun cdv A outer s0 H vs Q E hr h => ?_
  obtain ⟨x, b, r0, s, G, S, m, rfl, W, hs, li, hm, h⟩ := h
  refine ⟨_, pss_cons (ps_par (i := 1) (j := 2) rfl scLedBack.nd rfl rfl (by decide) rfl rfl (pa_cons (pe_m0 (pv 0) (cW b) hr pass0) (pa_cons (pe_lst pa_nil) pa_nil)) (by rfl))
    (pss_cons (ps_while PassesOwn.never (pt_cmpR op_gt (pe_callB (call_lenO (k := 7) (cN b) hr) (by rfl) N.len (by decide +kernel) (pa_cons (pv 1) pa_nil)) pe_int (nomark _))
      (pss_cons (ps_set (i := 3) scLedBack.nd rfl (Or.inl rfl) (pe_ix ix_tup (pe_ix ix_list (pe_m0 (pv 1) (cL b) hr pass0) (pe_un un_neg pe_int) (fun _ _ => rfl)) pe_int (fun _ _ => rfl)))
      (pss_cons (ps_expr (pe_bm PySem.F.plainAttrs_list PySem.F.slot_list_append PySem.F.type_list_append mt_append (pv 2) (pa_cons (pe_p (k := 7) (E := E0) (pv 1) (cR b) hr) pa_nil)))
      (pss_cons (ps_set (i := 4) scLedBack.nd rfl (Or.inl rfl) (pe_m0 (pv 1) (cU b) hr pass0))
      (pss_one (ps_if (PW.pt (pw_or (pt_cmpR (op_neD hr.units) (pv 4) (pe_p (k := 7) (E := E0) (pv 1) (cR b) hr) (nomark _)) (pw_or (pt_cmpR (op_neD hr.units) (pe_g cE hr pass0 (pa_cons (pv 4) (pa_cons (pv 3) pa_nil))) (pe_ix ix_list (pv 2) (pe_un un_neg pe_int) (fun _ _ => rfl)) (nomark _))
          (pw_or1 (pt_cmpR op_ne (pe_callB (call_lenO (k := 7) (cN b) hr) (by rfl) N.len (by decide +kernel) (pa_cons (pv 1) pa_nil)) (pe_op op_sub (pe_callB (call_lenO (k := 7) (cN b) hr) (by rfl) N.len (by decide +kernel) (pa_cons (pv 0) pa_nil)) (pe_callB call_len_seq (by rfl) N.len (by decide +kernel) (pa_cons (pv 2) pa_nil))) (nomark _))))))
        (pss_one (ps_ret pe_bl)) pss_nil))))))
    (pss_cons (ps_set (i := 5) scLedBack.nd rfl (Or.inl rfl) (pe_m0 (pv 1) (cW b) hr pass0))
    (pss_cons (ps_for PassesOwn.never rfl (pi_list (pe_revL (pv 2))) (pg_name (i := 6) scLedBack.nd rfl (Or.inl rfl))
      (pss_one (ps_if (PW.pt (pw_or (pt_cmpR (op_neD hr.units) (pe_m0 (pv 1) (cO b) hr passL) (pv 6) (nomark _)) (pw_or (pt_cmpR (op_neD hr.units) (pe_m0 (pv 5) (cO b) hr passL) (pv 6) (nomark _))
          (pw_or1 (pt_cmpR (op_neD hr.units) (pe_p (k := 7) (E := E0) (pv 1) (cR b) hr) (pv 6) (nomark _))))))
        (pss_one (ps_ret pe_bl)) pss_nil)))
    (pss_one (ps_ret (pe_and (pe_cmpR (op_eqS cQ hr) (pv 1) (pv 0) (nomark _)) (pe_one (pe_cmpR (op_eqS cQ hr) (pv 5) (pv 0) (nomark _))))))))), ?_⟩
  obtain rfl := li.kp
  have hlm := li.ok.l
  obtain ⟨dx, ra, da, ua, dr, ur, h1, _⟩ := hs.op W
  refine ⟨_, rfl, x, dx, _, rfl, (W.s _ _ _ h1).1, by kernel_rfl, x, s, T, G, S, rfl, rfl, W, hs, li.ok.r, by omega, fun G1 S1 H1 y W1 e1 fr1 hy1 sy => ?_⟩
  have ny : Nw [] S y := .of sy
  have kp1 : Kp [] S S1 := Kp.fr Kp.refl fr1 (by simpa using ny)
  refine ⟨by show 0 ≤ sizeLine; decide, fun l hl => ?_⟩
  have nl : Nw [] S l := kp1.nw (W1.noS hl)
  have nyl : y ≠ l := hy1.other (W1.noS hl)
  have W2 := W1.newS (o := .lst []) hl True.intro l
  have kp2 : Kp [] S (updS S1 l l (.lst [])) := kp1.upd nl
  have hy2 : Ses CS CK G1 (updS S1 l l (.lst [])) y s := hy1.fr (Same.refl _) (Fr.new (xs := [l]) (W1.noS hl)) (by simpa using nyl)
  refine ⟨_, _, rfl, ?_⟩
  refine ⟨fun n σ H' => ∃ G' S' t rows refs o3 o4 o5 o6, σ = [some (.ref x), some (.ref y), some (.ref l), o3, o4, o5, o6] ∧ Wd T G' S' H' ∧ Same G G' ∧ Kp [] S S' ∧ Ses CS CK G' S' y t ∧ S' l = some (l, .lst (refs.map V.ref)) ∧ Paired (IsRow G') refs rows ∧ Und s rows t ∧ t.done.length = n,
    ⟨_, G1, _, s, [], [], _, _, _, _, rfl, W2, e1, kp2, hy2, updS_same, .nil, .nil, rfl⟩, ?_⟩
  rintro n σ H2 ⟨G2, S2, t, rows, refs, o3, o4, o5, o6, rfl, W3, e2, kp3, hy3, hl3, hrows, hund, hn⟩
  have lit := hund.li li
  have hlen := hund.len
  have hdn := li.ok.n
  obtain ⟨dy, rb, db, ub, es, us, g1, _⟩ := hy3.op W3
  rw [lit.kp] at g1
  refine ⟨_, rfl, y, dy, _, rfl, (W3.s _ _ _ g1).1, y, t, T, G2, S2, rfl, W3, hy3, t.done.length, rfl, by omega, _, _, rfl, rfl, _, rfl, ?_⟩
  by_cases hd : t.done = []
  · refine ifF (by rw [hd]; decide) ?_
    have okt := lit.ok
    have htl := okt.l
    refine ⟨_, rfl, y, dy, _, rfl, (W3.s _ _ _ g1).1, by kernel_rfl, y, t, T, G2, S2, rfl, lit.kp, W3, hy3, okt.r, by omega, fun G4 S4 H4 z W4 e4 fr4 hz4 sz => ?_⟩
    have nyz : y ≠ z := hy3.other sz
    have nz : Nw [] S z := kp3.nw sz
    have kp4 := kp3.fr fr4 (by simpa using nz)
    have hy4 : Ses CS CK G4 S4 y t := hy3.fr e4 fr4 (by simpa using nyz)
    have nlz : l ≠ z := fun q => by
      rw [q, sz] at hl3
      cases hl3
    have hl4 : S4 l = some (l, .lst (refs.map V.ref)) := fr4 _ _ _ (by simpa using nlz) hl3
    refine ⟨_, rfl, l, _, rfl, SqL.of (W4.s _ _ _ hl4).1, fun p hp => ?_⟩
    obtain ⟨W5, e5⟩ := W4.new (o := .lst (refs.map V.ref).reverse) hp True.intro
    have hrl := hrows.length
    have hrows5 : Paired (IsRow (upd G4 p (.lst (refs.map V.ref).reverse))) refs.reverse rows.reverse := paired_rev (rows_mono hrows (e4.trans e5))
    refine ⟨p, rfl, ⟨_, SqL.of (W5.same _ _ upd_same)⟩, for_list (xs := (refs.map V.ref).reverse) (fun i σ H' => ∃ G' S' t' o6, σ = [some (.ref x), some (.ref y), some (.ref l), o3, o4, some (.ref z), o6] ∧ Wd T G' S' H' ∧ Same (upd G4 p (.lst (refs.map V.ref).reverse)) G' ∧ Kp [] S S' ∧ Ses CS CK G' S' y t' ∧ Ses CS CK G' S' z t' ∧ Und s (rows.take (rows.length - i)) t')
      ⟨_, S4, t, _, rfl, W5, Same.refl _, kp4, hy4.mono e5 (fun _ _ q => q), hz4.mono e5 (fun _ _ q => q), by simpa using hund⟩ (fun i σ H' _ ⟨_, _, _, _, _, W', eG, _⟩ => SqL.of (W'.same _ _ (eG _ _ upd_same))) (fun i v σ H' hx h' => ?_) (fun σ H' h' => ?_)⟩
    · obtain ⟨G6, S6, t', o6, rfl, W6, e6, kp6, hy6, hz6, hund6⟩ := h'
      rw [← List.map_reverse, List.getElem?_map] at hx
      obtain ⟨rr, hr1, rfl⟩ := Option.map_eq_some_iff.mp hx
      obtain ⟨row, hr2, hr3⟩ := paired_get hrows5 hr1
      have hil : i < rows.length := by
        have := (List.getElem?_eq_some_iff.mp hr2).1
        simpa using this
      rw [List.getElem?_reverse hil] at hr2
      have etk : rows.take (rows.length - i) = rows.take (rows.length - (i + 1)) ++ [row] := by
        have e : rows.length - i = (rows.length - 1 - i) + 1 := by omega
        rw [e, take_next hr2]
        congr 2
        omega
      have li6 := hund6.li li
      have ok6 := li6.ok
      have ek6 := li6.kp
      rw [etk] at hund6
      rcases hund6.inv with ⟨q, _⟩ | ⟨rows', t2, rest, c, eq, hund7, ed, rfl⟩
      · simp at q
      obtain ⟨eq1, eq2⟩ := List.append_inj' eq rfl
      have eq3 : row = t2.row := by simpa using eq2
      subst eq3
      rw [← eq1] at hund7
      have li2 := hund7.li li
      have ok2 := li2.ok
      have hdue := hr3.mono e6
      obtain ⟨dy6, rb6, db6, ub6, es6, us6, g6, _⟩ := hy6.op W6
      rw [ek6] at g6
      refine ⟨_, rfl, y, dy6, _, rfl, (W6.s _ _ _ g6).1, by kernel_rfl, y, _, T, G6, S6, m, rfl, W6, hy6, ok6, by omega, .inr ⟨t2.undone, ⟨c.user, c.steps, t2.row⟩, rfl, fun G7 S7 H7 p7 W7 e7 fr7 hy7 hp7 => ?_⟩⟩
      rw [redid_undid ed] at hy7
      have kp7 := kp6.fr fr7 (by simpa using ny)
      have hz7 := hz6.fr e7 fr7 (by simpa using Ne.symm nyz)
      refine ⟨_, rfl, dRow t2.row, dRow t2.row, dp_row (hp7.mono W7.same), dp_row ((hdue.mono e7).mono W7.same), (fine_row ok2.r).shaped (by omega), (fine_row ok2.r).shaped (by omega), false, congrArg V.bl (ne_same ok2.r), ifF rfl ?_⟩
      obtain ⟨dz, rz, dnz, unz, esz, usz, g7, _⟩ := hz7.op W7
      rw [ek6] at g7
      refine ⟨_, rfl, z, dz, _, rfl, (W7.s _ _ _ g7).1, by kernel_rfl, z, _, T, G7, S7, m, rfl, W7, hz7, ok6, by omega, .inr ⟨t2.undone, ⟨c.user, c.steps, t2.row⟩, rfl, fun G8 S8 H8 p8 W8 e8 fr8 hz8 hp8 => ?_⟩⟩
      rw [redid_undid ed] at hz8
      have kp8 := kp7.fr fr8 (by simpa using nz)
      have hy8 := hy7.fr e8 fr8 (by simpa using nyz)
      refine ⟨_, rfl, dRow t2.row, dRow t2.row, dp_row (hp8.mono W8.same), dp_row ((hdue.mono (e7.trans e8)).mono W8.same), (fine_row ok2.r).shaped (by omega), (fine_row ok2.r).shaped (by omega), false, congrArg V.bl (ne_same ok2.r), ifF rfl ?_⟩
      obtain ⟨dy8, rb8, db8, ub8, es8, us8, g8, _⟩ := hy8.op W8
      rw [li2.kp] at g8
      refine ⟨_, rfl, y, dy8, _, rfl, (W8.s _ _ _ g8).1, y, _, T, G8, S8, rfl, W8, hy8, fun p9 hp9 => ?_⟩
      obtain ⟨W9, e9⟩ := W8.new (o := .lst (t2.row.map V.int)) hp9 True.intro
      refine ⟨_, rfl, dRow t2.row, dRow t2.row, dp_row upd_same, dp_row ((hdue.mono ((e7.trans e8).trans e9)).mono W9.same), (fine_row ok2.r).shaped (by omega), (fine_row ok2.r).shaped (by omega), false, congrArg V.bl (ne_same ok2.r), ifF rfl ⟨_, S8, t2, _, rfl, W9, ((e6.trans e7).trans e8).trans e9, kp8, hy8.mono e9 (fun _ _ q => q), hz8.mono e9 (fun _ _ q => q), hund7⟩⟩
    · obtain ⟨G6, S6, t', o6, rfl, W6, e6, kp6, hy6, hz6, hund6⟩ := h'
      have e0 : rows.length - ((refs.map V.ref).reverse).length = 0 := by
        rw [List.length_reverse, List.length_map]
        omega
      rw [e0, List.take_zero] at hund6
      have et : t' = s := by
        rcases hund6.inv with ⟨_, q⟩ | ⟨rows', t2, rest, c, eq, _⟩
        · exact q
        · simp at eq
      subst et
      have eG := ((e2.trans e4).trans e5).trans e6
      have hx6 := hs.kp eG kp6 (by simp)
      obtain ⟨dy6, rb6, db6, ub6, es6, us6, g6, _⟩ := hy6.op W6
      obtain ⟨dx6, ra6, da6, ua6, dr6, ur6, x6, _⟩ := hx6.op W6
      have en : (!t'.kept && t'.kept) = false := by cases t'.kept <;> rfl
      refine ⟨_, rfl, _, rfl, y, x, rfl, rfl, t'.kept, dy6, _, (W6.s _ _ _ g6).1, .inl ⟨t'.kept, dx6, _, (W6.s _ _ _ x6).1, ?_⟩⟩
      rw [en, if_neg Bool.false_ne_true]
      refine ⟨y, x, t', T, G6, S6, m, rfl, W6, hy6, li.ok, by omega, .inr ⟨t', hx6, li.ok, fun G7 H7 W7 e7 _ => ⟨true, by rw [eqS_refl], ifT rfl ?_⟩⟩⟩
      have hz7 := hz6.mono e7 fun _ _ q => q
      have hx7 := hx6.mono e7 fun _ _ q => q
      obtain ⟨dz7, rz7, dnz7, unz7, esz7, usz7, g7, _⟩ := hz7.op W7
      refine ⟨_, rfl, _, rfl, z, x, rfl, rfl, t'.kept, dz7, _, (W7.s _ _ _ g7).1, .inl ⟨t'.kept, dx6, _, (W7.s _ _ _ x6).1, ?_⟩⟩
      rw [en, if_neg Bool.false_ne_true]
      refine ⟨z, x, t', T, G7, S6, m, rfl, W7, hz7, li.ok, by omega, .inr ⟨t', hx7, li.ok, fun G8 H8 W8 e8 _ => ?_⟩⟩
      rw [eqS_refl]
      exact h G8 S6 H8 W8 ((eG.trans e7).trans e8) kp6
  · refine ifT (decide_eq_true (by have := List.length_pos_iff.mpr hd; omega)) ?_
    obtain ⟨rest, c, ed⟩ := last_of hd
    have okt := lit.ok
    have hsess3 := hs.kp e2 kp3 (by simp)
    obtain ⟨dx3, ra3, da3, ua3, dr3, ur3, x3, _⟩ := hsess3.op W3
    refine ⟨_, fun σ' H' hW => ⟨t.done.length - 1, by have := List.length_pos_iff.mpr hd; omega, hW⟩, ?_⟩
    refine ⟨_, rfl, y, dy, _, rfl, (W3.s _ _ _ g1).1, by kernel_rfl, y, t, T, G2, S2, m, rfl, W3, hy3, okt, by omega, fun G4 H4 pl W4 e4 _ _ hlog => ?_⟩
    obtain ⟨rs, q1, q2⟩ := hlog
    have elog : t.log = logOf rest ++ [(c.user, c.steps)] := by
      unfold Se.log
      rw [ed, List.map_append]
      rfl
    rw [elog] at q2
    obtain ⟨zs, r, rfl, _, bb, q3, q4⟩ := paired_last q2
    refine ⟨1, rfl, pl, _, _, .ref r, rfl, rfl, SqL.of (W4.same _ _ q1), by rw [List.map_append]; exact atI_last _ _, ?_⟩
    refine ⟨r, _, _, .ref bb, rfl, rfl, SqT.of (W4.same _ _ q3), by rfl, ?_⟩
    have hy4 := hy3.mono e4 fun _ _ z => z
    refine ⟨_, rfl, .inl ⟨rfl, _, SqL.of (W4.s _ _ _ hl3).1⟩, ?_⟩
    refine ⟨_, rfl, y, dy, _, rfl, (W4.s _ _ _ g1).1, y, t, T, G4, S2, rfl, W4, hy4, fun pr hpr => ?_⟩
    obtain ⟨W5, e5⟩ := W4.new (o := .lst (t.row.map V.int)) hpr True.intro
    refine ⟨l, _, _, rfl, rfl, (W5.s _ _ _ hl3).1, ?_, ?_⟩
    · rw [List.length_map, hrows.length]
      exact thou (by omega)
    have W6 := W5.wr (o' := .lst (refs.map V.ref ++ [.ref pr])) hl3 True.intro
    have kp6 := kp3.upd (w := l) (u := .lst (refs.map V.ref ++ [.ref pr])) nl
    have hy6 : Ses CS CK _ (updS S2 l l (.lst (refs.map V.ref ++ [.ref pr]))) y t := (hy4.mono e5 fun _ _ z => z).fr (Same.refl _) (Fr.upd (xs := [l]) hl3 (by simp)) (by simpa using nyl)
    have g6 : updS S2 l l (.lst (refs.map V.ref ++ [.ref pr])) y = some (y, .ins (cof CS CK s.kept) dy (sfs rb t.lim db ub)) := by rw [updS_ne nyl]; exact g1
    refine ⟨_, rfl, y, dy, _, rfl, (W6.s _ _ _ g6).1, by kernel_rfl, y, t, rest, c, T, _, _, m, rfl, W6, hy6, okt, by omega, ed, fun G7 S7 H7 ph W7 e7 fr7 hy7 hph => ?_⟩
    have kp7 := kp6.fr fr7 (by simpa using ny)
    have hl7 : S7 l = some (l, .lst (refs.map V.ref ++ [.ref pr])) := fr7 _ _ _ (by simpa using Ne.symm nyl) updS_same
    have lit' := lit.undid ed
    have okt' := lit'.ok
    have hsess7 := hs.kp (((e2.trans e4).trans e5).trans e7) kp7 (by simp)
    obtain ⟨dx7, ra7, da7, ua7, dr7, ur7, x7, _⟩ := hsess7.op W7
    obtain ⟨dy7, rb7, db7, ub7, es7, us7, g7, _⟩ := hy7.op W7
    have ek7 : (t.undid rest c).kept = s.kept := lit'.kp
    rw [ek7] at g7
    refine ⟨_, rfl, _, rfl, y, dy7, _, rfl, (W7.s _ _ _ g7).1, y, _, T, G7, S7, rfl, W7, hy7, fun p2 hp2 => ?_⟩
    obtain ⟨W8, e8⟩ := W7.new (o := .lst ((t.undid rest c).row.map V.int)) hp2 True.intro
    have hph8 : IsRow _ ph c.row := (hph.mono e8).mono W8.same
    refine ⟨dRow c.row, dRow c.row, dp_row hph8, dp_row upd_same, (fine_row okt'.r).shaped (by omega), (fine_row okt'.r).shaped (by omega), false, congrArg V.bl (ne_same okt'.r), ifF rfl ?_⟩
    have hcc := okt.d c (by rw [ed]; simp)
    have hled : led c.row c.steps = some t.row := perf_led (chain_undid lit.ch ed).2
    have e48 := (e5.trans e7).trans e8
    have hcl := hcc.l
    have hcn := hcc.n
    refine ⟨_, rfl, _, rfl, ph, bb, c.row, c.steps, rfl, hph8, (q4.mono e48).mono W8.same, hcc.r, hcc.s, by omega, ?_⟩
    rw [hled]
    refine fun H9 p9 e9 hr9 => ?_
    have W9 := W8.grow e9
    have hpr9 : IsRow H9 pr t.row := W9.same _ _ (e8 _ _ (e7 _ _ upd_same))
    refine ⟨_, rfl, 1, rfl, l, _, _, .ref pr, rfl, rfl, SqL.of (W9.s _ _ _ hl7).1, atI_last _ _, ?_⟩
    refine ⟨dRow t.row, dRow t.row, dp_row hr9, dp_row hpr9, (fine_row okt.r).shaped (by omega), (fine_row okt.r).shaped (by omega), false, congrArg V.bl (ne_same okt.r), ifF rfl ?_⟩
    have hy9 := hy7.mono e8 fun _ _ z => z
    have hx9 := hsess7.mono e8 fun _ _ z => z
    have hdn' := okt'.n
    refine ⟨_, rfl, y, dy7, _, rfl, (W9.s _ _ _ g7).1, y, _, T, _, S7, rfl, W9, hy9, _, rfl, by omega, ?_⟩
    refine ⟨_, rfl, x, dx7, _, rfl, (W9.s _ _ _ x7).1, x, s, T, _, S7, rfl, W9, hx9, _, rfl, by omega, _, rfl, l, _, rfl, .inl (SqL.of (W9.s _ _ _ hl7).1), _, _, rfl, rfl, rfl, _, rfl, ?_⟩
    have hund' : Und s (rows ++ [t.row]) (t.undid rest c) := .snoc hund ed
    have hlen' := hund'.len
    have hrl := hrows.length
    refine ifF ?_ ?_
    · have e : V.int (((t.undid rest c).done.length : Nat) : Int) = V.int (((s.done.length : Nat) : Int) - (((refs.map V.ref ++ [V.ref pr]).length : Nat) : Int)) := by
        congr 1
        rw [List.length_append, List.length_map, List.length_singleton, hrl]
        rw [List.length_append, List.length_singleton] at hlen'
        omega
      rw [e]
      simp
    · refine ⟨_, S7, _, rows ++ [t.row], refs ++ [pr], _, _, _, _, rfl, W9, (e2.trans e4).trans e48, kp7, hy9, ?_, paired_app (R := IsRow _) (e8 _ _ (e7 _ _ upd_same)) (rows_mono hrows (e4.trans e48)), hund', ?_⟩
      · rw [hl7]
        simp
      · rw [List.length_append, List.length_singleton] at hlen'
        omega
end
end Dq
set_option maxHeartbeats 1000000
/-! _law_alone. -/
namespace Dq
open PySem PySem.Spec PyProof.Rows L2
theorem Fine.rep {e n : Nat} {d : PyData} {K : PySem.W.Frag} {H : Hp} {p : Addr} {Q : VK} (h : Fine e n d) (he : e ≤ 50) (hn : n ≤ 16000000) (hd : Dp K H (.ref p) d) (q : Q (.str d.shown) H) : rRepr K [.ref p] H Q :=
  ⟨p, d, rfl, hd, h.sho, h.noD, by have := h.dep; omega, by have := h.len; rw [sizeLine_eq]; omega, q⟩
/-- behind a redo -/
def Se.re (s : Se) : Se := match s.undone.getLast? with
  | none => s
  | some c => s.redid s.undone.dropLast c
def IsRe (G : Hp) (p : Addr) (s : Se) : Prop := match s.undone.getLast? with
  | none => G p = some (.lst [.str "nothing", .non])
  | some c => ∃ a, G p = some (.lst [.str "told", .ref a]) ∧ IsRow G a c.row
def dRe (s : Se) : PyData := match s.undone.getLast? with
  | none => .list [.str "nothing", .none]
  | some c => .list [.str "told", dRow c.row]
theorem IsRe.mono {G G' : Hp} {p : Addr} {s : Se} (h : IsRe G p s) (e : Same G G') : IsRe G' p s := by
  unfold IsRe at h ⊢
  split at h
  · exact e _ _ h
  · exact let ⟨a, h1, h2⟩ := h; ⟨a, e _ _ h1, h2.mono e⟩
theorem dp_re {K : PySem.W.Frag} {H : Hp} {p : Addr} {s : Se} (h : IsRe H p s) : Dp K H (.ref p) (dRe s) := by
  unfold IsRe at h
  unfold dRe
  split at h
  · exact .lst (SqL.of h) (.cons (.str _) (.cons .non .nil))
  · exact let ⟨a, h1, h2⟩ := h; .lst (SqL.of h1) (.cons (.str _) (.cons (dp_row h2) .nil))
theorem fine_re {m : Nat} {s : Se} (h : OkS m s) (hm : m ≤ 200) : Fine 2 20000 (dRe s) := by
  unfold dRe
  split
  · refine ((fine_list (e := 1) (n := 5010) (ds := [_, _]) fun d hd => ?_).up (by show (5010 + 2) * 2 + 4 ≤ 20000; decide))
    simp only [List.mem_cons, List.not_mem_nil, or_false] at hd
    rcases hd with rfl | rfl
    · exact fine_str (by decide +kernel) (by decide +kernel)
    · exact (fine_none.up (by omega)).deep (by omega)
  · rename_i c hc
    have ok := h.e c (List.mem_of_getLast? hc)
    have hl := ok.l
    exact fine_due (o := .ok c.row) ⟨ok.r, by omega⟩
theorem OkS.re {m : Nat} {s : Se} (h : OkS m s) : OkS m s.re := by
  unfold Se.re
  split
  · exact h
  · rename_i c hc
    exact h.redid (by
      obtain ⟨hne, e⟩ := List.getLast?_eq_some_iff.mp hc
      rw [e]
      simp)
theorem re_last {s : Se} {rest : List Call} {c : Call} (h : s.undone = rest ++ [c]) : s.re = s.redid rest c := by
  unfold Se.re
  rw [h]
  simp
theorem re_none {s : Se} (h : s.undone = []) : s.re = s := by
  unfold Se.re
  rw [h]
  rfl
theorem re_kept (s : Se) : s.re.kept = s.kept := by
  unfold Se.re
  split <;> rfl
theorem re_lim (s : Se) : s.re.lim = s.lim := by
  unfold Se.re
  split <;> rfl
theorem re_len (s : Se) : s.done.length ≤ s.re.done.length := by
  unfold Se.re
  split
  · exact Nat.le_refl _
  · simp [Se.redid]
section
variable {P : Program} {w : World} {K : PySem.W.Frag} {mg : Str → Option Value} {base : Heap} {f CF CN CS CK : Addr}
/-- repr(_law_state(a name)) -/
theorem state_repr {T : List (Addr × Str)} {G H : Hp} {S : Own} {x : Addr} {s : Se} {m i : Nat} {σ : L2.St} {Q : VK} (W : Wd T G S H) (hs : Ses CS CK G S x s) (ok : OkS m s) (hm : m ≤ 200) (hx : σ[i]? = some (some (.ref x)))
    (h : ∀ G' H', Wd T G' S H' → Same G G' → Q (.str (dState s).shown) H') : tCB (rRepr K) (tCons (tCallR (spState CS CK) E0 (tCons (tVar i) tNil)) tNil) σ H Q :=
  ⟨_, hx, x, s, T, G, S, m, rfl, W, hs, ok, hm, fun G' H' p W' e' hst => (fine_state ok hm).rep (by omega) (by omega) (dp_state (hst.mono W'.same)) (h G' H' W' e')⟩
/-- _law_told(lambda: a name.redo()) -/
theorem told_redo {T : List (Addr × Str)} {G H : Hp} {S : Own} {x : Addr} {s : Se} {m i : Nat} {b : Bool} {σ : L2.St} {Q : VK} (W : Wd T G S H) (hs : Ses CS CK G S x s) (ok : OkS m s) (hm : m ≤ 200) (hk : s.kept = b) (hx : σ[i]? = some (some (.ref x)))
    (h : ∀ G' S' H' p, Wd T G' S' H' → Same G G' → Fr [x] S S' → Ses CS CK G' S' x s.re → IsRe G' p s → Q (.ref p) H') : tLamS T (TTold CF CN) (fun E => tMethR (cof CS CK b) "redo" (spRedo CS CK CN) E (tVar i) tNil) σ H Q := by
  refine ⟨W.t, fun H1 x1 t1 => ?_⟩
  have W1 := W.tab x1 t1
  intro E1 Q1 hv hf hnn
  obtain ⟨dx, ra, da, ua, dr, ur, h1, _⟩ := hs.op W1
  rw [hk] at h1
  refine ⟨_, hx, x, dx, _, rfl, (W1.s _ _ _ h1).1, by kernel_rfl, x, s, T, G, S, m, rfl, W1, hs, ok, hm, ?_⟩
  by_cases hu : s.undone = []
  · refine .inl ⟨hu, fun d H' e => hnn d H' fun p hp => ?_⟩
    obtain ⟨W2, e2⟩ := (W1.grow e).new (o := .lst [.str "nothing", .non]) hp True.intro
    refine h _ S _ p W2 e2 Fr.refl (by rw [re_none hu]; exact hs.mono e2 (fun _ _ z => z)) ?_
    unfold IsRe
    rw [hu]
    exact upd_same
  · obtain ⟨rest, c, eu⟩ := last_of hu
    refine .inr ⟨rest, c, eu, fun G' S' H' q W' e' fr' hs' hq => hv (.ref q) H' fun p hp => ?_⟩
    obtain ⟨W2, e2⟩ := W'.new (o := .lst [.str "told", .ref q]) hp True.intro
    refine h _ S' _ p W2 (e'.trans e2) fr' (by rw [re_last eu]; exact hs'.mono e2 (fun _ _ z => z)) ?_
    unfold IsRe
    rw [eu]
    simp only [List.getLast?_append, List.getLast?_singleton, Option.some_or]
    exact ⟨q, upd_same, hq.mono e2⟩
def spAlone (CS CK : Addr) (T : List (Addr × Str)) : Sp := fun vs H Q _ => ∃ (x y : Addr) (k : Bool) (r0 : List Int) (s : Se) (G : Hp) (S : Own) (m : Nat), vs = [.ref x, .ref y] ∧ Wd T G S H ∧ Ses CS CK G S x s ∧ Ses CS CK G S y s ∧ x ≠ y ∧ LI k r0 m s ∧ m ≤ 150 ∧
  ∀ G' S' H', Wd T G' S' H' → Same G G' → Kp [x, y] S S' → Ses CS CK G' S' x s → Q (.bl true) H'
abbrev nAlone : List Str := ["_law_session", "_law_twin", "_law_kept", "_law_one", "_law_before"]
theorem scAlone : FnScope nAlone ["_law_session", "_law_twin"] (defScope sAlone) := ⟨rfl, rfl, rfl, by decide +kernel, rfl, by decide +kernel, by decide +kernel⟩
/-- put left 7 -/
abbrev put7 : Stp := ⟨true, true, 7⟩
theorem put7_ok {k : Bool} {lim : Nat} {i : Nat} {r : List Int} (h : r.length < lim) : perf k lim i r [put7] = .ok (7 :: r) := by
  rw [perf_cons, after_free h]
  simp [stepped, perf_nil]
theorem alone_tail {T : List (Addr × Str)} {cdv : Value} {A : Around} {outer : List Env} {s0 : Shared} {H0 : Hp} {E : XK} (N : Nm mg) (cS : Glo P w K mg base CX0 3 "_law_state" (spState CS CK)) (cN : ∀ b, Lng P w K mg base 1 (cof CS CK b) (spLen CS CK))
    (cU : ∀ b, Mtd P w K mg base CX0 1 (cof CS CK b) "undo" (spUndo CS CK)) (cD : ∀ b, Mtd P w K mg base (L2.CX P w) 5 (cof CS CK b) "do" (spDo CS CK CF)) (cQ : EqS P w K mg base 2 CS CK (spEq CS CK))
    (hgd : (A.deeper (envOfC "_law_alone" (defScope sAlone) s0.heap.objs.size f cdv)).guards = some []) (hr : Room 9 (A.deeper (envOfC "_law_alone" (defScope sAlone) s0.heap.objs.size f cdv))) (b : Bool) :
    ∃ t, PSs (cxOf CX0 P w K mg base nAlone "_law_alone" (defScope sAlone) f cdv A outer s0 H0 E).nox ((defBody sAlone).drop 6) t ∧
      ∀ (De : Ends) (x y : Addr) (s t1 : Se) (G : Hp) (S : Own) (m : Nat) (o3 o4 : Option V) (H : Hp), Wd T G S H → Ses CS CK G S x s → Ses CS CK G S y t1 → x ≠ y → s.kept = b → t1.kept = b → OkS m s → OkS m t1 → m ≤ 150 → t1.lim = 200 → s.done.length ≤ t1.done.length →
        (∀ G' S' H', Wd T G' S' H' → Same G G' → Fr [y] S S' → Ses CS CK G' S' x s → De.rt (.bl true) H') →
        t De [some (.ref x), some (.ref y), some (.str (dState s).shown), o3, o4] H := by
  refine ⟨_, pss_cons (ps_if (pt_cmpR op_ne (pe_callB (call_repr hgd hr) (by rfl) N.repr (by decide +kernel) (pa_cons (pe_g cS hr pass0 (pa_cons (pv 0) pa_nil)) pa_nil)) (pv 2) (nomark _)) (pss_one (ps_ret pe_bl)) pss_nil)
    (pss_cons (ps_expr (pe_m (pv 1) (cD b) hr passL (pa_cons pe_str (pa_cons (pe_tup (pa_cons pe_str (pa_cons pe_str (pa_cons pe_int pa_nil)))) pa_nil))))
    (pss_cons (ps_if (PW.pt (pw_or (pt_cmpR (op_eqS cQ hr) (pv 1) (pv 0) (nomark _)) (pw_or1 (pt_cmpR op_ne (pe_callB (call_repr hgd hr) (by rfl) N.repr (by decide +kernel) (pa_cons (pe_g cS hr pass0 (pa_cons (pv 0) pa_nil)) pa_nil)) (pv 2) (nomark _))))) (pss_one (ps_ret pe_bl)) pss_nil)
    (pss_cons (ps_while PassesOwn.never (pt_cmpR op_gt (pe_callB (call_lenO (k := 8) (cN b) hr) (by rfl) N.len (by decide +kernel) (pa_cons (pv 1) pa_nil)) pe_int (nomark _)) (pss_one (ps_expr (pe_m0 (pv 1) (cU b) hr pass0))))
    (pss_one (ps_ret (pe_cmpR op_eq (pe_callB (call_repr hgd hr) (by rfl) N.repr (by decide +kernel) (pa_cons (pe_g cS hr pass0 (pa_cons (pv 0) pa_nil)) pa_nil)) (pv 2) (nomark _))))))), ?_⟩
  intro De x y s t1 G S m o3 o4 H W hx hy nxy hk hk1 ok ok1 hm hlim hlen h
  refine state_repr W hx ok (by omega) rfl fun G1 H1 W1 e1 => ⟨_, rfl, rfl, _, rfl, ifF (by simp) ?_⟩
  have hy1 := hy.mono e1 fun _ _ z => z
  have hx1 := hx.mono e1 fun _ _ z => z
  obtain ⟨dy, rb, db, ub, es, us, g1, _⟩ := hy1.op W1
  rw [hk1] at g1
  refine ⟨_, rfl, y, dy, _, rfl, (W1.s _ _ _ g1).1, by kernel_rfl, by show 3 ≤ sizeLine; decide, fun tp htp => ?_⟩
  obtain ⟨W2, e2⟩ := W1.new (o := .tup (stpV put7)) htp True.intro
  have hl1 := ok1.l
  have hpf : perf t1.kept t1.lim 0 t1.row [put7] = .ok (7 :: t1.row) := put7_ok (by rw [hlim]; omega)
  refine ⟨y, "bob", [tp], [put7], t1, T, _, S, m, rfl, W2, hy1.mono e2 (fun _ _ z => z), ok1, by omega, .inr rfl, .cons upd_same .nil, (fun t ht => by rw [List.mem_singleton.mp ht]; exact ⟨by decide, by decide⟩), by decide, ?_⟩
  rw [hpf]
  intro G3 S3 H3 p3 W3 e3 fr3 hy3 _
  have hx3 := (hx1.mono e2 fun _ _ z => z).fr e3 fr3 (by simpa using nxy)
  have ok3 : OkS (m + 3) (t1.did "bob" [put7] (7 :: t1.row)) := ok1.did (.inr rfl) (fun t ht => by rw [List.mem_singleton.mp ht]; exact ⟨by decide, by decide⟩) (by decide) (fun i hi => by
    rcases List.mem_cons.mp hi with z | z
    · rw [z]; exact ⟨by decide, by decide⟩
    · exact ok1.r i z) (by simp; omega)
  obtain ⟨dy3, rb3, db3, ub3, es3, us3, g3, _⟩ := hy3.op W3
  obtain ⟨dx3, ra3, da3, ua3, dr3, ur3, k3, _⟩ := hx3.op W3
  have hk3 : (t1.did "bob" [put7] (7 :: t1.row)).kept = b := hk1
  rw [hk3] at g3
  rw [hk] at k3
  have en : (!b && b) = false := by cases b <;> rfl
  refine ⟨_, rfl, _, rfl, y, x, rfl, rfl, b, dy3, _, (W3.s _ _ _ g3).1, .inl ⟨b, dx3, _, (W3.s _ _ _ k3).1, ?_⟩⟩
  rw [en, if_neg Bool.false_ne_true]
  refine ⟨y, x, _, T, G3, S3, m + 3, rfl, W3, hy3, ok3, by omega, .inr ⟨s, hx3, ok.up (by omega), fun G4 H4 W4 e4 _ => ⟨_, rfl, ?_⟩⟩⟩
  have hne : eqS (t1.did "bob" [put7] (7 :: t1.row)) s = false := by
    have hlog : (t1.did "bob" [put7] (7 :: t1.row)).log ≠ s.log := fun z => by
      have := congrArg List.length z
      simp [Se.log, Se.did] at this
      omega
    unfold eqS
    rw [decide_eq_false hlog]
    simp
  rw [hne]
  refine ifF rfl ?_
  refine state_repr W4 (hx3.mono e4 fun _ _ z => z) ok (by omega) rfl fun G5 H5 W5 e5 => ⟨_, rfl, rfl, _, rfl, ifF (by simp) ?_⟩
  have e15 := (e1.trans e2).trans ((e3.trans e4).trans e5)
  refine ⟨fun n σ H' => ∃ G' S' t, σ = [some (.ref x), some (.ref y), some (.str (dState s).shown), o3, o4] ∧ Wd T G' S' H' ∧ Same G G' ∧ Fr [y] S S' ∧ Ses CS CK G' S' x s ∧ Ses CS CK G' S' y t ∧ OkS (m + 3) t ∧ t.kept = b ∧ t.done.length = n,
    ⟨_, G5, S3, _, rfl, W5, e15, fr3, hx3.mono (e4.trans e5) (fun _ _ z => z), hy3.mono (e4.trans e5) (fun _ _ z => z), ok3, hk3, rfl⟩, ?_⟩
  rintro n σ H6 ⟨G6, S6, t, rfl, W6, e6, fr6, hx6, hy6, ok6, hk6, hn⟩
  obtain ⟨dy6, rb6, db6, ub6, es6, us6, g6, _⟩ := hy6.op W6
  rw [hk6] at g6
  have hn6 := ok6.n
  refine ⟨_, rfl, y, dy6, _, rfl, (W6.s _ _ _ g6).1, y, t, T, G6, S6, rfl, W6, hy6, t.done.length, rfl, by omega, _, _, rfl, rfl, _, rfl, ?_⟩
  by_cases hd : t.done = []
  · refine ifF (by rw [hd]; decide) ?_
    refine state_repr W6 hx6 ok (by omega) rfl fun G7 H7 W7 e7 => ⟨_, rfl, rfl, ?_⟩
    show De.rt (.bl (decide (V.str (dState s).shown = V.str (dState s).shown))) H7
    rw [decide_eq_true rfl]
    exact h G7 S6 H7 W7 (e6.trans e7) fr6 (hx6.mono e7 fun _ _ z => z)
  · refine ifT (decide_eq_true (by have := List.length_pos_iff.mpr hd; omega)) ?_
    obtain ⟨rest, c, ed⟩ := last_of hd
    refine ⟨_, fun σ' H' hW => ⟨t.done.length - 1, by have := List.length_pos_iff.mpr hd; omega, hW⟩, ?_⟩
    refine ⟨_, rfl, y, dy6, _, rfl, (W6.s _ _ _ g6).1, by kernel_rfl, y, t, rest, c, T, G6, S6, m + 3, rfl, W6, hy6, ok6, by omega, ed, fun G7 S7 H7 p7 W7 e7 fr7 hy7 _ => ?_⟩
    exact ⟨G7, S7, _, rfl, W7, e6.trans e7, fr6.trans fr7, hx6.fr e7 fr7 (by simpa using nxy), hy7, ok6.undid ed, hk6, by rw [ed]; simp [Se.undid]⟩
end
end Dq
set_option maxHeartbeats 1000000
/-! _law_alone. -/
namespace Dq
open PySem PySem.Spec PyProof.Rows L2
section
variable {P : Program} {w : World} {K : PySem.W.Frag} {mg : Str → Option Value} {base : Heap} {f CF CN CS CK : Addr}
theorem f_alone {T : List (Addr × Str)} (N : Nm mg) (D : ToldD K mg) (TT : ToldTxt K mg CF CN) (TF : TabF K mg base T "_law_alone" f) (cB : Glo P w K mg base CX0 9 "_law_led_back" (spLedBack CS CK T)) (cS : Glo P w K mg base CX0 3 "_law_state" (spState CS CK)) (cN : ∀ b, Lng P w K mg base 1 (cof CS CK b) (spLen CS CK))
    (cU : ∀ b, Mtd P w K mg base CX0 1 (cof CS CK b) "undo" (spUndo CS CK)) (cO : ∀ b, Mtd P w K mg base (L2.CX P w) 3 (cof CS CK b) "redo" (spRedo CS CK CN)) (cD : ∀ b, Mtd P w K mg base (L2.CX P w) 5 (cof CS CK b) "do" (spDo CS CK CF)) (cQ : EqS P w K mg base 2 CS CK (spEq CS CK))
    (F : IsFn K "_law_alone" "_law_alone" sAlone f) : FnG P w K mg base CX0 10 f (spAlone CS CK T) := by
  refine fnG (k := 9) F scAlone (fun _ _ _ _ _ _ us hl => match us, hl with | [_, _], _ => rfl) (fun _ _ _ _ ⟨_, _, _, _, _, _, _, _, h, _⟩ => by rw [h]; rfl) fun cdv A outer s0 H vs Q E hgd hr h lk => ?_
  obtain ⟨x, y, b, r0, s, G, S, m, rfl, W, hx, hy, nxy, li, hm, h⟩ := h
  obtain ⟨oc, od, kV, doc, pm, an, ct, osl, lk⟩ := lk
  obtain ⟨c, Pt, hcd, TB, hT1, hT2⟩ := TF.ex
  have hcode : cdv = .ref c := hcd _ _ _ _ lk
  obtain rfl := li.kp
  have ok := li.ok
  obtain ⟨tt, ht, tail⟩ := alone_tail (T := T) (f := f) (cdv := cdv) (A := A) (outer := outer) (s0 := s0) (H0 := H) (E := E) N cS cN cU cD cQ hgd hr s.kept
  refine ⟨_, pss_cons (ps_if (pt_not (pt_val (pe_g cB hr pass0 (pa_cons (pv 0) pa_nil)))) (pss_one (ps_ret pe_bl)) pss_nil)
    (pss_cons (ps_if (PW.pt (pw_or (pt_cmpR (op_neS (k := 8) cQ hr) (pv 1) (pv 0) (nomark _)) (pw_or1 (pt_cmpR (op_neD hr.units) (pe_g cS hr pass0 (pa_cons (pv 1) pa_nil)) (pe_g cS hr pass0 (pa_cons (pv 0) pa_nil)) (nomark _))))) (pss_one (ps_ret pe_bl)) pss_nil)
    (pss_cons (ps_set (i := 2) scAlone.nd rfl (Or.inl rfl) (pe_callB (call_repr hgd hr) (by rfl) N.repr (by decide +kernel) (pa_cons (pe_g cS hr pass0 (pa_cons (pv 0) pa_nil)) pa_nil)))
    (pss_cons (ps_par (i := 3) (j := 4) rfl scAlone.nd rfl rfl (by decide) rfl rfl
      (pa_cons (pe_toldC (k := 3) (t := fun E => tMethR (cof CS CK s.kept) "redo" (spRedo CS CK CN) E (tVar 1) tNil) D TT TB hcode hT1 hT2 (hr.mono (by decide)) (LamX.lamS_by (by decide +kernel)) (fun A outer s H E f c' hr2 => pe_m0 (pv 1) (cO _) hr2 (passes_call (takes_of rfl rfl rfl rfl) (fun _ _ _ _ z => z))))
        (pa_cons (pe_callB (call_lenO (k := 8) (cN s.kept) hr) (by rfl) N.len (by decide +kernel) (pa_cons (pv 0) pa_nil)) pa_nil)) (by rfl))
    (pss_cons (ps_if (PW.pt (pw_or (pt_cmpR op_ne (pe_callB (call_repr hgd hr) (by rfl) N.repr (by decide +kernel) (pa_cons (pe_g cS hr pass0 (pa_cons (pv 0) pa_nil)) pa_nil)) (pv 2) (nomark _))
      (pw_or (pt_cmpR (op_neD hr.units) (pv 3) (pe_toldC (k := 3) (t := fun E => tMethR (cof CS CK s.kept) "redo" (spRedo CS CK CN) E (tVar 0) tNil) D TT TB hcode hT1 hT2 (hr.mono (by decide)) (LamX.lamS_by (by decide +kernel)) (fun A outer s H E f c' hr2 => pe_m0 (pv 0) (cO _) hr2 (passes_call (takes_of rfl rfl rfl rfl) (fun _ _ _ _ z => z)))) (nomark _))
      (pw_or1 (pt_cmpR (op_neS (k := 8) cQ hr) (pv 1) (pv 0) (nomark _)))))) (pss_one (ps_ret pe_bl)) pss_nil)
    (pss_cons (ps_if (pt_cmpR op_gt (pe_callB (call_lenO (k := 8) (cN s.kept) hr) (by rfl) N.len (by decide +kernel) (pa_cons (pv 0) pa_nil)) (pv 4) (nomark _)) (pss_one (ps_expr (pe_m0 (pv 0) (cU s.kept) hr pass0))) pss_nil) ht))))), ?_⟩
  refine ⟨_, rfl, x, s.kept, r0, s, G, S, m, rfl, W, hx, li, by omega, fun G1 S1 H1 W1 e1 kp1 => ⟨true, rfl, ifF rfl ?_⟩⟩
  have hx1 := hx.kp e1 kp1 (by simp)
  have hy1 := hy.kp e1 kp1 (by simp)
  have en : (!s.kept && s.kept) = false := by cases s.kept <;> rfl
  obtain ⟨dx1, ra1, da1, ua1, dr1, ur1, x1, _⟩ := hx1.op W1
  obtain ⟨dy1, rb1, db1, ub1, es1, us1, y1, _⟩ := hy1.op W1
  refine ⟨_, rfl, _, rfl, y, x, rfl, rfl, s.kept, dy1, _, dx1, _, (W1.s _ _ _ y1).1, (W1.s _ _ _ x1).1, ?_⟩
  refine ⟨y, x, s, T, G1, S1, m, rfl, W1, hy1, ok, by omega, .inr ⟨s, hx1, ok, fun G2 H2 W2 e2 _ => ⟨eqS s s, rfl, false, by rw [eqS_refl]; rfl, ifF rfl ?_⟩⟩⟩
  have hx2 := hx1.mono e2 fun _ _ z => z
  have hy2 := hy1.mono e2 fun _ _ z => z
  refine ⟨_, rfl, y, s, T, G2, S1, m, rfl, W2, hy2, ok, by omega, fun G3 H3 p3 W3 e3 st3 => ?_⟩
  refine ⟨_, rfl, x, s, T, G3, S1, m, rfl, W3, hx2.mono e3 (fun _ _ z => z), ok, by omega, fun G4 H4 p4 W4 e4 st4 => ?_⟩
  have fst := fine_state ok (by omega)
  refine ⟨dState s, dState s, dp_state ((st3.mono e4).mono W4.same), dp_state (st4.mono W4.same), fst.shaped (by omega), fst.shaped (by omega), false, by rw [(fst.eqv fst).mpr rfl]; rfl, ifF rfl ?_⟩
  have e14 := (e1.trans e2).trans (e3.trans e4)
  have hx4 := hx2.mono (e3.trans e4) fun _ _ z => z
  have hy4 := hy2.mono (e3.trans e4) fun _ _ z => z
  refine state_repr W4 hx4 ok (by omega) rfl fun G5 H5 W5 e5 => ?_
  have hx5 := hx4.mono e5 fun _ _ z => z
  have hy5 := hy4.mono e5 fun _ _ z => z
  refine told_redo W5 hy5 ok (by omega) rfl rfl fun G6 S6 H6 p6 W6 e6 fr6 hy6 re6 => ?_
  have hx6 := hx5.fr e6 fr6 (by simpa using nxy)
  obtain ⟨dx6, ra6, da6, ua6, dr6, ur6, x6, _⟩ := hx6.op W6
  have hn6 := ok.n
  refine ⟨_, rfl, x, dx6, _, rfl, (W6.s _ _ _ x6).1, x, s, T, G6, S6, rfl, W6, hx6, s.done.length, rfl, by omega, _, _, rfl, ?_⟩
  refine state_repr W6 hx6 ok (by omega) rfl fun G7 H7 W7 e7 => ⟨_, rfl, rfl, _, rfl, ifF (by simp) ?_⟩
  have hx7 := hx6.mono e7 fun _ _ z => z
  have hy7 := hy6.mono e7 fun _ _ z => z
  refine ⟨_, rfl, told_redo W7 hx7 ok (by omega) rfl rfl fun G8 S8 H8 p8 W8 e8 fr8 hx8 re8 => ?_⟩
  have fre := fine_re ok (by omega)
  refine ⟨dRe s, dRe s, dp_re ((re6.mono (e7.trans e8)).mono W8.same), dp_re (re8.mono W8.same), fre.shaped (by omega), fre.shaped (by omega), false, by rw [(fre.eqv fre).mpr rfl]; rfl, ifF rfl ?_⟩
  have hy8 := hy7.fr e8 fr8 (by simpa using Ne.symm nxy)
  have okr := ok.re
  obtain ⟨dx8, ra8, da8, ua8, dr8, ur8, x8, _⟩ := hx8.op W8
  obtain ⟨dy8, rb8, db8, ub8, es8, us8, y8, _⟩ := hy8.op W8
  rw [re_kept] at x8 y8
  refine ⟨_, rfl, _, rfl, y, x, rfl, rfl, s.kept, dy8, _, dx8, _, (W8.s _ _ _ y8).1, (W8.s _ _ _ x8).1, ?_⟩
  refine ⟨y, x, s.re, T, G8, S8, m, rfl, W8, hy8, okr, by omega, .inr ⟨s.re, hx8, okr, fun G9 H9 W9 e9 _ => ⟨eqS s.re s.re, rfl, false, by rw [eqS_refl]; rfl, ifF rfl ?_⟩⟩⟩
  have hx9 := hx8.mono e9 fun _ _ z => z
  have hy9 := hy8.mono e9 fun _ _ z => z
  have e59 := ((e14.trans e5).trans (e6.trans e7)).trans (e8.trans e9)
  have kp9 : Kp [x, y] S S8 := ((kp1.mono (by simp)).trans (fr6.kp.mono (by simp))).trans (fr8.kp.mono (by simp))
  have hn8 := okr.n
  have fin : ∀ G' S' H', Wd T G' S' H' → Same G9 G' → Fr [x] S8 S' → Ses CS CK G' S' x s → Ses CS CK G' S' y s.re → tt { nx := fun _ H' => Q .non H', rt := Q } [some (.ref x), some (.ref y), some (.str (dState s).shown), some (.ref p6), some (.int s.done.length)] H' := fun G' S' H' W' e' fr' hx' hy' =>
    tail _ x y s s.re G' S' m _ _ H' W' hx' hy' nxy rfl (re_kept s) ok okr hm (by rw [re_lim]; exact li.lim) (re_len s) fun G2 S2 H2 W2 e2 fr2 hx2 => h G2 S2 H2 W2 ((e59.trans e').trans e2) ((kp9.trans (fr'.kp.mono (by simp))).trans (fr2.kp.mono (by simp))) hx2
  refine ⟨_, rfl, x, dx8, _, rfl, (W9.s _ _ _ x8).1, x, s.re, T, G9, S8, rfl, W9, hx9, _, rfl, by omega, _, rfl, _, _, rfl, rfl, _, rfl, ?_⟩
  by_cases hu : s.undone = []
  · refine ifF (by rw [re_none hu]; exact decide_eq_false (by omega)) (fin G9 S8 H9 W9 (Same.refl _) Fr.refl ?_ hy9)
    rw [re_none hu] at hx9
    exact hx9
  · obtain ⟨rest, c1, eu⟩ := last_of hu
    have ere := re_last eu
    refine ifT (decide_eq_true (by rw [ere]; simp [Se.redid]; omega)) ?_
    refine ⟨_, rfl, x, dx8, _, rfl, (W9.s _ _ _ x8).1, by kernel_rfl, x, s.re, s.done, ⟨c1.user, c1.steps, s.row⟩, T, G9, S8, m, rfl, W9, hx9, okr, by omega, by rw [ere]; rfl, fun G' S' H' p' W' e' fr' hx' _ => ?_⟩
    rw [ere, undid_redid eu] at hx'
    exact fin G' S' H' W' e' fr' hx' (hy9.fr e' fr' (by simpa using Ne.symm nxy))
end
end Dq
set_option maxHeartbeats 1000000
/-! _law_unlike. -/
namespace Dq
open PySem PySem.Spec PyProof.Rows L2
theorem mk_ses {CS CK a : Addr} {T : List (Addr × Str)} {G H : Hp} {S : Own} {b : Bool} {r : List Int} {Q : VK} (W : Wd T G S H) (ha : IsRow H a r) (hm : Sm r) (hl : r.length ≤ 200)
    (h : ∀ G' S' H' x, Wd T G' S' H' → Same G G' → Fr [] S S' → Ses CS CK G' S' x (mkSe b r) → S x = none → Q (.ref x) H') :
    ∀ x dx, H x = none → H dx = none → dx ≠ x → spInit CS CK (.ref x :: [.ref a]) (upd (upd H dx (.own x)) x (.ins (cof CS CK b) dx [])) (fun v H2 => v = .non ∧ Q (.ref x) H2) E0 := by
  intro x dx hx hd ne
  obtain ⟨W1, gx, sx, e1⟩ := W.inst (C := cof CS CK b) hx hd ne
  exact ⟨x, a, dx, b, r, T, G, S, rfl, W1, gx, sx, upd_same, ha.mono e1, hm, hl, fun G' S' H' W' eG fr hy => ⟨rfl, h G' S' H' x W' eG fr hy sx⟩⟩
theorem mk_at {C CS CK a x dx : Addr} {T : List (Addr × Str)} {G H : Hp} {S : Own} {b : Bool} {r : List Int} {Q : VK} (hC : C = cof CS CK b) (W : Wd T G S H) (hx : H x = none) (hd : H dx = none) (ne : dx ≠ x) (ha : IsRow H a r) (hm : Sm r) (hl : r.length ≤ 200)
    (h : ∀ G' S' H', Wd T G' S' H' → Same G G' → Fr [] S S' → Ses CS CK G' S' x (mkSe b r) → S x = none → Q .non H') :
    spInit CS CK (.ref x :: [.ref a]) (upd (upd H dx (.own x)) x (.ins C dx [])) Q E0 := by
  subst hC
  obtain ⟨W1, gx, sx, e1⟩ := W.inst (C := cof CS CK b) hx hd ne
  exact ⟨x, a, dx, b, r, T, G, S, rfl, W1, gx, sx, upd_same, ha.mono e1, hm, hl, fun G' S' H' W' eG fr hy => h G' S' H' W' eG fr hy sx⟩
theorem row_app {G : Hp} {q : Addr} {r : List Int} {j : Int} : IsRow (upd G q (.lst (r.map V.int ++ [.int j]))) q (r ++ [j]) := by
  show upd G q _ q = _
  rw [upd_same]
  simp
theorem len_app {r : List Int} {j : Int} (h : r.length ≤ 100) : (r.map V.int).length + [V.int j].length ≤ sizeLine := by
  rw [List.length_map, sizeLine_eq]
  show r.length + 1 ≤ _
  omega
theorem mk_ok {b : Bool} {r : List Int} {m : Nat} (h : Sm r) (hl : r.length ≤ m) : OkS m (mkSe b r) := ⟨h, hl, Nat.le_refl _, fun c hc => (by cases hc), fun c hc => (by cases hc), Nat.zero_le _⟩
abbrev st2p : Stp := ⟨true, true, 2⟩
abbrev st2t : Stp := ⟨false, true, 2⟩
theorem perf2 {k : Bool} {r : List Int} (hl : r.length < 100) (hk : k = true → r ≠ []) : perf k 200 0 r [st2p, st2t] = .ok r := by
  rw [perf_cons, after_free (by omega)]
  have e : stepped r st2p = some (2 :: r) := by simp [stepped]
  rw [e]
  have e2 : stepped (2 :: r) st2t = some r := by simp [stepped]
  simp only [reduceCtorEq, decide_false, Bool.and_false, Bool.false_eq_true, if_false]
  rw [perf_cons, after_free (by simp; omega), e2]
  cases k with
  | false => rfl
  | true => simp [hk rfl, perf_nil]
theorem eqS_comm (s t : Se) : eqS s t = eqS t s := by
  unfold eqS
  rw [decide_eq_decide.mpr ⟨Eq.symm, Eq.symm⟩, decide_eq_decide.mpr (show s.row = t.row ↔ t.row = s.row from ⟨Eq.symm, Eq.symm⟩), decide_eq_decide.mpr (show s.log = t.log ↔ t.log = s.log from ⟨Eq.symm, Eq.symm⟩), decide_eq_decide.mpr (show s.lim = t.lim ↔ t.lim = s.lim from ⟨Eq.symm, Eq.symm⟩)]
theorem eq_ses {CS CK x y : Addr} {T : List (Addr × Str)} {G H : Hp} {S : Own} {s t : Se} {m : Nat} {Q : VK} (W : Wd T G S H) (hx : Ses CS CK G S x s) (hy : Ses CS CK G S y t) (ok : OkS m s) (ok' : OkS m t) (hm : m ≤ 200)
    (h : ∀ G' H', Wd T G' S H' → Same G G' → Q (.bl (eqS s t)) H') : rEqS CS CK (spEq CS CK) (.ref x) (.ref y) H Q := by
  obtain ⟨dx, ra, da, ua, dr, ur, x1, _⟩ := hx.op W
  obtain ⟨dy, rb, db, ub, es, us, y1, _⟩ := hy.op W
  refine ⟨x, y, rfl, rfl, s.kept, dx, _, (W.s _ _ _ x1).1, .inl ⟨t.kept, dy, _, (W.s _ _ _ y1).1, ?_⟩⟩
  by_cases e : (!s.kept && t.kept) = true
  · rw [if_pos e]
    exact ⟨y, x, t, T, G, S, m, rfl, W, hy, ok', hm, .inr ⟨s, hx, ok, fun G' H' W' e' _ => by rw [eqS_comm]; exact h G' H' W' e'⟩⟩
  · rw [if_neg e]
    exact ⟨x, y, s, T, G, S, m, rfl, W, hx, ok, hm, .inr ⟨t, hy, ok', fun G' H' W' e' _ => h G' H' W' e'⟩⟩
theorem ne_ses {CS CK x y : Addr} {T : List (Addr × Str)} {G H : Hp} {S : Own} {s t : Se} {m : Nat} {Q : VK} (W : Wd T G S H) (hx : Ses CS CK G S x s) (hy : Ses CS CK G S y t) (ek : s.kept = t.kept) (ok : OkS m s) (ok' : OkS m t) (hm : m ≤ 200)
    (h : ∀ G' H', Wd T G' S H' → Same G G' → Q (.bl (!eqS s t)) H') : rNeS CS CK (spEq CS CK) (.ref x) (.ref y) H Q := by
  obtain ⟨dx, ra, da, ua, dr, ur, x1, _⟩ := hx.op W
  obtain ⟨dy, rb, db, ub, es, us, y1, _⟩ := hy.op W
  rw [← ek] at y1
  exact ⟨x, y, rfl, rfl, s.kept, dx, _, dy, _, (W.s _ _ _ x1).1, (W.s _ _ _ y1).1, x, y, s, T, G, S, m, rfl, W, hx, ok, hm, .inr ⟨t, hy, ok', fun G' H' W' e' _ => ⟨_, rfl, h G' H' W' e'⟩⟩⟩
section
variable {P : Program} {w : World} {K : PySem.W.Frag} {mg : Str → Option Value} {base : Heap} {f CF CN CS CK : Addr}
def spUnlike (T : List (Addr × Str)) : Sp := fun vs H Q _ => ∃ (a : Addr) (r : List Int) (G : Hp) (S : Own), vs = [.ref a] ∧ Wd T G S H ∧ IsRow G a r ∧ Sm r ∧ r.length ≤ 50 ∧ ∀ G' S' H', Wd T G' S' H' → Same G G' → Kp [] S S' → Q (.bl true) H'
theorem scUnlike : FnScope ["_law_here", "_law_one", "_law_two", "_law_three"] ["_law_here"] (defScope sUnlike) := ⟨rfl, rfl, rfl, by decide +kernel, rfl, by decide +kernel, by decide +kernel⟩
theorem f_unlike {T : List (Addr × Str)} (N : Nm mg) (mS : mg "Session" = some (.ref CS)) (cM : Mak P w K mg base CX0 5 CS (spInit CS CK)) (cR : ∀ b, Prp P w K mg base CX0 1 (cof CS CK b) "row" (spRow CS CK))
    (cD : ∀ b, Mtd P w K mg base (L2.CX P w) 5 (cof CS CK b) "do" (spDo CS CK CF)) (cQ : EqS P w K mg base 2 CS CK (spEq CS CK))
    (F : IsFn K "_law_unlike" "_law_unlike" sUnlike f) : FnR P w K mg base CX0 8 f (spUnlike T) := by
  refine fn0 (k := 7) F scUnlike (fun _ _ _ _ _ _ us hl => match us, hl with | [_], _ => rfl) (fun _ _ _ _ ⟨_, _, _, _, h, _⟩ => by rw [h]; rfl) fun cdv A outer s0 H vs Q E hr h => ?_
  obtain ⟨a, r, G, S, rfl, W, ha, hm, hl, h⟩ := h
  refine ⟨_, pss_cons (ps_par3 (i := 1) (j := 2) (l := 3) rfl scUnlike.nd rfl rfl rfl (by decide) (by decide) (by decide) rfl rfl rfl (pa_cons (pe_mk (k := 5) cM mS (hr.mono (by decide)) pass0 (pa_cons (pv 0) pa_nil)) (pa_cons (pe_mk (k := 5) cM mS (hr.mono (by decide)) pass0 (pa_cons (pv 0) pa_nil)) (pa_cons (pe_mk (k := 5) cM mS (hr.mono (by decide)) pass0 (pa_cons (pv 0) pa_nil)) pa_nil))) (by rfl))
    (pss_cons (ps_expr (pe_m (pv 2) (cD false) hr passL (pa_cons pe_str (pa_cons (pe_tup (pa_cons pe_str (pa_cons pe_str (pa_cons pe_int pa_nil)))) (pa_cons (pe_tup (pa_cons pe_str (pa_cons pe_str (pa_cons pe_int pa_nil)))) pa_nil)))))
    (pss_cons (ps_expr (pe_m (pv 3) (cD false) hr passL (pa_cons pe_str (pa_cons (pe_tup (pa_cons pe_str (pa_cons pe_str (pa_cons pe_int pa_nil)))) (pa_cons (pe_tup (pa_cons pe_str (pa_cons pe_str (pa_cons pe_int pa_nil)))) pa_nil)))))
    (pss_cons (ps_if (PW.pt (pw_or (pt_cmpR (op_neD hr.units) (pe_p (k := 6) (E := E0) (pv 1) (cR false) hr) (pe_p (k := 6) (E := E0) (pv 2) (cR false) hr) (nomark _)) (pw_or (pt_cmpR (op_eqS cQ hr) (pv 1) (pv 2) (nomark _)) (pw_or (pt_cmpR (op_eqS cQ hr) (pv 2) (pv 3) (nomark _)) (pw_or1 (pt_cmpR (op_eqS cQ hr) (pv 3) (pv 1) (nomark _))))))) (pss_one (ps_ret pe_bl)) pss_nil)
    (pss_one (ps_ret (pe_and (pe_cmpR (op_eqS cQ hr) (pe_mk (k := 5) cM mS (hr.mono (by decide)) pass0 (pa_cons (pv 0) pa_nil)) (pv 1) (nomark _)) (pe_and (pe_cmpR (op_neS (k := 6) cQ hr) (pe_mk (k := 5) cM mS (hr.mono (by decide)) pass0 (pa_cons (pe_op op_cat (pv 0) (pe_lst (pa_cons pe_int pa_nil))) pa_nil)) (pe_mk (k := 5) cM mS (hr.mono (by decide)) pass0 (pa_cons (pe_op op_cat (pv 0) (pe_lst (pa_cons pe_int pa_nil))) pa_nil)) (nomark _))
      (pe_one (pe_cmpR (op_neS (k := 6) cQ hr) (pe_mk (k := 5) cM mS (hr.mono (by decide)) pass0 (pa_cons (pe_lst pa_nil) pa_nil)) (pe_mk (k := 5) cM mS (hr.mono (by decide)) pass0 (pa_cons (pe_lst (pa_cons pe_int pa_nil)) pa_nil)) (nomark _)))))))))), ?_⟩
  have okm : OkS 60 (mkSe false r) := mk_ok hm (by omega)
  refine ⟨_, rfl, fun x1 dd1 na1 nb1 nc1 => mk_at (CS := CS) (CK := CK) (b := false) rfl W na1 nb1 nc1 (ha.mono W.same) hm (by omega) fun G1 S1 H1 W1 e1 f1 h1 s1 => ⟨rfl, ?_⟩⟩
  refine ⟨_, rfl, fun x2 dd2 na2 nb2 nc2 => mk_at (CS := CS) (CK := CK) (b := false) rfl W1 na2 nb2 nc2 ((ha.mono e1).mono W1.same) hm (by omega) fun G2 S2 H2 W2 e2 f2 h2 s2 => ⟨rfl, ?_⟩⟩
  refine ⟨_, rfl, fun x3 dd3 na3 nb3 nc3 => mk_at (CS := CS) (CK := CK) (b := false) rfl W2 na3 nb3 nc3 ((ha.mono (e1.trans e2)).mono W2.same) hm (by omega) fun G3 S3 H3 W3 e3 f3 h3 s3 => ⟨rfl, _, _, _, rfl, ?_⟩⟩
  have n12 := h1.other s2
  have h1' := (h1.fr e2 f2 (by simp)).fr e3 f3 (by simp)
  have h2' := h2.fr e3 f3 (by simp)
  have n13 := (h1.fr e2 f2 (by simp)).other s3
  have n23 := h2.other s3
  have kp1 : Kp [] S S1 := f1.kp
  have kp2 := kp1.fr f2 (by simp)
  have kp3 := kp2.fr f3 (by simp)
  have nw2 : Nw [] S x2 := kp1.nw s2
  have nw3 : Nw [] S x3 := kp2.nw s3
  obtain ⟨d2, a2, b2, c2, l2, m2, g2, _⟩ := h2'.op W3
  refine ⟨_, rfl, x2, d2, _, rfl, (W3.s _ _ _ g2).1, by kernel_rfl, by show 3 ≤ sizeLine; decide, fun p1 hp1 => ?_⟩
  obtain ⟨W4, e4⟩ := W3.new (o := .tup (stpV st2p)) hp1 True.intro
  refine ⟨by show 3 ≤ sizeLine; decide, fun p2 hp2 => ?_⟩
  obtain ⟨W5, e5⟩ := W4.new (o := .tup (stpV st2t)) hp2 True.intro
  have hst : ∀ t ∈ [st2p, st2t], SmS t := fun t ht => by
    simp only [List.mem_cons, List.not_mem_nil, or_false] at ht
    rcases ht with rfl | rfl <;> exact ⟨by decide, by decide⟩
  have hpf : perf (mkSe false r).kept (mkSe false r).lim 0 (mkSe false r).row [st2p, st2t] = .ok r := perf2 (k := false) (r := r) (by omega) (fun z => Bool.noConfusion z)
  refine ⟨x2, "ann", [p1, p2], [st2p, st2t], mkSe false r, T, _, S3, 60, rfl, W5, h2'.mono (e4.trans e5) (fun _ _ z => z), okm, by omega, .inl rfl, .cons (e5 _ _ upd_same) (.cons upd_same .nil), hst, by decide, ?_⟩
  rw [hpf]
  intro G6 S6 H6 q6 W6 e6 f6 h6 _
  have e46 := (e4.trans e5).trans e6
  have h1a := (h1'.mono (e4.trans e5) (fun _ _ z => z)).fr e6 f6 (by simpa using n12)
  have h3a := (h3.mono (e4.trans e5) (fun _ _ z => z)).fr e6 f6 (by simpa using Ne.symm n23)
  have kp6 := kp3.fr f6 (by simpa using nw2)
  obtain ⟨d3, a3, b3, c3, l3, m3, g3, _⟩ := h3a.op W6
  refine ⟨_, rfl, x3, d3, _, rfl, (W6.s _ _ _ g3).1, by kernel_rfl, by show 3 ≤ sizeLine; decide, fun p3 hp3 => ?_⟩
  obtain ⟨W7, e7⟩ := W6.new (o := .tup (stpV st2p)) hp3 True.intro
  refine ⟨by show 3 ≤ sizeLine; decide, fun p4 hp4 => ?_⟩
  obtain ⟨W8, e8⟩ := W7.new (o := .tup (stpV st2t)) hp4 True.intro
  refine ⟨x3, "bob", [p3, p4], [st2p, st2t], mkSe false r, T, _, S6, 60, rfl, W8, h3a.mono (e7.trans e8) (fun _ _ z => z), okm, by omega, .inr rfl, .cons (e8 _ _ upd_same) (.cons upd_same .nil), hst, by decide, ?_⟩
  rw [hpf]
  intro G9 S9 H9 q9 W9 e9 f9 h9 _
  have e79 := (e7.trans e8).trans e9
  have h1b := (h1a.mono (e7.trans e8) (fun _ _ z => z)).fr e9 f9 (by simpa using n13)
  have h2b := (h6.mono (e7.trans e8) (fun _ _ z => z)).fr e9 f9 (by simpa using n23)
  have kp9 := kp6.fr f9 (by simpa using nw3)
  have ok2 : OkS 60 ((mkSe false r).did "ann" [st2p, st2t] r) := by
    have := (mk_ok (b := false) (m := 50) hm hl).did (u := "ann") (.inl rfl) hst (by decide) hm (by omega)
    exact this.up (by omega)
  have ok3 : OkS 60 ((mkSe false r).did "bob" [st2p, st2t] r) := by
    have := (mk_ok (b := false) (m := 50) hm hl).did (u := "bob") (.inr rfl) hst (by decide) hm (by omega)
    exact this.up (by omega)
  obtain ⟨d1, a1, b1, c1, l1, m1, g1, _⟩ := h1b.op W9
  obtain ⟨d2b, a2b, b2b, c2b, l2b, m2b, g2b, _⟩ := h2b.op W9
  refine ⟨_, rfl, x1, d1, _, rfl, (W9.s _ _ _ g1).1, x1, _, T, G9, S9, rfl, W9, h1b, fun p5 hp5 => ?_⟩
  obtain ⟨W10, e10⟩ := W9.new (o := .lst ((mkSe false r).row.map V.int)) hp5 True.intro
  have h2c := h2b.mono e10 fun _ _ z => z
  refine ⟨_, rfl, x2, d2b, _, rfl, (W10.s _ _ _ g2b).1, x2, _, T, _, S9, rfl, W10, h2c, fun p6 hp6 => ?_⟩
  obtain ⟨W11, e11⟩ := W10.new (o := .lst (((mkSe false r).did "ann" [st2p, st2t] r).row.map V.int)) hp6 True.intro
  refine ⟨dRow r, dRow r, dp_row (W11.same _ _ (e11 _ _ upd_same)), dp_row upd_same, (fine_row hm).shaped (by omega), (fine_row hm).shaped (by omega), false, congrArg V.bl (ne_same hm), ifF rfl ?_⟩
  have h1d := h1b.mono (e10.trans e11) fun _ _ z => z
  have h2d := h2b.mono (e10.trans e11) fun _ _ z => z
  have h3d := h9.mono (e10.trans e11) fun _ _ z => z
  have ne12 : eqS (mkSe false r) ((mkSe false r).did "ann" [st2p, st2t] r) = false := by simp [eqS, Se.log, mkSe, Se.did]
  have ne23 : eqS ((mkSe false r).did "ann" [st2p, st2t] r) ((mkSe false r).did "bob" [st2p, st2t] r) = false := by
    have hu : ¬ (("ann" : Str) = "bob") := by decide +kernel
    simp [eqS, Se.log, mkSe, Se.did, hu]
  have ne31 : eqS ((mkSe false r).did "bob" [st2p, st2t] r) (mkSe false r) = false := by simp [eqS, Se.log, mkSe, Se.did]
  refine ⟨_, rfl, _, rfl, eq_ses W11 h1d h2d okm ok2 (by omega) fun G12 H12 W12 e12 => ⟨_, congrArg V.bl ne12, ifF rfl ?_⟩⟩
  have h2e := h2d.mono e12 fun _ _ z => z
  have h3e := h3d.mono e12 fun _ _ z => z
  refine ⟨_, rfl, _, rfl, eq_ses W12 h2e h3e ok2 ok3 (by omega) fun G13 H13 W13 e13 => ⟨_, congrArg V.bl ne23, ifF rfl ?_⟩⟩
  have h1f := h1d.mono (e12.trans e13) fun _ _ z => z
  have h3f := h3e.mono e13 fun _ _ z => z
  refine ⟨_, rfl, _, rfl, eq_ses W13 h3f h1f ok3 okm (by omega) fun G14 H14 W14 e14 => ⟨_, congrArg V.bl ne31, ifF rfl ?_⟩⟩
  have eA := ((e1.trans e2).trans e3).trans ((e46.trans e79).trans (((e10.trans e11).trans e12).trans (e13.trans e14)))
  have h1g := h1f.mono e14 fun _ _ z => z
  refine ⟨_, rfl, fun x5 dd15 na15 nb15 nc15 => mk_at (CS := CS) (CK := CK) (b := false) rfl W14 na15 nb15 nc15 ((ha.mono eA).mono W14.same) hm (by omega) fun G15 S15 H15 W15 e15 f15 h15 s15 => ⟨rfl, ?_⟩⟩
  have h1h := h1g.fr e15 f15 (by simp)
  refine ⟨_, rfl, eq_ses W15 h15 h1h okm okm (by omega) fun G16 H16 W16 e16 => ⟨_, congrArg V.bl (eqS_refl _), ifT rfl ?_⟩⟩
  have kp15 := kp9.fr f15 (by simp)
  have eB := (eA.trans e15).trans e16
  have smi : ∀ i : Int, (0 ≤ i ∧ i < 10) → Sm (r ++ [i]) := fun i hi j hj => by
    rcases List.mem_append.mp hj with z | z
    · exact hm j z
    · rw [List.mem_singleton.mp z]; exact hi
  refine ⟨_, rfl, by show 1 ≤ sizeLine; decide, fun u1 hu1 => ?_⟩
  obtain ⟨V1, v1⟩ := W16.new (o := .lst [.int 0]) hu1 True.intro
  refine ⟨a, u1, _, _, rfl, rfl, V1.same _ _ (v1 _ _ (eB _ _ ha)), upd_same, len_app (by omega), fun u2 hu2 => ?_⟩
  obtain ⟨V2, v2⟩ := V1.new (o := .lst (r.map V.int ++ [.int 0])) hu2 True.intro
  refine fun x6 dd18 na18 nb18 nc18 => mk_at (CS := CS) (CK := CK) (b := false) rfl V2 na18 nb18 nc18 (row_app.mono V2.same) (smi 0 ⟨by decide, by decide⟩) (by simp; omega) fun G18 S18 H18 W18 e18 f18 h18 s18 => ⟨rfl, ?_⟩
  have eC := ((eB.trans v1).trans v2).trans e18
  refine ⟨_, rfl, by show 1 ≤ sizeLine; decide, fun u3 hu3 => ?_⟩
  obtain ⟨V3, v3⟩ := W18.new (o := .lst [.int 1]) hu3 True.intro
  refine ⟨a, u3, _, _, rfl, rfl, V3.same _ _ (v3 _ _ (eC _ _ ha)), upd_same, len_app (by omega), fun u4 hu4 => ?_⟩
  obtain ⟨V4, v4⟩ := V3.new (o := .lst (r.map V.int ++ [.int 1])) hu4 True.intro
  refine fun x7 dd20 na20 nb20 nc20 => mk_at (CS := CS) (CK := CK) (b := false) rfl V4 na20 nb20 nc20 (row_app.mono V4.same) (smi 1 ⟨by decide, by decide⟩) (by simp; omega) fun G20 S20 H20 W20 e20 f20 h20 s20 => ⟨rfl, ?_⟩
  have ne0 : (!eqS (mkSe false (r ++ [0])) (mkSe false (r ++ [1]))) = true := by simp [eqS, mkSe]
  refine ne_ses W20 ((h18.mono (v3.trans v4) fun _ _ z => z).fr e20 f20 (by simp)) h20 rfl (mk_ok (m := 60) (smi 0 ⟨by decide, by decide⟩) (by simp; omega)) (mk_ok (m := 60) (smi 1 ⟨by decide, by decide⟩) (by simp; omega)) (by omega) fun G21 H21 W21 e21 => ⟨_, congrArg V.bl ne0, ifT rfl ?_⟩
  have kp20 := (kp15.fr f18 (by simp)).fr f20 (by simp)
  refine ⟨by show 0 ≤ sizeLine; decide, fun u5 hu5 => ?_⟩
  obtain ⟨V5, v5⟩ := W21.new (o := .lst []) hu5 True.intro
  refine fun x8 dd23 na23 nb23 nc23 => mk_at (CS := CS) (CK := CK) (b := false) (r := []) rfl V5 na23 nb23 nc23 upd_same (fun i hi => by cases hi) (by decide) fun G23 S23 H23 W23 e23 f23 h23 s23 => ⟨rfl, ?_⟩
  refine ⟨by show 1 ≤ sizeLine; decide, fun u6 hu6 => ?_⟩
  obtain ⟨V6, v6⟩ := W23.new (o := .lst [.int 0]) hu6 True.intro
  refine fun x9 dd25 na25 nb25 nc25 => mk_at (CS := CS) (CK := CK) (b := false) (r := [0]) rfl V6 na25 nb25 nc25 upd_same (fun i hi => by rw [List.mem_singleton.mp hi]; exact ⟨by decide, by decide⟩) (by decide) fun G25 S25 H25 W25 e25 f25 h25 s25 => ⟨rfl, ?_⟩
  have sm0 : Sm [] := fun i hi => by cases hi
  have sm1 : Sm [0] := fun i hi => by rw [List.mem_singleton.mp hi]; exact ⟨by decide, by decide⟩
  have ne1 : (!eqS (mkSe false []) (mkSe false [0])) = true := by simp [eqS, mkSe]
  refine ne_ses W25 ((h23.mono v6 fun _ _ z => z).fr e25 f25 (by simp)) h25 rfl (mk_ok (m := 60) sm0 (by decide)) (mk_ok (m := 60) sm1 (by decide)) (by omega) fun G26 H26 W26 e26 => ?_
  rw [ne1]
  exact h G26 S25 H26 W26 ((((eC.trans v3).trans v4).trans (e20.trans e21)).trans (((v5.trans e23).trans v6).trans (e25.trans e26))) ((kp20.fr f23 (by simp)).fr f25 (by simp))
end
end Dq
set_option maxHeartbeats 1000000
/-! _law_full. -/
namespace Dq
open PySem PySem.Spec PyProof.Rows L2
/-- what a told do leaves -/
def DidOut (CS CK x : Addr) (s : Se) (u : Str) (ss : List Stp) (G : Hp) (S S' : Own) : Except Nat (List Int) → Prop
  | .error _ => S' = S
  | .ok r => Fr [x] S S' ∧ Ses CS CK G S' x (s.did u ss r)
theorem told_of {T : List (Addr × Str)} {CS CK CF CN x : Addr} {s : Se} {u : Str} {ss : List Stp} {G H : Hp} {S : Own} {o : Except Nat (List Int)} {tl : XK → Hp → VK → Prop} {Q : VK}
    (h1 : ∀ E1 Q1, DoOut T CS CK CF x s u ss G S Q1 E1 o → tl E1 H Q1) (h2 : ∀ G' S' H' p, Wd T G' S' H' → Same G G' → IsDue G' p o → DidOut CS CK x s u ss G' S S' o → Q (.ref p) H') : TTold CF CN tl H Q := by
  intro E1 Q1 hv hf hnn
  refine h1 E1 Q1 ?_
  cases o with
  | error i =>
    intro d G7 H7 W7 e7 hd
    refine hf d (.int i) H7 hd fun pd hpd => ?_
    obtain ⟨W8, e8⟩ := W7.new (o := .lst [.str "fails", .int i]) hpd True.intro
    exact h2 _ S _ pd W8 (e7.trans e8) upd_same rfl
  | ok r =>
    intro G7 S7 H7 q7 W7 e7 fr7 hs7 hr7
    refine hv (.ref q7) H7 fun pd hpd => ?_
    obtain ⟨W8, e8⟩ := W7.new (o := .lst [.str "told", .ref q7]) hpd True.intro
    exact h2 _ S7 _ pd W8 (e7.trans e8) ⟨q7, upd_same, hr7.mono e8⟩ ⟨fr7, hs7.mono e8 fun _ _ z => z⟩
theorem after_stop {k : Bool} {lim : Nat} {r : List Int} {s : Stp} (hp : s.put = true) (h : lim ≤ r.length) : after k lim r s = none := by
  have e : aft lim r s = none := by unfold aft; rw [hp, decide_eq_true h]; rfl
  unfold after
  rw [e]
  simp
theorem perf_stop {k : Bool} {lim : Nat} {r : List Int} (h : lim ≤ r.length) : perf k lim 0 r [put7] = .error 0 := by rw [perf_cons, after_stop rfl h]
abbrev take7 : Stp := ⟨false, true, 7⟩
abbrev putR7 : Stp := ⟨true, false, 7⟩
theorem perf_third {k : Bool} {r : List Int} (hk : k = true → r ≠ []) : perf k (r.length + 1) 0 (7 :: r) [take7, putR7, put7] = .error 2 := by
  have e1 : after k (r.length + 1) (7 :: r) take7 = some r := by
    have e : aft (r.length + 1) (7 :: r) take7 = some r := by simp [aft, stepped]
    unfold after
    rw [e]
    cases k with
    | false => rfl
    | true => simp [hk rfl]
  have e2 : after k (r.length + 1) r putR7 = some (r ++ [7]) := by
    rw [after_free (by omega)]
    simp [stepped]
  rw [perf_cons, e1]
  simp only []
  rw [perf_cons, e2]
  simp only []
  rw [perf_cons, after_stop rfl (by simp)]
theorem sm7 {t : Stp} (h : t = put7 ∨ t = take7 ∨ t = putR7) : SmS t := by rcases h with rfl | rfl | rfl <;> exact ⟨by decide, by decide⟩
section
variable {P : Program} {w : World} {K : PySem.W.Frag} {mg : Str → Option Value} {base : Heap} {f CF CN CS CK : Addr}
def spFull (CS CK : Addr) (T : List (Addr × Str)) : Sp := fun vs H Q _ => ∃ (x : Addr) (s : Se) (G : Hp) (S : Own) (m : Nat), vs = [.ref x] ∧ Wd T G S H ∧ Ses CS CK G S x s ∧ OkS m s ∧ m ≤ 150 ∧ s.lim = s.row.length ∧ (s.kept = true → s.row ≠ []) ∧
  ∀ G' S' H', Wd T G' S' H' → Same G G' → Kp [x] S S' → Q (.bl true) H'
abbrev nFull : List Str := ["_law_session", "_law_kept", "_law_here", "_law_one", "_law_two"]
theorem scFull : FnScope nFull ["_law_session"] (defScope sFull) := ⟨rfl, rfl, rfl, by decide +kernel, rfl, by decide +kernel, by decide +kernel⟩
abbrev tTup3 (a b : Str) (i : Int) : TE := tTup (tCons (tC (.str a)) (tCons (tC (.str b)) (tCons (tC (.int i)) tNil)))
theorem f_full {T : List (Addr × Str)} (N : Nm mg) (D : ToldD K mg) (TT : ToldTxt K mg CF CN) (TF : TabF K mg base T "_law_full" f) (cS : Glo P w K mg base CX0 3 "_law_state" (spState CS CK)) (cR : ∀ b, Prp P w K mg base CX0 1 (cof CS CK b) "row" (spRow CS CK))
    (cD : ∀ b, Mtd P w K mg base (L2.CX P w) 5 (cof CS CK b) "do" (spDo CS CK CF)) (cM : ∀ b, Mtd P w K mg base CX0 3 (cof CS CK b) "set_limit" (spSetLimit CS CK))
    (F : IsFn K "_law_full" "_law_full" sFull f) : FnG P w K mg base CX0 8 f (spFull CS CK T) := by
  refine fnG (k := 7) F scFull (fun _ _ _ _ _ _ us hl => match us, hl with | [_], _ => rfl) (fun _ _ _ _ ⟨_, _, _, _, _, h, _⟩ => by rw [h]; rfl) fun cdv A outer s0 H vs Q E hgd hr h lk => ?_
  obtain ⟨x, s, G, S, m, rfl, W, hx, ok, hm, hlim, hkr, h⟩ := h
  obtain ⟨oc, od, kV, doc, pm, an, ct, osl, lk⟩ := lk
  obtain ⟨c, Pt, hcd, TB, hT1, hT2⟩ := TF.ex
  have hcode : cdv = .ref c := hcd _ _ _ _ lk
  refine ⟨_, pss_cons (ps_set (i := 1) scFull.nd rfl (Or.inl rfl) (pe_callB (call_repr hgd hr) (by rfl) N.repr (by decide +kernel) (pa_cons (pe_g cS hr pass0 (pa_cons (pv 0) pa_nil)) pa_nil)))
    (pss_cons (ps_if (pt_cmpR (op_neD hr.units) (pe_toldC (k := 5) (t := fun E => tMethR (cof CS CK s.kept) "do" (spDo CS CK CF) E (tVar 0) (tCons (tC (.str "bob")) (tCons (tTup3 "put" "left" 7) tNil))) D TT TB hcode hT1 hT2 hr (LamX.lamS_by (by decide +kernel))
        (fun A outer s H E f c' hr2 => pe_m (pv 0) (cD _) hr2 (passes_call (takes_of rfl rfl rfl rfl) (fun _ _ _ _ z => z)) (pa_cons pe_str (pa_cons (pe_tup (pa_cons pe_str (pa_cons pe_str (pa_cons pe_int pa_nil)))) pa_nil)))) (pe_lst (pa_cons pe_str (pa_cons pe_int pa_nil))) (nomark _)) (pss_one (ps_ret pe_bl)) pss_nil)
    (pss_cons (ps_if (pt_cmpR op_ne (pe_callB (call_repr hgd hr) (by rfl) N.repr (by decide +kernel) (pa_cons (pe_g cS hr pass0 (pa_cons (pv 0) pa_nil)) pa_nil)) (pv 1) (nomark _)) (pss_one (ps_ret pe_bl)) pss_nil)
    (pss_cons (ps_set (i := 2) scFull.nd rfl (Or.inl rfl) (pe_p (k := 6) (E := E0) (pv 0) (cR s.kept) hr))
    (pss_cons (ps_expr (pe_m (pv 0) (cM s.kept) hr pass0 (pa_cons (pe_op op_add (pe_callB call_len_seq (by rfl) N.len (by decide +kernel) (pa_cons (pv 2) pa_nil)) pe_int) pa_nil)))
    (pss_cons (ps_if (pt_cmpR (op_neD hr.units) (pe_toldC (k := 5) (t := fun E => tMethR (cof CS CK s.kept) "do" (spDo CS CK CF) E (tVar 0) (tCons (tC (.str "bob")) (tCons (tTup3 "put" "left" 7) tNil))) D TT TB hcode hT1 hT2 hr (LamX.lamS_by (by decide +kernel))
        (fun A outer s H E f c' hr2 => pe_m (pv 0) (cD _) hr2 (passes_call (takes_of rfl rfl rfl rfl) (fun _ _ _ _ z => z)) (pa_cons pe_str (pa_cons (pe_tup (pa_cons pe_str (pa_cons pe_str (pa_cons pe_int pa_nil)))) pa_nil)))) (pe_lst (pa_cons pe_str (pa_cons (pe_op op_cat (pe_lst (pa_cons pe_int pa_nil)) (pv 2)) pa_nil))) (nomark _)) (pss_one (ps_ret pe_bl)) pss_nil)
    (pss_cons (ps_asg (pe_tup (pa_cons (pe_tup (pa_cons pe_str (pa_cons pe_str (pa_cons pe_int pa_nil)))) (pa_cons (pe_tup (pa_cons pe_str (pa_cons pe_str (pa_cons pe_int pa_nil)))) pa_nil))) (pg_tup rfl (pgs_cons (pg_name (i := 3) scFull.nd rfl (.inr rfl)) (pgs_cons (pg_name (i := 4) scFull.nd rfl (.inr rfl)) pgs_nil))))
    (pss_one (ps_ret (pe_cmpR (op_eqD hr.units) (pe_toldC (k := 5) (t := fun E => tMethR (cof CS CK s.kept) "do" (spDo CS CK CF) E (tVar 0) (tCons (tC (.str "bob")) (tCons (tVar 3) (tCons (tVar 4) (tCons (tTup3 "put" "left" 7) tNil))))) D TT TB hcode hT1 hT2 hr (LamX.lamS_by (by decide +kernel))
        (fun A outer s H E f c' hr2 => pe_m (pv 0) (cD _) hr2 (passes_call (takes_of rfl rfl rfl rfl) (fun _ _ _ _ z => z)) (pa_cons pe_str (pa_cons (pv 3) (pa_cons (pv 4) (pa_cons (pe_tup (pa_cons pe_str (pa_cons pe_str (pa_cons pe_int pa_nil)))) pa_nil)))))) (pe_lst (pa_cons pe_str (pa_cons pe_int pa_nil))) (nomark _)))))))))), ?_⟩
  have hlm := ok.l
  -- one told do of one step
  have one : ∀ {G0 H0 : Hp} {S0 : Own} {s1 : Se} {m1 : Nat} {σ : L2.St} {Q0 : VK}, Wd T G0 S0 H0 → Ses CS CK G0 S0 x s1 → s1.kept = s.kept → OkS m1 s1 → m1 ≤ 190 → σ[0]? = some (some (.ref x)) →
      (∀ G' S' H' p, Wd T G' S' H' → Same G0 G' → IsDue G' p (perf s1.kept s1.lim 0 s1.row [put7]) → DidOut CS CK x s1 "bob" [put7] G' S0 S' (perf s1.kept s1.lim 0 s1.row [put7]) → Q0 (.ref p) H') →
      tLamS T (TTold CF CN) (fun E => tMethR (cof CS CK s.kept) "do" (spDo CS CK CF) E (tVar 0) (tCons (tC (.str "bob")) (tCons (tTup3 "put" "left" 7) tNil))) σ H0 Q0 := fun {G0 H0 S0 s1 m1 σ Q0} W0 hs1 hk1 ok1 hm1 hσ k => by
    refine ⟨W0.t, fun H1 x1 t1 => ?_⟩
    have W1 := W0.tab x1 t1
    refine told_of (x := x) (s := s1) (u := "bob") (ss := [put7]) (G := G0) (S := S0) (CS := CS) (CK := CK) (T := T) (o := perf s1.kept s1.lim 0 s1.row [put7]) (fun E1 Q1 hd => ?_) k
    obtain ⟨dx, ra, da, ua, dr, ur, g1, _⟩ := hs1.op W1
    rw [hk1] at g1
    refine ⟨_, hσ, x, dx, _, rfl, (W1.s _ _ _ g1).1, by kernel_rfl, by show 3 ≤ sizeLine; decide, fun tp htp => ?_⟩
    obtain ⟨W2, e2⟩ := W1.new (o := .tup (stpV put7)) htp True.intro
    exact ⟨x, "bob", [tp], [put7], s1, T, _, S0, m1, rfl, W2, hs1.mono e2 (fun _ _ z => z), ok1, hm1, .inr rfl, .cons upd_same .nil, (fun t ht => by rw [List.mem_singleton.mp ht]; exact sm7 (.inl rfl)), by decide, hd.sub e2⟩
  refine state_repr W hx ok (by omega) rfl fun G1 H1 W1 e1 => ?_
  have hx1 := hx.mono e1 fun _ _ z => z
  have p0 : perf s.kept s.lim 0 s.row [put7] = .error 0 := perf_stop (by omega)
  refine one W1 hx1 rfl ok (by omega) rfl fun G2 S2 H2 q2 W2 e2 due2 did2 => ?_
  rw [p0] at due2 did2
  have eS2 : S2 = S := did2
  subst eS2
  refine ⟨by show 2 ≤ sizeLine; decide, fun q3 hq3 => ?_⟩
  obtain ⟨W3, e3⟩ := W2.new (o := .lst [.str "fails", .int 0]) hq3 True.intro
  have f0 := fine_due (o := .error 0) (show (0 : Nat) < 256 by decide)
  refine ⟨dDue (.error 0), dDue (.error 0), dp_due ((due2.mono e3).mono W3.same), .lst (SqL.of upd_same) (.cons (.str _) (.cons (.int _) .nil)), f0.shaped (by omega), f0.shaped (by omega), false, by rw [(f0.eqv f0).mpr rfl]; rfl, ifF rfl ?_⟩
  have hx3 := hx1.mono (e2.trans e3) fun _ _ z => z
  refine state_repr W3 hx3 ok (by omega) rfl fun G4 H4 W4 e4 => ⟨_, rfl, rfl, _, rfl, ifF (by simp) ?_⟩
  have hx4 := hx3.mono e4 fun _ _ z => z
  obtain ⟨dx, ra, da, ua, dr, ur, g4, _⟩ := hx4.op W4
  refine ⟨_, rfl, x, dx, _, rfl, (W4.s _ _ _ g4).1, x, s, T, G4, S2, rfl, W4, hx4, fun q5 hq5 => ?_⟩
  obtain ⟨W5, e5⟩ := W4.new (o := .lst (s.row.map V.int)) hq5 True.intro
  have hrow5 : IsRow (upd G4 q5 (.lst (s.row.map V.int))) q5 s.row := upd_same
  have hx5 := hx4.mono e5 fun _ _ z => z
  refine ⟨_, rfl, x, dx, _, rfl, (W5.s _ _ _ g4).1, by kernel_rfl, _, rfl, q5, _, rfl, .inl (SqL.of upd_same), _, _, rfl, rfl, ?_⟩
  refine ⟨x, s.row.length + 1, s, T, _, S2, ?_, W5, hx5, by omega, by omega, fun S6 H6 W6 fr6 hx6 => ?_⟩
  · rw [List.length_map]
    rfl
  have ok2 : OkS m { s with lim := s.row.length + 1 } := ⟨ok.r, ok.l, by show s.row.length + 1 ≤ 200; omega, ok.d, ok.e, ok.n⟩
  have p1 : perf s.kept (s.row.length + 1) 0 s.row [put7] = .ok (7 :: s.row) := put7_ok (by omega)
  refine one W6 hx6 rfl ok2 (by omega) rfl fun G7 S7 H7 q7 W7 e7 due7 did7 => ?_
  have due7 : IsDue G7 q7 (perf s.kept (s.row.length + 1) 0 s.row [put7]) := due7
  have did7 : DidOut CS CK x { s with lim := s.row.length + 1 } "bob" [put7] G7 S6 S7 (perf s.kept (s.row.length + 1) 0 s.row [put7]) := did7
  rw [p1] at due7 did7
  obtain ⟨fr7, hx7⟩ := did7
  have sm7r : Sm (7 :: s.row) := fun i hi => by
    rcases List.mem_cons.mp hi with z | z
    · rw [z]; exact ⟨by decide, by decide⟩
    · exact ok.r i z
  refine ⟨by show 1 ≤ sizeLine; decide, fun q8 hq8 => ?_⟩
  obtain ⟨W8, e8⟩ := W7.new (o := .lst [.int 7]) hq8 True.intro
  refine ⟨_, rfl, q8, q5, _, _, rfl, rfl, upd_same, W8.same _ _ (e8 _ _ (e7 _ _ hrow5)), by rw [List.length_map, sizeLine_eq]; show 1 + s.row.length ≤ _; omega, fun q9 hq9 => ?_⟩
  obtain ⟨W9, e9⟩ := W8.new (o := .lst ([.int 7] ++ s.row.map V.int)) hq9 True.intro
  refine ⟨by show 2 ≤ sizeLine; decide, fun q10 hq10 => ?_⟩
  obtain ⟨W10, e10⟩ := W9.new (o := .lst [.str "told", .ref q9]) hq10 True.intro
  have f1 := fine_due (o := .ok (7 :: s.row)) ⟨sm7r, by simp; omega⟩
  have hrow9 : IsRow (upd (upd G7 q8 (.lst [.int 7])) q9 (.lst ([.int 7] ++ s.row.map V.int))) q9 (7 :: s.row) := upd_same
  refine ⟨dDue (.ok (7 :: s.row)), dDue (.ok (7 :: s.row)), dp_due ((due7.mono ((e8.trans e9).trans e10)).mono W10.same), .lst (SqL.of upd_same) (.cons (.str _) (.cons (dp_row ((hrow9.mono e10).mono W10.same)) .nil)), f1.shaped (by omega), f1.shaped (by omega), false, by rw [(f1.eqv f1).mpr rfl]; rfl, ifF rfl ?_⟩
  refine ⟨by show 3 ≤ sizeLine; decide, fun u1 hu1 => ?_⟩
  obtain ⟨V1, v1⟩ := W10.new (o := .tup (stpV take7)) hu1 True.intro
  refine ⟨by show 3 ≤ sizeLine; decide, fun u2 hu2 => ?_⟩
  obtain ⟨V2, v2⟩ := V1.new (o := .tup (stpV putR7)) hu2 True.intro
  refine ⟨by show 2 ≤ sizeLine; decide, fun u3 hu3 => ?_⟩
  have V3 := V2.grow (same_upd (o := .tup [.ref u1, .ref u2]) hu3)
  refine ⟨u3, _, rfl, SqT.of upd_same, rfl, _, _, rfl, _, _, rfl, rfl, ?_⟩
  have hx10 := hx7.mono (((e8.trans e9).trans e10).trans (v1.trans v2)) fun _ _ z => z
  have ok3 : OkS (m + 3) (Se.did { s with lim := s.row.length + 1 } "bob" [put7] (7 :: s.row)) := ok2.did (.inr rfl) (fun t ht => by rw [List.mem_singleton.mp ht]; exact sm7 (.inl rfl)) (by decide) sm7r (by simp; omega)
  refine ⟨V3.t, fun H11 x11 t11 => ?_⟩
  have V4 := V3.tab x11 t11
  have p2 : perf s.kept (s.row.length + 1) 0 (7 :: s.row) [take7, putR7, put7] = .error 2 := perf_third hkr
  refine told_of (x := x) (s := Se.did { s with lim := s.row.length + 1 } "bob" [put7] (7 :: s.row)) (u := "bob") (ss := [take7, putR7, put7]) (S := S7) (CS := CS) (CK := CK) (T := T) (o := .error 2) (G := upd (upd (upd (upd (upd G7 q8 (.lst [.int 7])) q9 (.lst ([.int 7] ++ s.row.map V.int))) q10 (.lst [.str "told", .ref q9])) u1 (.tup (stpV take7))) u2 (.tup (stpV putR7))) (fun E1 Q1 hd => ?_) (fun G12 S12 H12 q12 W12 e12 due12 did12 => ?_)
  · obtain ⟨dx3, ra3, da3, ua3, dr3, ur3, g3, _⟩ := hx10.op V4
    refine ⟨_, rfl, x, dx3, _, rfl, (V4.s _ _ _ g3).1, by kernel_rfl, _, rfl, _, rfl, by show 3 ≤ sizeLine; decide, fun tp htp => ?_⟩
    obtain ⟨V5, v5⟩ := V4.new (o := .tup (stpV put7)) htp True.intro
    refine ⟨x, "bob", [u1, u2, tp], [take7, putR7, put7], _, T, _, S7, m + 3, rfl, V5, hx10.mono v5 (fun _ _ z => z), ok3, by omega, .inr rfl, .cons (v5 _ _ (v2 _ _ upd_same)) (.cons (v5 _ _ upd_same) (.cons upd_same .nil)), (fun t ht => ?_), by decide, ?_⟩
    · simp only [List.mem_cons, List.not_mem_nil, or_false] at ht
      rcases ht with rfl | rfl | rfl
      · exact sm7 (.inr (.inl rfl))
      · exact sm7 (.inr (.inr rfl))
      · exact sm7 (.inl rfl)
    · have e : perf (Se.did { s with lim := s.row.length + 1 } "bob" [put7] (7 :: s.row)).kept (Se.did { s with lim := s.row.length + 1 } "bob" [put7] (7 :: s.row)).lim 0 (Se.did { s with lim := s.row.length + 1 } "bob" [put7] (7 :: s.row)).row [take7, putR7, put7] = .error 2 := p2
      rw [e]
      exact hd.sub v5
  · have eS12 : S12 = S7 := did12
    subst eS12
    refine ⟨by show 2 ≤ sizeLine; decide, fun q13 hq13 => ?_⟩
    obtain ⟨W13, e13⟩ := W12.new (o := .lst [.str "fails", .int 2]) hq13 True.intro
    have f2 := fine_due (o := .error 2) (show (2 : Nat) < 256 by decide)
    refine ⟨dDue (.error 2), dDue (.error 2), dp_due ((due12.mono e13).mono W13.same), .lst (SqL.of upd_same) (.cons (.str _) (.cons (.int _) .nil)), f2.shaped (by omega), f2.shaped (by omega), ?_⟩
    rw [(f2.eqv f2).mpr rfl]
    refine h _ S12 _ W13 (((((e1.trans e2).trans (e3.trans e4)).trans e5).trans e7).trans ((((e8.trans e9).trans e10).trans (v1.trans v2)).trans (e12.trans e13))) ?_
    exact fr6.kp.trans fr7.kp
end
end Dq
set_option maxHeartbeats 1000000
/-! _law_empty_right. -/
namespace Dq
open PySem PySem.Spec PyProof.Rows L2
theorem pe_gG0 {X : Cx} {k j : Nat} {sp : Sp} {x : Str} {p pos : Pos} (c : GloG X.prog X.w X.K X.mg X.base j x sp) (hgd : X.A.guards = some []) (hr : Room k X.A) (hj : j ≤ k := by decide) (hg : Gl X x := by rfl) (hdb : (x == ("__debug__" : Str)) = false := by decide) :
    PE X (.Call (.Name x p) [] [] pos) (tCallR sp E0 tNil) := by
  obtain ⟨f, F, hm, hk⟩ := c.ex
  refine ⟨fun pins s σ H Q I h => ?_⟩
  refine wpAny_Call_Name_kw (ld_glob I hg hm ?_ hdb)
  exact PySem.W.callWith_K0 I.kIn hk (wpAny_call (run_fnG (us := []) (vs := []) F hgd (hr.mono hj) I .nil h))
abbrev put1 : Stp := ⟨true, true, 1⟩
abbrev takeR1 : Stp := ⟨false, false, 1⟩
theorem sm1 {t : Stp} (h : t = put1 ∨ t = takeR1) : SmS t := by rcases h with rfl | rfl <;> exact ⟨by decide, by decide⟩
abbrev z0 : Se := mkSe true []
abbrev z1 : Se := z0.did "ann" [] []
abbrev z2 : Se := z1.did "ann" [put1] [1]
abbrev c0 : Call := ⟨"ann", [], []⟩
abbrev c1 : Call := ⟨"ann", [put1], []⟩
abbrev z3 : Se := z2.undid [c0] c1
abbrev c2 : Call := ⟨"ann", [put1], [1]⟩
abbrev z4 : Se := z3.redid [] c2
abbrev z5 : Se := z4.undid [c0] c1
theorem smN : Sm [] := fun i hi => by cases hi
theorem smO : Sm [1] := fun i hi => by rw [List.mem_singleton.mp hi]; exact ⟨by decide, by decide⟩
theorem k0 : OkS 10 z0 := mk_ok smN (by decide)
theorem k1 : OkS 13 z1 := k0.did (.inl rfl) (fun t ht => by cases ht) (by decide) smN (by decide)
theorem k2 : OkS 16 z2 := k1.did (.inl rfl) (fun t ht => by rw [List.mem_singleton.mp ht]; exact sm1 (.inl rfl)) (by decide) smO (by decide)
theorem k3 : OkS 16 z3 := k2.undid rfl
theorem k4 : OkS 16 z4 := k3.redid rfl
theorem k5 : OkS 16 z5 := k4.undid rfl
section
variable {P : Program} {w : World} {K : PySem.W.Frag} {mg : Str → Option Value} {base : Heap} {f CF CN CS CK : Addr}
def spEmpty (T : List (Addr × Str)) : Sp := fun vs H Q _ => ∃ (G : Hp) (S : Own), vs = [] ∧ Wd T G S H ∧ ∀ G' S' H', Wd T G' S' H' → Same G G' → Kp [] S S' → Q (.bl true) H'
theorem scEmpty : FnScope ["_law_session"] [] (defScope sEmptyRight) := ⟨rfl, rfl, rfl, by decide +kernel, rfl, by decide +kernel, by decide +kernel⟩
theorem f_empty {T : List (Addr × Str)} (N : Nm mg) (D : ToldD K mg) (TT : ToldTxt K mg CF CN) (TF : TabF K mg base T "_law_empty_right" f) (mK : mg "KeptSession" = some (.ref CK)) (cM : Mak P w K mg base CX0 5 CK (spInit CS CK)) (cQ : EqS P w K mg base 2 CS CK (spEq CS CK))
    (cD : ∀ b, Mtd P w K mg base (L2.CX P w) 5 (cof CS CK b) "do" (spDo CS CK CF)) (cU : ∀ b, Mtd P w K mg base CX0 1 (cof CS CK b) "undo" (spUndo CS CK)) (cO : ∀ b, Mtd P w K mg base (L2.CX P w) 3 (cof CS CK b) "redo" (spRedo CS CK CN)) (cW : ∀ b, Mtd P w K mg base CX0 7 (cof CS CK b) "twin" (spTwin CS CK b))
    (F : IsFn K "_law_empty_right" "_law_empty_right" sEmptyRight f) : FnG P w K mg base CX0 8 f (spEmpty T) := by
  refine fnG (k := 7) F scEmpty (fun _ _ _ _ _ _ us hl => match us, hl with | [], _ => rfl) (fun _ _ _ _ ⟨_, _, h, _⟩ => by rw [h]; rfl) fun cdv A outer s0 H vs Q E hgd hr h lk => ?_
  obtain ⟨G, S, rfl, W, h⟩ := h
  obtain ⟨oc, od, kV, doc, pm, an, ct, osl, lk⟩ := lk
  obtain ⟨c, Pt, hcd, TB, hT1, hT2⟩ := TF.ex
  have hcode : cdv = .ref c := hcd _ _ _ _ lk
  have uq := hr.units
  refine ⟨_, pss_cons (ps_set (i := 0) scEmpty.nd rfl (Or.inr rfl) (pe_mk (k := 5) cM mK (hr.mono (by decide)) pass0 (pa_cons (pe_lst pa_nil) pa_nil)))
    (pss_cons (ps_if (pt_cmpR (op_neD uq) (pe_toldC (k := 5) (t := fun E => tMethR (cof CS CK true) "do" (spDo CS CK CF) E (tVar 0) (tCons (tC (.str "ann")) (tCons (tTup3 "put" "left" 1) (tCons (tTup3 "take" "right" 1) tNil)))) D TT TB hcode hT1 hT2 hr (LamX.lamS_by (by decide +kernel))
        (fun A outer s H E f c' hr2 => pe_m (pv 0) (cD _) hr2 (passes_call (takes_of rfl rfl rfl rfl) (fun _ _ _ _ z => z)) (pa_cons pe_str (pa_cons (pe_tup (pa_cons pe_str (pa_cons pe_str (pa_cons pe_int pa_nil)))) (pa_cons (pe_tup (pa_cons pe_str (pa_cons pe_str (pa_cons pe_int pa_nil)))) pa_nil))))) (pe_lst (pa_cons pe_str (pa_cons pe_int pa_nil))) (nomark _)) (pss_one (ps_ret pe_bl)) pss_nil)
    (pss_cons (ps_if (PW.pt (pw_or (pt_cmpR (op_neD uq) (pe_m (pv 0) (cD true) hr passL (pa_cons pe_str pa_nil)) (pe_lst pa_nil) (nomark _))
      (pw_or (pt_cmpR (op_neD uq) (pe_m (pv 0) (cD true) hr passL (pa_cons pe_str (pa_cons (pe_tup (pa_cons pe_str (pa_cons pe_str (pa_cons pe_int pa_nil)))) pa_nil))) (pe_lst (pa_cons pe_int pa_nil)) (nomark _))
      (pw_or1 (pt_cmpR (op_neD uq) (pe_m0 (pv 0) (cU true) hr pass0) (pe_lst pa_nil) (nomark _)))))) (pss_one (ps_ret pe_bl)) pss_nil)
    (pss_one (ps_ret (pe_and (pe_cmpR (op_eqS cQ hr) (pe_m0 (pv 0) (cW true) hr pass0) (pv 0) (nomark _)) (pe_and (pe_cmpR (op_eqD uq) (pe_m0 (pv 0) (cO true) hr passL) (pe_lst (pa_cons pe_int pa_nil)) (nomark _))
      (pe_and (pe_cmpR (op_eqD uq) (pe_m0 (pv 0) (cU true) hr pass0) (pe_lst pa_nil) (nomark _)) (pe_one (pe_cmpR (op_eqD uq) (pe_m0 (pv 0) (cU true) hr pass0) (pe_lst pa_nil) (nomark _)))))))))), ?_⟩
  refine ⟨by show 0 ≤ sizeLine; decide, fun u0 hu0 => ?_⟩
  obtain ⟨V0, v0⟩ := W.new (o := .lst []) hu0 True.intro
  refine fun x dd na nb nc => mk_at (CS := CS) (CK := CK) (b := true) (r := []) rfl V0 na nb nc upd_same smN (by decide) fun G1 S1 H1 W1 e1 f1 h1 s1 => ⟨rfl, ?_⟩
  have kp1 : Kp [] S S1 := f1.kp
  have nx : Nw [] S x := .of s1
  refine ⟨W1.t, fun H2 x2 t2 => ?_⟩
  have W2 := W1.tab x2 t2
  have p1 : perf true 200 0 [] [put1, takeR1] = .error 1 := by kernel_rfl
  refine told_of (x := x) (s := z0) (u := "ann") (ss := [put1, takeR1]) (S := S1) (CS := CS) (CK := CK) (T := T) (o := .error 1) (G := G1) (fun E1 Q1 hd => ?_) (fun G3 S3 H3 q3 W3 e3 due3 did3 => ?_)
  · obtain ⟨dx, ra, da, ua, dr, ur, g1, _⟩ := h1.op W2
    refine ⟨_, rfl, x, dx, _, rfl, (W2.s _ _ _ g1).1, by kernel_rfl, by show 3 ≤ sizeLine; decide, fun tp htp => ?_⟩
    obtain ⟨V1, v1⟩ := W2.new (o := .tup (stpV put1)) htp True.intro
    refine ⟨by show 3 ≤ sizeLine; decide, fun tq htq => ?_⟩
    obtain ⟨V2, v2⟩ := V1.new (o := .tup (stpV takeR1)) htq True.intro
    refine ⟨x, "ann", [tp, tq], [put1, takeR1], z0, T, _, S1, 10, rfl, V2, h1.mono (v1.trans v2) (fun _ _ z => z), k0, by decide, .inl rfl, .cons (v2 _ _ upd_same) (.cons upd_same .nil), (fun t ht => ?_), by decide, ?_⟩
    · simp only [List.mem_cons, List.not_mem_nil, or_false] at ht
      exact sm1 ht
    · have e : perf z0.kept z0.lim 0 z0.row [put1, takeR1] = .error 1 := p1
      rw [e]
      exact hd.sub (v1.trans v2)
  have eS3 : S3 = S1 := did3
  subst eS3
  refine ⟨by show 2 ≤ sizeLine; decide, fun q4 hq4 => ?_⟩
  obtain ⟨W4, e4⟩ := W3.new (o := .lst [.str "fails", .int 1]) hq4 True.intro
  have f0 := fine_due (o := .error 1) (show (1 : Nat) < 256 by decide)
  refine ⟨dDue (.error 1), dDue (.error 1), dp_due ((due3.mono e4).mono W4.same), .lst (SqL.of upd_same) (.cons (.str _) (.cons (.int _) .nil)), f0.shaped (by omega), f0.shaped (by omega), false, by rw [(f0.eqv f0).mpr rfl]; rfl, ifF rfl ?_⟩
  have h4 := h1.mono (e3.trans e4) fun _ _ z => z
  -- do('ann')
  obtain ⟨dx, ra, da, ua, dr, ur, g4, _⟩ := h4.op W4
  have q0 : perf z0.kept z0.lim 0 z0.row [] = .ok [] := rfl
  refine ⟨_, rfl, x, dx, _, rfl, (W4.s _ _ _ g4).1, by kernel_rfl, x, "ann", [], [], z0, T, _, S3, 10, rfl, W4, h4, k0, by decide, .inl rfl, .nil, (fun t ht => by cases ht), by decide, ?_⟩
  rw [q0]
  intro G5 S5 H5 p5 W5 e5 fr5 h5 r5
  refine ⟨by show 0 ≤ sizeLine; decide, fun u6 hu6 => ?_⟩
  obtain ⟨W6, e6⟩ := W5.new (o := .lst []) hu6 True.intro
  refine ⟨dRow [], dRow [], dp_row ((r5.mono e6).mono W6.same), dp_row upd_same, (fine_row smN).shaped (by omega), (fine_row smN).shaped (by omega), false, congrArg V.bl (ne_same smN), ifF rfl ?_⟩
  have h6 := h5.mono e6 fun _ _ z => z
  have kp6 := kp1.fr fr5 (by simpa using nx)
  -- do('ann', put)
  obtain ⟨dx6, ra6, da6, ua6, dr6, ur6, g6, _⟩ := h6.op W6
  refine ⟨_, rfl, x, dx6, _, rfl, (W6.s _ _ _ g6).1, by kernel_rfl, by show 3 ≤ sizeLine; decide, fun tp htp => ?_⟩
  obtain ⟨V1, v1⟩ := W6.new (o := .tup (stpV put1)) htp True.intro
  have q1 : perf z1.kept z1.lim 0 z1.row [put1] = .ok [1] := by kernel_rfl
  refine ⟨x, "ann", [tp], [put1], z1, T, _, S5, 13, rfl, V1, h6.mono v1 (fun _ _ z => z), Dq.k1, by decide, .inl rfl, .cons upd_same .nil, (fun t ht => by rw [List.mem_singleton.mp ht]; exact sm1 (.inl rfl)), by decide, ?_⟩
  rw [q1]
  intro G7 S7 H7 p7 W7 e7 fr7 h7 r7
  refine ⟨by show 1 ≤ sizeLine; decide, fun u8 hu8 => ?_⟩
  obtain ⟨W8, e8⟩ := W7.new (o := .lst [.int 1]) hu8 True.intro
  have r8 : IsRow (upd G7 u8 (.lst [.int 1])) u8 [1] := upd_same
  refine ⟨dRow [1], dRow [1], dp_row ((r7.mono e8).mono W8.same), dp_row (r8.mono W8.same), (fine_row smO).shaped (by omega), (fine_row smO).shaped (by omega), false, congrArg V.bl (ne_same smO), ifF rfl ?_⟩
  have h8 := h7.mono e8 fun _ _ z => z
  have kp8 := kp6.fr fr7 (by simpa using nx)
  -- undo
  obtain ⟨dx8, ra8, da8, ua8, dr8, ur8, g8, _⟩ := h8.op W8
  refine ⟨_, rfl, x, dx8, _, rfl, (W8.s _ _ _ g8).1, by kernel_rfl, x, z2, [c0], c1, T, _, S7, 16, rfl, W8, h8, Dq.k2, by decide, rfl, fun G9 S9 H9 p9 W9 e9 fr9 h9 r9 => ?_⟩
  refine ⟨by show 0 ≤ sizeLine; decide, fun u10 hu10 => ?_⟩
  obtain ⟨W10, e10⟩ := W9.new (o := .lst []) hu10 True.intro
  refine ⟨dRow [], dRow [], dp_row ((r9.mono e10).mono W10.same), dp_row upd_same, (fine_row smN).shaped (by omega), (fine_row smN).shaped (by omega), false, congrArg V.bl (ne_same smN), ifF rfl ?_⟩
  have h10 := h9.mono e10 fun _ _ z => z
  have kp10 := kp8.fr fr9 (by simpa using nx)
  -- twin
  obtain ⟨dx10, ra10, da10, ua10, dr10, ur10, g10, _⟩ := h10.op W10
  refine ⟨_, rfl, x, dx10, _, rfl, (W10.s _ _ _ g10).1, by kernel_rfl, x, z3, T, _, S9, rfl, rfl, W10, h10, Dq.k3.r, by decide, fun G11 S11 H11 y W11 e11 fr11 hy11 sy => ?_⟩
  have nxy : x ≠ y := h10.other sy
  have h11 := h10.fr e11 fr11 (by simpa using nxy)
  have kp11 := kp10.fr fr11 (by simpa using kp10.nw sy)
  refine ⟨_, rfl, eq_ses W11 hy11 h11 Dq.k3 Dq.k3 (by decide) fun G12 H12 W12 e12 => ⟨true, congrArg V.bl (eqS_refl _), ifT rfl ?_⟩⟩
  have h12 := h11.mono e12 fun _ _ z => z
  -- redo
  obtain ⟨dx12, ra12, da12, ua12, dr12, ur12, g12, _⟩ := h12.op W12
  refine ⟨_, rfl, x, dx12, _, rfl, (W12.s _ _ _ g12).1, by kernel_rfl, x, z3, T, _, S11, 16, rfl, W12, h12, Dq.k3, by decide, .inr ⟨[], c2, rfl, fun G13 S13 H13 p13 W13 e13 fr13 h13 r13 => ?_⟩⟩
  refine ⟨by show 1 ≤ sizeLine; decide, fun u14 hu14 => ?_⟩
  obtain ⟨W14, e14⟩ := W13.new (o := .lst [.int 1]) hu14 True.intro
  have r14 : IsRow (upd G13 u14 (.lst [.int 1])) u14 [1] := upd_same
  refine ⟨dRow [1], dRow [1], dp_row ((r13.mono e14).mono W14.same), dp_row (r14.mono W14.same), (fine_row smO).shaped (by omega), (fine_row smO).shaped (by omega), true, by rw [eqv_row smO smO, decide_eq_true rfl], ifT rfl ?_⟩
  have h14 := h13.mono e14 fun _ _ z => z
  have kp14 := kp11.fr fr13 (by simpa using nx)
  -- undo
  obtain ⟨dx14, ra14, da14, ua14, dr14, ur14, g14, _⟩ := h14.op W14
  refine ⟨_, rfl, x, dx14, _, rfl, (W14.s _ _ _ g14).1, by kernel_rfl, x, z4, [c0], c1, T, _, S13, 16, rfl, W14, h14, Dq.k4, by decide, rfl, fun G15 S15 H15 p15 W15 e15 fr15 h15 r15 => ?_⟩
  refine ⟨by show 0 ≤ sizeLine; decide, fun u16 hu16 => ?_⟩
  obtain ⟨W16, e16⟩ := W15.new (o := .lst []) hu16 True.intro
  refine ⟨dRow [], dRow [], dp_row ((r15.mono e16).mono W16.same), dp_row upd_same, (fine_row smN).shaped (by omega), (fine_row smN).shaped (by omega), true, by rw [eqv_row smN smN, decide_eq_true rfl], ifT rfl ?_⟩
  have h16 := h15.mono e16 fun _ _ z => z
  have kp16 := kp14.fr fr15 (by simpa using nx)
  -- undo
  obtain ⟨dx16, ra16, da16, ua16, dr16, ur16, g16, _⟩ := h16.op W16
  refine ⟨_, rfl, x, dx16, _, rfl, (W16.s _ _ _ g16).1, by kernel_rfl, x, z5, [], c0, T, _, S15, 16, rfl, W16, h16, Dq.k5, by decide, rfl, fun G17 S17 H17 p17 W17 e17 fr17 h17 r17 => ?_⟩
  refine ⟨by show 0 ≤ sizeLine; decide, fun u18 hu18 => ?_⟩
  obtain ⟨W18, e18⟩ := W17.new (o := .lst []) hu18 True.intro
  refine ⟨dRow [], dRow [], dp_row ((r17.mono e18).mono W18.same), dp_row upd_same, (fine_row smN).shaped (by omega), (fine_row smN).shaped (by omega), ?_⟩
  rw [eqv_row smN smN, decide_eq_true rfl]
  refine h _ S17 _ W18 (((v0.trans e1).trans ((e3.trans e4).trans (e5.trans e6))).trans (((v1.trans e7).trans (e8.trans (e9.trans e10))).trans (((e11.trans e12).trans (e13.trans e14)).trans ((e15.trans e16).trans (e17.trans e18))))) ?_
  exact kp16.fr fr17 (by simpa using nx)
end
end Dq
set_option maxHeartbeats 2000000
/-! law. -/
namespace Dq
open PySem PySem.Spec PyProof.Rows L2
theorem pss_or {X : Cx} {b : List Stmt} {t1 t2 : TS} (h1 : PSs X b t1) (h2 : PSs X b t2) : PSs X b (fun D σ H => t1 D σ H ∨ t2 D σ H) :=
  ⟨fun pins s σ H D I h => h.elim (fun q => h1.run pins s σ H D I q) (fun q => h2.run pins s σ H D I q)⟩
structure Cm (P : Program) (w : World) (K : PySem.W.Frag) (mg : Str → Option Value) (base : Heap) (CX : CXT) (k : Nat) (C : Addr) (m : Str) (sp : Sp) : Prop where
  ex : ∃ p g, FnR P w K mg base CX k g sp ∧ ClX.CMet K C (.type "type") m p g
  rd : ClX.CRead K C (.type "type")
/-- C.m(e, ..), a classmethod -/
theorem pe_cm {X : Cx} {CX : CXT} {k j : Nat} {C : Addr} {sp : Sp} {E : XK} {x m : Str} {p pos apos : Pos} {e : Expr} {es : List Expr} {t : TA} {pl : Sem Bool} (c : Cm X.prog X.w X.K X.mg X.base CX j C m sp) (hm : X.mg x = some (.ref C)) (hr : Room k X.A) (hx : Passes CX X E) (ha : PA X (e :: es) t)
    (hj : j ≤ k := by decide) (hg : Gl X x := by rfl) (hdb : (x == ("__debug__" : Str)) = false := by decide)
    (hst : starEach (e :: es) X.env = (false, eval e X.env) :: starEach es X.env := by rfl) (hpl : (backTo pos (starEach es X.env)).any (·.1) = false := by rfl)
    (ht : eval (.Call (.Attribute (.Name x p) m apos) (e :: es) [] pos) X.env = (do
      let ov ← eval (.Name x p) X.env
      standAt apos.atName
      let (f, first) ← holding [ov] (getMethod ov m pl)
      callWith pos f first (backTo pos (starEach (e :: es) X.env)) (backToKw pos (keywordEach [] X.env))) := by rfl) :
    PE X (.Call (.Attribute (.Name x p) m apos) (e :: es) [] pos) (ClX.tCMeth C sp E (tC (.ref C)) t) := by
  obtain ⟨pp, g, F, h⟩ := c.ex
  exact ClX.pe_cmeth (pe_glob (v := .ref C) hg hm rfl hdb) c.rd h F (hr.mono hj) hx ha hst hpl ht
theorem LI.up {k : Bool} {r0 : List Int} {m n : Nat} {s : Se} (h : LI k r0 m s) (e : m ≤ n) : LI k r0 n s := ⟨h.kp, h.lim, h.ok.up e, h.ch⟩
/-- the state of a replayed one -/
def Se.fresh (c : Bool) (s : Se) : Se := ⟨c, s.row, 200, s.done, []⟩
theorem OkS.fresh {m : Nat} {s : Se} (h : OkS m s) (c : Bool) : OkS m (s.fresh c) := ⟨h.r, h.l, by show (200 : Nat) ≤ 200; decide, h.d, (fun d hd => by cases hd), (by have := h.n; show s.done.length + 0 ≤ m; omega)⟩
theorem LI.fresh {k : Bool} {r0 : List Int} {m : Nat} {s : Se} (h : LI k r0 m s) : LI k r0 m (s.fresh k) := ⟨rfl, rfl, h.ok.fresh k, h.ch⟩
theorem eqS_fresh {k c : Bool} {r0 : List Int} {m : Nat} {s : Se} (h : LI k r0 m s) : eqS (s.fresh c) s = decide (c = k) := by
  unfold eqS Se.fresh Se.log
  rw [h.kp, h.lim]
  simp
theorem repl {CS CK h x : Addr} {T : List (Addr × Str)} {G H : Hp} {S : Own} {b c : Bool} {r0 : List Int} {s : Se} {m : Nat} {Q : VK} {σ : L2.St} (W : Wd T G S H) (hx : Ses CS CK G S x s) (ha : IsRow G h r0) (li : LI b r0 m s) (hm : m ≤ 150) (sm : Sm r0) (hl : r0.length ≤ m) (hch : Chain c 200 r0 s.done s.row)
    (h3 : σ[3]? = some (some (.ref h))) (h5 : σ[5]? = some (some (.ref x)))
    (k : ∀ G' S' H' y, Wd T G' S' H' → Same G G' → Fr [y] S S' → Ses CS CK G' S' y (s.fresh c) → S y = none → Q (.ref y) H') :
    ClX.tCMeth (cof CS CK c) (spReplayed CS CK c) E0 (tC (.ref (cof CS CK c))) (tCons (tVar 3) (tCons (tMethR (cof CS CK b) "log" (spLog CS CK) E0 (tVar 5) tNil) tNil)) σ H Q := by
  obtain ⟨dx, ra, da, ua, dr, ur, g1, _⟩ := hx.op W
  rw [li.kp] at g1
  refine ⟨rfl, _, h3, _, h5, x, dx, _, rfl, (W.s _ _ _ g1).1, by kernel_rfl, x, s, T, G, S, m, rfl, W, hx, li.ok, by omega, fun G1 H1 q W1 e1 _ _ hlog => ?_⟩
  exact ⟨h, q, r0, s.row, s.done, T, G1, S, m, rfl, W1, ha.mono e1, hlog, hch, li.ok.fresh c, by omega, sm, hl, fun G' S' H' y W' e' fr hy sy => k G' S' H' y W' (e1.trans e') fr hy sy⟩
section
variable {P : Program} {w : World} {K : PySem.W.Frag} {mg : Str → Option Value} {base : Heap} {f CF CN CS CK : Addr}
abbrev nLaw : List Str := ["_law_script", "_law_k", "_law_pool_here", "_law_here", "_law_is_kept", "_law_session", "_law_turn", "_law_again", "_law_other", "_law_item"]
theorem scLaw : FnScope nLaw ["_law_script"] (defScope sLaw) := ⟨rfl, rfl, rfl, by decide +kernel, rfl, by decide +kernel, by decide +kernel⟩
structure LawC (P : Program) (w : World) (K : PySem.W.Frag) (mg : Str → Option Value) (base : Heap) (CS CK CF CN : Addr) (T : List (Addr × Str)) : Prop where
  mS : mg "Session" = some (.ref CS)
  mK : mg "KeptSession" = some (.ref CK)
  mkS : Mak P w K mg base CX0 5 CS (spInit CS CK)
  mkK : Mak P w K mg base CX0 5 CK (spInit CS CK)
  P' : Glo P w K mg base CX0 1 "_law_pool" (spPool K)
  T' : Glo P w K mg base CX0 1 "_law_take" spTake
  R : ∀ b, Prp P w K mg base CX0 1 (cof CS CK b) "row" (spRow CS CK)
  M : ∀ b, Prp P w K mg base CX0 1 (cof CS CK b) "limit" (spLimit CS CK)
  L : ∀ b, Mtd P w K mg base CX0 1 (cof CS CK b) "log" (spLog CS CK)
  W : ∀ b, Mtd P w K mg base CX0 7 (cof CS CK b) "twin" (spTwin CS CK b)
  S : ∀ b, Mtd P w K mg base CX0 3 (cof CS CK b) "set_limit" (spSetLimit CS CK)
  C : ∀ b, Cm P w K mg base CX0 7 (cof CS CK b) "replayed" (spReplayed CS CK b)
  Q : EqS P w K mg base 2 CS CK (spEq CS CK)
  st : GloG P w K mg base 9 "_law_step" (spStep CS CK T)
  al : GloG P w K mg base 10 "_law_alone" (spAlone CS CK T)
  un : Glo P w K mg base CX0 8 "_law_unlike" (spUnlike T)
  fu : GloG P w K mg base 8 "_law_full" (spFull CS CK T)
  em : GloG P w K mg base 8 "_law_empty_right" (spEmpty T)
/-- behind the session's making -/
theorem law_tail {T : List (Addr × Str)} {cdv : Value} {A : Around} {outer : List Env} {s0 : Shared} {H0 : Hp} {E : XK} (N : Nm mg) (c : LawC P w K mg base CS CK CF CN T)
    (hgd : (A.deeper (envOfC "law" (defScope sLaw) s0.heap.objs.size f cdv)).guards = some []) (hr : Room 10 (A.deeper (envOfC "law" (defScope sLaw) s0.heap.objs.size f cdv))) (b : Bool) :
    ∃ t, PSs (cxOf CX0 P w K mg base nLaw "law" (defScope sLaw) f cdv A outer s0 H0 E).nox ((forBody (defBody sLaw) 1).drop 4) t ∧
      ∀ (De : Ends) (a p h x : Addr) (r0 : List Int) (G : Hp) (S : Own) (o1 o6 o7 o8 o9 : Option V) (H : Hp), Wd T G S H → Pool S p → IsRow G h r0 → Sm r0 → r0.length ≤ 5 → r0 ≠ [] → Ses CS CK G S x (mkSe b r0) →
        (∀ G' S' H' o6 o7 o8, Wd T G' S' H' → Same G G' → De.nx [some (.ref a), o1, some (.ref p), some (.ref h), some (.bl b), some (.ref x), o6, o7, o8, o9] H') →
        t De [some (.ref a), o1, some (.ref p), some (.ref h), some (.bl b), some (.ref x), o6, o7, o8, o9] H := by
  have uq := hr.units
  refine ⟨_, pss_cons (ps_for PassesOwn.never rfl (pi_range1 (by rfl) N.range (pa_cons (pe_g c.T' hr pass0 (pa_cons (pv 2) (pa_cons pe_int pa_nil))) pa_nil)) (pg_name (i := 6) scLaw.nd rfl (Or.inl rfl))
      (pss_one (ps_if (PW.pt (pw_or (pt_not (pt_val (pe_gG c.st hgd hr (pa_cons (pv 2) (pa_cons (pv 5) (pa_cons (pv 4) pa_nil)))))) (pw_or1 (PW.pt (pw_and (pt_val (pv 4)) (pw_and1 (pt_cmpR (op_eqD uq) (pe_p (k := 9) (E := E0) (pv 5) (c.R b) hr) (pe_lst pa_nil) (nomark _)))))))) (pss_one (ps_ret pe_bl)) pss_nil)))
    (pss_cons (ps_set (i := 7) scLaw.nd rfl (Or.inl rfl) (pe_ifExp (pt_val (pv 4)) (pe_cm (c.C true) c.mK hr pass0 (pa_cons (pv 3) (pa_cons (pe_m0 (pv 5) (c.L b) hr pass0) pa_nil))) (pe_cm (c.C false) c.mS hr pass0 (pa_cons (pv 3) (pa_cons (pe_m0 (pv 5) (c.L b) hr pass0) pa_nil)))))
    (pss_cons (ps_set (i := 8) scLaw.nd rfl (Or.inl rfl) (pe_cm (c.C false) c.mS hr pass0 (pa_cons (pv 3) (pa_cons (pe_m0 (pv 5) (c.L b) hr pass0) pa_nil))))
    (pss_cons (ps_if (PW.pt (pw_or (pt_cmpR (op_neS (k := 9) c.Q hr) (pv 7) (pv 5) (nomark _)) (pw_or (pt_cmpR op_ne (pe_cmpR (op_eqS c.Q hr) (pv 8) (pv 5) (nomark _)) (pe_not (pv 4)) (nomark _)) (pw_or1 (pt_cmpR op_ne (pe_cmpR (op_eqS c.Q hr) (pv 5) (pv 8) (nomark _)) (pe_not (pv 4)) (nomark _)))))) (pss_one (ps_ret pe_bl)) pss_nil)
    (pss_cons (ps_if (PW.pt (pw_or (pt_not (pt_val (pe_gG c.al hgd hr (pa_cons (pv 5) (pa_cons (pe_m0 (pv 5) (c.W b) hr pass0) pa_nil))))) (pw_or1 (pt_not (pt_val (pe_gG c.al hgd hr (pa_cons (pv 7) (pa_cons (pe_m0 (pv 7) (c.W b) hr pass0) pa_nil)))))))) (pss_one (ps_ret pe_bl)) pss_nil)
    (pss_cons (ps_if (pt_not (pt_val (pe_g c.un hr pass0 (pa_cons (pv 3) pa_nil)))) (pss_one (ps_ret pe_bl)) pss_nil)
    (pss_cons (ps_expr (pe_m (pv 7) (c.S b) hr pass0 (pa_cons (pe_callB call_len_seq (by rfl) N.len (by decide +kernel) (pa_cons (pe_p (k := 9) (E := E0) (pv 7) (c.R b) hr) pa_nil)) pa_nil)))
    (pss_cons (ps_if (PW.pt (pw_or (pt_cmpR (op_eqS c.Q hr) (pv 7) (pv 5) (nomark _)) (pw_or (pt_cmpR (op_neS (k := 9) c.Q hr) (pe_m0 (pv 7) (c.W b) hr pass0) (pv 7) (nomark _)) (pw_or1 (pt_cmpR op_ne (pe_p (k := 9) (E := E0) (pe_m0 (pv 7) (c.W b) hr pass0) (c.M b) hr) (pe_callB call_len_seq (by rfl) N.len (by decide +kernel) (pa_cons (pe_p (k := 9) (E := E0) (pv 7) (c.R b) hr) pa_nil)) (nomark _)))))) (pss_one (ps_ret pe_bl)) pss_nil)
    (pss_cons (ps_if (pt_not (pt_val (pe_gG c.fu hgd hr (pa_cons (pv 7) pa_nil)))) (pss_one (ps_ret pe_bl)) pss_nil)
    (pss_one (ps_if (PW.pt (pw_or (pt_cmpR (op_eqS c.Q hr) (pv 5) (pe_p (k := 9) (E := E0) (pv 5) (c.R b) hr) (nomark _)) (pw_or (pt_cmpR (op_eqS c.Q hr) (pv 5) (pe_m0 (pv 5) (c.L b) hr pass0) (nomark _)) (pw_or1 (PW.pt (pw_and (pt_cmpR (op_eqS c.Q hr) (pe_m0 (pv 5) (c.W b) hr pass0) (pv 8) (nomark _)) (pw_and1 (pt_val (pv 4))))))))) (pss_one (ps_ret pe_bl)) pss_nil)))))))))), ?_⟩
  intro De a p h x r0 G S o1 o6 o7 o8 o9 H W hP ha sm hl hne hx k
  refine ⟨_, rfl, p, 11, T, G, S, rfl, by decide, by decide, W, hP, fun S1 H1 n W1 ch1 hP1 hn => ?_⟩
  have hx1 := hx.fr (Same.refl _) (ch1.fr hP) (by simpa using Ne.symm (hP.ne hx))
  have li0 : LI b r0 5 (mkSe b r0) := ⟨rfl, rfl, mk_ok sm hl, .nil⟩
  refine ⟨_, rfl, by omega, by omega, ?_⟩
  refine for_range (lo := 0) (fun i σ H' => ∃ G' S' s o6, σ = [some (.ref a), o1, some (.ref p), some (.ref h), some (.bl b), some (.ref x), o6, o7, o8, o9] ∧ Wd T G' S' H' ∧ Same G G' ∧ Pool S' p ∧ Ses CS CK G' S' x s ∧ LI b r0 (5 + 3 * i) s)
    ⟨G, S1, _, _, rfl, W1, Same.refl _, hP1, hx1, li0⟩ (fun i σ H' hi h' => ?_) (fun σ H' h' => ?_)
  · rw [Int.toNat_natCast] at hi
    obtain ⟨G2, S2, s, o6, rfl, W2, e2, hP2, hx2, li2⟩ := h'
    refine ⟨_, rfl, _, rfl, _, rfl, p, x, b, r0, s, G2, S2, _, rfl, W2, hP2, hx2, li2, by omega, fun G3 S3 H3 s3 W3 e3 fr3 hP3 hx3 li3 => ⟨true, rfl, ifF rfl ⟨_, rfl, b, rfl, ?_⟩⟩⟩
    have nxt : ∀ G4 H4 o6, Wd T G4 S3 H4 → Same G3 G4 → (∃ G' S' s o6', [some (.ref a), o1, some (.ref p), some (.ref h), some (.bl b), some (.ref x), o6, o7, o8, o9] = [some (.ref a), o1, some (.ref p), some (.ref h), some (.bl b), some (.ref x), o6', o7, o8, o9] ∧ Wd T G' S' H4 ∧ Same G G' ∧ Pool S' p ∧ Ses CS CK G' S' x s ∧ LI b r0 (5 + 3 * (i + 1)) s) := fun G4 H4 o6 W4 e4 =>
      ⟨G4, S3, s3, o6, rfl, W4, (e2.trans e3).trans e4, hP3, hx3.mono e4 (fun _ _ z => z), li3.up (by omega)⟩
    cases b with
    | false => exact ifF rfl (ifF rfl (nxt G3 H3 _ W3 (Same.refl _)))
    | true =>
      obtain ⟨dx, ra, da, ua, dr, ur, g3, _⟩ := hx3.op W3
      rw [li3.kp] at g3
      refine ifT rfl ⟨_, rfl, x, dx, _, rfl, (W3.s _ _ _ g3).1, x, s3, T, G3, S3, rfl, W3, hx3, fun q hq => ?_⟩
      obtain ⟨W4, e4⟩ := W3.new (o := .lst (s3.row.map V.int)) hq True.intro
      refine ⟨by show 0 ≤ sizeLine; decide, fun q2 hq2 => ?_⟩
      obtain ⟨W5, e5⟩ := W4.new (o := .lst []) hq2 True.intro
      have hrow : IsRow (upd G3 q (.lst (s3.row.map V.int))) q s3.row := upd_same
      have hfull := li3.ch.full hne
      refine ⟨dRow s3.row, dRow [], dp_row ((hrow.mono e5).mono W5.same), dp_row upd_same, (fine_row li3.ok.r).shaped (by omega), (fine_row smN).shaped (by omega), false, by rw [eqv_row li3.ok.r smN, decide_eq_false hfull], ifF rfl (nxt _ _ _ W5 (e4.trans e5))⟩
  rw [Int.toNat_natCast] at h'
  obtain ⟨G2, S2, s, o6', rfl, W2, e2, _, hx2, li2⟩ := h'
  have li : LI b r0 40 s := li2.up (by omega)
  have ok := li.ok
  have okl := ok.l
  have okn := ok.n
  have ha2 := ha.mono e2
  -- what follows the two replays
  have agn : ∀ {Q : VK}, (∀ G' S' H' y, Wd T G' S' H' → Same G2 G' → Ses CS CK G' S' x s → Ses CS CK G' S' y (s.fresh b) → x ≠ y → Q (.ref y) H') →
      tIf (tB (tVar 4)) (ClX.tCMeth (cof CS CK true) (spReplayed CS CK true) E0 (tC (.ref (cof CS CK true))) (tCons (tVar 3) (tCons (tMethR (cof CS CK b) "log" (spLog CS CK) E0 (tVar 5) tNil) tNil)))
        (ClX.tCMeth (cof CS CK false) (spReplayed CS CK false) E0 (tC (.ref (cof CS CK false))) (tCons (tVar 3) (tCons (tMethR (cof CS CK b) "log" (spLog CS CK) E0 (tVar 5) tNil) tNil)))
        [some (.ref a), o1, some (.ref p), some (.ref h), some (.bl b), some (.ref x), o6', o7, o8, o9] H' Q := fun {Q} k2 => by
    refine ⟨_, rfl, b, rfl, ?_⟩
    cases b with
    | true => exact ifT rfl (repl W2 hx2 ha2 li (by omega) sm (by omega) li.ch rfl rfl fun G' S' H' y W' e' fr hy sy => k2 G' S' H' y W' e' (hx2.fr e' fr (by simpa using hx2.other sy)) hy (hx2.other sy))
    | false => exact ifF rfl (repl W2 hx2 ha2 li (by omega) sm (by omega) li.ch rfl rfl fun G' S' H' y W' e' fr hy sy => k2 G' S' H' y W' e' (hx2.fr e' fr (by simpa using hx2.other sy)) hy (hx2.other sy))
  refine agn fun G3 S3 H3 y W3 e3 hx3 hy3 nxy => ?_
  refine repl W3 hx3 (ha2.mono e3) li (by omega) sm (by omega) li.ch.any rfl rfl fun G4 S4 H4 z W4 e4 fr4 hz4 sz => ?_
  have nxz := hx3.other sz
  have nyz := hy3.other sz
  have hx4 := hx3.fr e4 fr4 (by simpa using nxz)
  have hy4 := hy3.fr e4 fr4 (by simpa using nyz)
  have liR := li.fresh
  have okR := liR.ok
  have okO := ok.fresh false
  have ek : (s.fresh b).kept = s.kept := li.kp.symm
  refine ⟨_, rfl, _, rfl, ne_ses W4 hy4 hx4 ek okR ok (by omega) fun G5 H5 W5 e5 => ⟨false, by rw [eqS_fresh li]; simp, ifF rfl ?_⟩⟩
  have hx5 := hx4.mono e5 fun _ _ q => q
  have hy5 := hy4.mono e5 fun _ _ q => q
  have hz5 := hz4.mono e5 fun _ _ q => q
  have eO : eqS (s.fresh false) s = !b := by rw [eqS_fresh li]; cases b <;> rfl
  refine ⟨_, rfl, _, rfl, eq_ses W5 hz5 hx5 okO ok (by omega) fun G6 H6 W6 e6 => ?_⟩
  rw [eO]
  refine ⟨_, rfl, b, rfl, rfl, false, by simp, ifF rfl ?_⟩
  have hx6 := hx5.mono e6 fun _ _ q => q
  have hy6 := hy5.mono e6 fun _ _ q => q
  have hz6 := hz5.mono e6 fun _ _ q => q
  refine ⟨_, rfl, _, rfl, eq_ses W6 hx6 hz6 ok okO (by omega) fun G7 H7 W7 e7 => ?_⟩
  rw [eqS_comm, eO]
  refine ⟨_, rfl, b, rfl, rfl, false, by simp, ifF rfl ?_⟩
  have hx7 := hx6.mono e7 fun _ _ q => q
  have hy7 := hy6.mono e7 fun _ _ q => q
  have hz7 := hz6.mono e7 fun _ _ q => q
  -- alone, twice
  obtain ⟨dx7, ra7, da7, ua7, dr7, ur7, x7, _⟩ := hx7.op W7
  rw [li.kp] at x7
  refine ⟨_, rfl, _, rfl, x, dx7, _, rfl, (W7.s _ _ _ x7).1, by kernel_rfl, x, s, T, G7, S4, rfl, li.kp, W7, hx7, ok.r, by omega, fun G8 S8 H8 t1 W8 e8 fr8 ht8 st1 => ?_⟩
  have nxt := hx7.other st1
  have nyt := hy7.other st1
  have nzt := hz7.other st1
  have hx8 := hx7.fr e8 fr8 (by simpa using nxt)
  have hy8 := hy7.fr e8 fr8 (by simpa using nyt)
  have hz8 := hz7.fr e8 fr8 (by simpa using nzt)
  refine ⟨x, t1, b, r0, s, G8, S8, 40, rfl, W8, hx8, ht8, nxt, li, by omega, fun G9 S9 H9 W9 e9 kp9 hx9 => ⟨true, rfl, ifF rfl ?_⟩⟩
  have hy9 := hy8.kp e9 kp9 (by simp; exact ⟨Ne.symm nxy, nyt⟩)
  have hz9 := hz8.kp e9 kp9 (by simp; exact ⟨Ne.symm nxz, nzt⟩)
  obtain ⟨dy9, ra9, da9, ua9, dr9, ur9, y9, _⟩ := hy9.op W9
  rw [liR.kp] at y9
  refine ⟨_, rfl, _, rfl, y, dy9, _, rfl, (W9.s _ _ _ y9).1, by kernel_rfl, y, _, T, G9, S9, rfl, liR.kp, W9, hy9, okR.r, Nat.le_trans okR.l (by omega), fun G10 S10 H10 t2 W10 e10 fr10 ht10 st2 => ?_⟩
  have nxt2 := hx9.other st2
  have nyt2 := hy9.other st2
  have nzt2 := hz9.other st2
  have hx10 := hx9.fr e10 fr10 (by simpa using nxt2)
  have hy10 := hy9.fr e10 fr10 (by simpa using nyt2)
  have hz10 := hz9.fr e10 fr10 (by simpa using nzt2)
  refine ⟨y, t2, b, r0, _, G10, S10, 40, rfl, W10, hy10, ht10, nyt2, liR, by omega, fun G11 S11 H11 W11 e11 kp11 hy11 => ⟨true, rfl, ifF rfl ?_⟩⟩
  have hx11 := hx10.kp e11 kp11 (by simp; exact ⟨nxy, nxt2⟩)
  have hz11 := hz10.kp e11 kp11 (by simp; exact ⟨Ne.symm nyz, nzt2⟩)
  have eG := ((e2.trans e3).trans (e4.trans e5)).trans (((e6.trans e7).trans (e8.trans e9)).trans (e10.trans e11))
  -- unlike
  refine ⟨_, rfl, h, r0, G11, S11, rfl, W11, ha.mono eG, sm, by omega, fun G12 S12 H12 W12 e12 kp12 => ⟨true, rfl, ifF rfl ?_⟩⟩
  have hx12 := hx11.kp e12 kp12 (by simp)
  have hy12 := hy11.kp e12 kp12 (by simp)
  have hz12 := hz11.kp e12 kp12 (by simp)
  -- set_limit
  obtain ⟨dy12, ra12, da12, ua12, dr12, ur12, y12, _⟩ := hy12.op W12
  rw [liR.kp] at y12
  refine ⟨_, rfl, y, dy12, _, rfl, (W12.s _ _ _ y12).1, by kernel_rfl, _, rfl, y, dy12, _, rfl, (W12.s _ _ _ y12).1, y, _, T, G12, S12, rfl, W12, hy12, fun u1 hu1 => ?_⟩
  obtain ⟨W13, e13⟩ := W12.new (o := .lst ((s.fresh b).row.map V.int)) hu1 True.intro
  refine ⟨u1, _, rfl, .inl (SqL.of upd_same), ?_⟩
  refine ⟨y, s.row.length, s.fresh b, T, _, S12, by rw [List.length_map]; rfl, W13, hy12.mono e13 (fun _ _ q => q), Nat.le_refl _, by omega, fun S14 H14 W14 fr14 hy14 => ?_⟩
  have hx14 := (hx12.mono e13 fun _ _ q => q).fr (Same.refl _) fr14 (by simpa using nxy)
  have hz14 := (hz12.mono e13 fun _ _ q => q).fr (Same.refl _) fr14 (by simpa using Ne.symm nyz)
  have ok2 : OkS 40 { s.fresh b with lim := s.row.length } := ⟨okR.r, okR.l, by show s.row.length ≤ 200; omega, okR.d, okR.e, okR.n⟩
  have hlim : eqS { s.fresh b with lim := s.row.length } s = false := by
    have : s.row.length ≠ s.lim := by rw [li.lim]; omega
    unfold eqS
    rw [decide_eq_false this]
    simp
  refine ⟨_, rfl, _, rfl, eq_ses W14 hy14 hx14 ok2 ok (by omega) fun G15 H15 W15 e15 => ⟨_, congrArg V.bl hlim, ifF rfl ?_⟩⟩
  have hx15 := hx14.mono e15 fun _ _ q => q
  have hy15 := hy14.mono e15 fun _ _ q => q
  have hz15 := hz14.mono e15 fun _ _ q => q
  obtain ⟨dy15, ra15, da15, ua15, dr15, ur15, y15, _⟩ := hy15.op W15
  refine ⟨_, rfl, y, dy15, _, rfl, (W15.s _ _ _ y15).1, by kernel_rfl, y, _, T, G15, S14, rfl, rfl, W15, hy15, ok2.r, Nat.le_trans ok2.l (by omega), fun G16 S16 H16 t3 W16 e16 fr16 ht16 st3 => ?_⟩
  have hx16 := hx15.fr e16 fr16 (by simpa using hx15.other st3)
  have hy16 := hy15.fr e16 fr16 (by simpa using hy15.other st3)
  have hz16 := hz15.fr e16 fr16 (by simpa using hz15.other st3)
  refine ⟨_, rfl, ne_ses W16 ht16 hy16 rfl ok2 ok2 (by omega) fun G17 H17 W17 e17 => ⟨false, by rw [eqS_refl]; rfl, ifF rfl ?_⟩⟩
  have hx17 := hx16.mono e17 fun _ _ q => q
  have hy17 := hy16.mono e17 fun _ _ q => q
  have hz17 := hz16.mono e17 fun _ _ q => q
  obtain ⟨dy17, ra17, da17, ua17, dr17, ur17, y17, _⟩ := hy17.op W17
  refine ⟨_, rfl, y, dy17, _, rfl, (W17.s _ _ _ y17).1, by kernel_rfl, y, _, T, G17, S16, rfl, rfl, W17, hy17, ok2.r, Nat.le_trans ok2.l (by omega), fun G18 S18 H18 t4 W18 e18 fr18 ht18 st4 => ?_⟩
  have hx18 := hx17.fr e18 fr18 (by simpa using hx17.other st4)
  have hy18 := hy17.fr e18 fr18 (by simpa using hy17.other st4)
  have hz18 := hz17.fr e18 fr18 (by simpa using hz17.other st4)
  obtain ⟨dt18, a18, b18, c18, d18, e18', t18, _⟩ := ht18.op W18
  obtain ⟨dy18, ra18, da18, ua18, dr18, ur18, y18, _⟩ := hy18.op W18
  refine ⟨t4, dt18, _, rfl, (W18.s _ _ _ t18).1, t4, _, T, G18, S18, rfl, W18, ht18, ?_⟩
  refine ⟨_, rfl, y, dy18, _, rfl, (W18.s _ _ _ y18).1, y, _, T, G18, S18, rfl, W18, hy18, fun u2 hu2 => ?_⟩
  obtain ⟨W19, e19⟩ := W18.new (o := .lst (({ s.fresh b with lim := s.row.length } : Se).row.map V.int)) hu2 True.intro
  refine ⟨u2, _, rfl, .inl (SqL.of upd_same), rfl, false, ?_, ifF rfl ?_⟩
  · rw [List.length_map]
    have e : decide (V.int (({ s.fresh b with lim := s.row.length } : Se).lim : Int) = V.int (({ s.fresh b with lim := s.row.length } : Se).row.length : Int)) = true := decide_eq_true rfl
    rw [e]
    rfl
  have hx19 := hx18.mono e19 fun _ _ q => q
  have hy19 := hy18.mono e19 fun _ _ q => q
  have hz19 := hz18.mono e19 fun _ _ q => q
  -- full
  refine ⟨_, rfl, y, _, _, S18, 40, rfl, W19, hy19, ok2, by omega, rfl, ?_, fun G20 S20 H20 W20 e20 kp20 => ⟨true, rfl, ifF rfl ?_⟩⟩
  · intro hk
    have hk : b = true := hk
    subst hk
    exact li.ch.full hne
  have hx20 := hx19.kp e20 kp20 (by simpa using nxy)
  have hz20 := hz19.kp e20 kp20 (by simpa using Ne.symm nyz)
  have eG2 := ((eG.trans e12).trans (e13.trans e15)).trans (((e16.trans e17).trans (e18.trans e19)).trans e20)
  -- the last test
  obtain ⟨dx20, ra20, da20, ua20, dr20, ur20, x20, _⟩ := hx20.op W20
  have x20' := x20
  rw [li.kp] at x20
  refine ⟨_, rfl, _, rfl, x, dx20, _, rfl, (W20.s _ _ _ x20).1, x, s, T, G20, S20, rfl, W20, hx20, fun u3 hu3 => ?_⟩
  obtain ⟨W21, e21⟩ := W20.new (o := .lst (s.row.map V.int)) hu3 True.intro
  have hx21 := hx20.mono e21 fun _ _ q => q
  refine ⟨x, u3, rfl, rfl, s.kept, dx20, _, (W21.s _ _ _ x20').1, .inr ⟨_, upd_same, x, u3, s, T, _, S20, 40, rfl, W21, hx21, ok, by omega, .inl ⟨_, upd_same, false, rfl, ifF rfl ?_⟩⟩⟩
  refine ⟨_, rfl, _, rfl, x, dx20, _, rfl, (W21.s _ _ _ x20).1, by kernel_rfl, x, s, T, _, S20, 40, rfl, W21, hx21, ok, by omega, fun G22 H22 u4 W22 e22 _ _ hlog => ?_⟩
  have hx22 := hx21.mono e22 fun _ _ q => q
  obtain ⟨rs, hl1, _⟩ := hlog
  refine ⟨x, u4, rfl, rfl, s.kept, dx20, _, (W22.s _ _ _ x20').1, .inr ⟨_, W22.same _ _ hl1, x, u4, s, T, _, S20, 40, rfl, W22, hx22, ok, by omega, .inl ⟨_, W22.same _ _ hl1, false, rfl, ifF rfl ?_⟩⟩⟩
  refine ⟨_, rfl, x, dx20, _, rfl, (W22.s _ _ _ x20).1, by kernel_rfl, x, s, T, G22, S20, rfl, li.kp, W22, hx22, ok.r, by omega, fun G23 S23 H23 t5 W23 e23 fr23 ht23 st5 => ?_⟩
  have hz22 := hz20.mono (e21.trans e22) fun _ _ q => q
  have hz23 := hz22.fr e23 fr23 (by simpa using hz22.other st5)
  refine ⟨_, rfl, eq_ses W23 ht23 hz23 ok okO (by omega) fun G24 H24 W24 e24 => ?_⟩
  rw [eqS_comm, eO]
  have eEnd := (eG2.trans (e21.trans e22)).trans (e23.trans e24)
  refine ⟨!b, rfl, ?_⟩
  cases b with
  | true => exact ifF rfl (ifF rfl (k G24 S23 H24 _ _ _ W24 eEnd))
  | false => exact ifT rfl ⟨_, rfl, false, rfl, ifF rfl (k G24 S23 H24 _ _ _ W24 eEnd)⟩
end
end Dq
set_option maxHeartbeats 2000000
/-! law itself. -/
namespace Dq
open PySem PySem.Spec PyProof.Rows L2
section
variable {P : Program} {w : World} {K : PySem.W.Frag} {mg : Str → Option Value} {base : Heap} {f CF CN CS CK : Addr}
def spLaw (K : PySem.W.Frag) (T : List (Addr × Str)) : Sp := fun vs H Q _ => ∃ (a : Addr) (ns : List Int) (G : Hp) (S : Own), vs = [.ref a] ∧ Wd T G S H ∧ SqL K G a (ns.map V.int) ∧ ns.length ≤ 1000 ∧ ∀ H', Q (.bl true) H'
theorem f_law {T : List (Addr × Str)} (N : Nm mg) (c : LawC P w K mg base CS CK CF CN T) (F : IsFn K "law" "law" sLaw f) : FnG P w K mg base CX0 11 f (spLaw K T) := by
  refine fnG (k := 10) F scLaw (fun _ _ _ _ _ _ us hl => match us, hl with | [_], _ => rfl) (fun _ _ _ _ ⟨_, _, _, _, h, _⟩ => by rw [h]; rfl) fun cdv A outer s0 H vs Q E hgd hr h lk => ?_
  obtain ⟨a, ns, G, S, rfl, W, ha, hl, h⟩ := h
  obtain ⟨t1, ht1, tail1⟩ := law_tail (f := f) (cdv := cdv) (A := A) (outer := outer) (s0 := s0) (H0 := H) (E := E) N c hgd hr true
  obtain ⟨t2, ht2, tail2⟩ := law_tail (f := f) (cdv := cdv) (A := A) (outer := outer) (s0 := s0) (H0 := H) (E := E) N c hgd hr false
  refine ⟨_, pss_cons (ps_if (pt_not (pt_val (pe_gG0 c.em hgd hr))) (pss_one (ps_ret pe_bl)) pss_nil)
    (pss_cons (ps_for PassesOwn.never rfl (pi_range1 (by rfl) N.range (pa_cons (pe_callB (call_max2 rfl) (by rfl) N.max (by decide +kernel) (pa_cons pe_int (pa_cons (pe_callB (call_min2 rfl) (by rfl) N.min (by decide +kernel) (pa_cons (pe_callB call_len_seq (by rfl) N.len (by decide +kernel) (pa_cons (pv 0) pa_nil)) (pa_cons pe_int pa_nil))) pa_nil))) pa_nil)) (pg_name (i := 1) scLaw.nd rfl (Or.inl rfl))
      (pss_cons (ps_set (i := 2) scLaw.nd rfl (Or.inr rfl) (pe_g c.P' hr pass0 (pa_cons (pv 0) (pa_cons (pv 1) pa_nil))))
      (pss_cons (ps_setLc (i := 3) (own := [("_law_item", 9)]) (g := gName 9) (tt := tYes) rfl scLaw.nd rfl rfl (sw_true rfl rfl rfl (by decide +kernel)) (pi_range1 (by rfl) N.range (pa_cons (pe_op op_add pe_int (pe_g c.T' hr pass0 (pa_cons (pv 2) (pa_cons pe_int pa_nil)))) pa_nil)) (blkOk_by (N := nLaw) (sc := defScope sLaw) (by decide +kernel))
        (fun _ _ _ _ _ => pg_name (i := 9) scLaw.nd rfl (Or.inl rfl)) (fun _ _ _ _ _ => pts_nil) (fun _ _ _ _ _ => pe_g c.T' hr pass0 (pa_cons (pv 2) (pa_cons pe_int pa_nil))))
      (pss_cons (ps_set (i := 4) scLaw.nd rfl (Or.inl rfl) (pe_cmpR op_eq (pe_g c.T' hr pass0 (pa_cons (pv 2) (pa_cons pe_int pa_nil))) pe_int (nomark _)))
      (pss_cons (ps_set (i := 5) scLaw.nd rfl (Or.inl rfl) (pe_ifExp (pt_val (pv 4)) (pe_mk (k := 5) c.mkK c.mK (hr.mono (by decide)) pass0 (pa_cons (pv 3) pa_nil)) (pe_mk (k := 5) c.mkS c.mS (hr.mono (by decide)) pass0 (pa_cons (pv 3) pa_nil))))
      (pss_or ht1 ht2))))))
    (pss_one (ps_ret pe_bl))), ?_⟩
  refine ⟨G, S, rfl, W, fun G1 S1 H1 W1 e1 kp1 => ⟨true, rfl, ifF rfl ?_⟩⟩
  have ha1 := e1.seq ha
  refine ⟨_, rfl, a, _, rfl, .inl (W1.same.seq ha1), _, _, rfl, _, _, rfl, ?_⟩
  have hb : ∀ n : Nat, 1 ≤ (if (if (4 : Int) < (n : Int) then (4 : Int) else n) > 1 then (if (4 : Int) < (n : Int) then (4 : Int) else n) else 1) ∧ (if (if (4 : Int) < (n : Int) then (4 : Int) else n) > 1 then (if (4 : Int) < (n : Int) then (4 : Int) else n) else 1) ≤ 4 := fun n => by
    split <;> split at * <;> omega
  have hb2 := hb (ns.map V.int).length
  refine ⟨_, rfl, by omega, by omega, ?_⟩
  refine for_range (lo := 0) (fun i σ H' => ∃ G' S' o1 o2 o3 o4 o5 o6 o7 o8 o9, σ = [some (.ref a), o1, o2, o3, o4, o5, o6, o7, o8, o9] ∧ Wd T G' S' H' ∧ Same G1 G') ⟨G1, S1, _, _, _, _, _, _, _, _, _, rfl, W1, Same.refl _⟩ (fun i σ H' hi h' => ?_) (fun σ H' _ => h H')
  obtain ⟨G2, S2, o1, o2, o3, o4, o5, o6, o7, o8, o9, rfl, W2, e2⟩ := h'
  have hi4 : i < 4 := by omega
  refine ⟨_, rfl, _, rfl, a, ns, i, by rw [Int.zero_add], W2.same.seq (e2.seq ha1), hl, by omega, fun cc ee p hc he1 he2 hp => ?_⟩
  have W3 := W2.newS (o := .lst [.int cc, .int ee]) hp True.intro p
  have hP3 : Pool (updS S2 p p (.lst [.int cc, .int ee])) p := ⟨cc, ee, hc, he1, he2, updS_same⟩
  refine ⟨_, rfl, p, 5, T, G2, _, rfl, by decide, by decide, W3, hP3, fun S4 H4 k4 W4 ch4 hP4 hk4 => ⟨_, _, rfl, rfl, _, rfl, by omega, by omega, fun D hD => ?_⟩⟩
  have W5 := W4.newS (o := .lst []) hD True.intro D
  have npD : p ≠ D := by
    obtain ⟨_, _, _, _, _, q⟩ := hP4
    exact ne_of_none (W4.s _ _ _ q).1 hD
  have hP5 : Pool (updS S4 D D (.lst [])) p := by
    obtain ⟨x1, x2, q1, q2, q3, q4⟩ := hP4
    exact ⟨x1, x2, q1, q2, q3, by rw [updS_ne npD]; exact q4⟩
  refine lc_range (lo := 0) (fun j H' => ∃ S' r, Wd T G2 S' H' ∧ Pool S' p ∧ S' D = some (D, .lst (r.map V.int)) ∧ Sm r ∧ r.length = j) ⟨_, [], W5, hP5, updS_same, smN, rfl⟩ (fun j H' hj h' => ?_) (fun H' h' => ?_)
  · obtain ⟨S6, r, W6, hP6, hD6, hsr, hlr⟩ := h'
    refine ⟨rfl, _, rfl, p, 2, T, G2, S6, rfl, by decide, by decide, W6, hP6, fun S7 H7 v W7 ch7 hP7 hv => ?_⟩
    have hD7 : S7 D = some (D, .lst (r.map V.int)) := by rw [ch7 D (Ne.symm npD)]; exact hD6
    refine ⟨_, (W7.s _ _ _ hD7).1, ?_, ?_⟩
    · rw [List.length_map]
      exact thou (by omega)
    have W8 := W7.wr (o' := .lst (r.map V.int ++ [.int v])) hD7 True.intro
    refine ⟨_, r ++ [(v : Int)], W8, ?_, ?_, ?_, ?_⟩
    · obtain ⟨x1, x2, q1, q2, q3, q4⟩ := hP7
      exact ⟨x1, x2, q1, q2, q3, by rw [updS_ne npD]; exact q4⟩
    · rw [updS_same]
      simp
    · intro z hz
      rcases List.mem_append.mp hz with q | q
      · exact hsr z q
      · rw [List.mem_singleton.mp q]
        exact ⟨by omega, by omega⟩
    · simp [hlr]
  obtain ⟨S6, r, W6, hP6, hD6, hsr, hlr⟩ := h'
  obtain ⟨W7, e7⟩ := W6.freeze hD6
  have hP7 : Pool (dropS S6 D) p := by
    obtain ⟨x1, x2, q1, q2, q3, q4⟩ := hP6
    exact ⟨x1, x2, q1, q2, q3, by show (if p = D then none else S6 p) = _; rw [if_neg npD]; exact q4⟩
  have hrD : IsRow (upd G2 D (.lst (r.map V.int))) D r := upd_same
  have hr5 : r.length ≤ 5 := by omega
  have hrne : r ≠ [] := fun z => by
    rw [z] at hlr
    simp only [List.length_nil] at hlr
    omega
  refine ⟨_, rfl, p, 2, T, _, _, rfl, by decide, by decide, W7, hP7, fun S8 H8 k8 W8 ch8 hP8 hk8 => ⟨rfl, ?_⟩⟩
  generalize decide (V.int (k8 : Int) = V.int 0) = b
  refine ⟨_, rfl, b, rfl, ?_⟩
  have nxt : ∀ G' S' H' o6 o7 o8 x, Wd T G' S' H' → Same (upd G2 D (.lst (r.map V.int))) G' → ∃ G'' S'' o1' o2' o3' o4' o5' o6' o7' o8' o9', [some (V.ref a), some (V.int (0 + (i : Nat))), some (V.ref p), some (V.ref D), some (V.bl b), some (V.ref x), o6, o7, o8, o9] = [some (.ref a), o1', o2', o3', o4', o5', o6', o7', o8', o9'] ∧ Wd T G'' S'' H' ∧ Same G1 G'' :=
    fun G' S' H' o6 o7 o8 x W' e' => ⟨G', S', _, _, _, _, _, _, _, _, _, rfl, W', (e2.trans e7).trans e'⟩
  cases b with
  | true =>
    refine ifT rfl ⟨_, rfl, fun x dd na nb nc => mk_at (CS := CS) (CK := CK) (b := true) rfl W8 na nb nc (hrD.mono W8.same) hsr (by omega) fun G9 S9 H9 W9 e9 f9 h9 s9 => ⟨rfl, .inl ?_⟩⟩
    exact tail1 _ a p D x r G9 S9 _ _ _ _ _ H9 W9 (hP8.mono f9 (by simp)) (hrD.mono e9) hsr hr5 hrne h9 fun G' S' H' o6 o7 o8 W' e' => nxt G' S' H' o6 o7 o8 x W' (e9.trans e')
  | false =>
    refine ifF rfl ⟨_, rfl, fun x dd na nb nc => mk_at (CS := CS) (CK := CK) (b := false) rfl W8 na nb nc (hrD.mono W8.same) hsr (by omega) fun G9 S9 H9 W9 e9 f9 h9 s9 => ⟨rfl, .inr ?_⟩⟩
    exact tail2 _ a p D x r G9 S9 _ _ _ _ _ H9 W9 (hP8.mono f9 (by simp)) (hrD.mono e9) hsr hr5 hrne h9 fun G' S' H' o6 o7 o8 W' e' => nxt G' S' H' o6 o7 o8 x W' (e9.trans e')
end
end Dq
set_option maxHeartbeats 200000
/-! KeptSession.after: super().after(..). -/
namespace Dq
open PySem PySem.Spec PyProof.Rows L2
abbrev supEnv (L f cda cc : Addr) : Env := PySem.W.ksEnv "KeptSession.after" (defScope sAfterK) L f (.ref cda) cc
abbrev nSup : List Str := ["self", "row", "step", "found"]
/-- the context of the body -/
def supCx (P : Program) (w : World) (K : PySem.W.Frag) (mg : Str → Option Value) (base : Heap) (A : Around) (outer : List Env) (s : Shared) (H : Hp) (f cda cc : Addr) : Cx where
  prog := P
  w := w
  K := K
  mg := mg
  base := base
  A := A.deeper (supEnv s.heap.objs.size f cda cc)
  N := nSup
  s_0 := s
  H_0 := H
  env := supEnv s.heap.objs.size f cda cc
  outer := outer
  stack := supEnv s.heap.objs.size f cda cc :: outer
  ex := []
  fn := fun _ => false
  calm := true
  pn := []
  xe := fun _ _ => False
structure SupTxt (P : Program) (K : PySem.W.Frag) (mg : Str → Option Value) (CK f cc cda f2 : Addr) : Prop where
  fn : ∃ oc od kV doc pm an ct osl, K.lookup f = some ⟨oc, od, .func (PySem.W.ksFn "after" "KeptSession.after" (defArgs sAfterK) (defBody sAfterK) (defScope sAfterK) .none kV doc pm an (.ref cda) ct cc), osl⟩
  ci : PySem.W.codeIn K (.ref cda) "KeptSession.after" = true
  code : ∃ ccl cdd vs ccs file tf, K.lookup cda = some ⟨ccl, cdd, .fields vs, ccs⟩ ∧ vs[2]? = some (.str file tf) ∧ ((P.main.file : Str) == file) = true
  cell : ∃ cl cld csl, K.lookup cc = some ⟨cl, cld, .cell (some (.ref CK)), csl⟩
  cls : ∃ cd, PySem.W.clsIn K CK = some cd
  sub : PySem.W.mroIn K CK (.ref CK) = some true
  top : (P.main.scope.names.lookup ("super" : Str)).isSome = false
  st : PySem.W.nsIn K cStatics "thirdparty.any" = some none
  m2 : PySem.W.ks_superIn K CK CK "after" = some (some (.ref f2))
  t2 : PySem.W.typeIn K (.ref f2) = some (.type "function")
  fi : PySem.W.fnIn K f2 = true
section
variable {P : Program} {w : World} {K : PySem.W.Frag} {mg : Str → Option Value} {base : Heap} {f f2 cc cda CS CK : Addr}
theorem sup_only {L f cda cc c : Addr} {y : Str} (e : (supEnv L f cda cc).cells.lookup y = some c) : y = "__class__" ∧ c = cc := by
  have e2 : List.lookup y [(("__class__" : Str), cc)] = some c := e
  unfold List.lookup at e2
  split at e2
  · rename_i h
    exact ⟨by simpa using h, (Option.some.inj e2).symm⟩
  · cases e2
theorem sup_free {y : Str} (hy : (defScope sAfterK).names.lookup y = some .cell ∨ (defScope sAfterK).names.lookup y = some .free) : y = "__class__" := by
  have hh : ∀ p ∈ (defScope sAfterK).names, p.2 ≠ .cell ∧ (p.2 = .free → p.1 = ("__class__" : Str)) := by decide +kernel
  rcases hy with hy | hy
  · exact absurd rfl (hh _ (PySem.mem_of_lookup hy)).1
  · exact (hh _ (PySem.mem_of_lookup hy)).2 rfl
theorem sup_look0 {u0 u1 u2 : Value} : ((["self", "row", "step"] : List Str).zip [u0, u1, u2]).reverse.lookup ("self" : Str) = some u0 := by kernel_rfl
theorem sup_look1 {u0 u1 u2 : Value} : ((["self", "row", "step"] : List Str).zip [u0, u1, u2]).reverse.lookup ("row" : Str) = some u1 := by kernel_rfl
theorem sup_look2 {u0 u1 u2 : Value} : ((["self", "row", "step"] : List Str).zip [u0, u1, u2]).reverse.lookup ("step" : Str) = some u2 := by kernel_rfl
theorem sup_loc0 : (defScope sAfterK).names.lookup ("self" : Str) = some .local := by kernel_rfl
theorem sup_loc1 : (defScope sAfterK).names.lookup ("row" : Str) = some .local := by kernel_rfl
theorem sup_loc2 : (defScope sAfterK).names.lookup ("step" : Str) = some .local := by kernel_rfl
theorem sup_kind : (defScope sAfterK).kind = .function := by kernel_rfl
theorem sup_start {A : Around} {outer : List Env} {s : Shared} {H : Hp} {h₁ : Heap} {tk : Nat} {v0 v1 v2 : V} {u0 u1 u2 : Value} (e0 : Env0 P w K mg base A outer s H) (hd : A.handled = none) (hcc : H cc = none) (hcell : s.heap.IsCell cc (some (.ref CK)))
    (r0 : RelV v0 u0) (r1 : RelV v1 u1) (r2 : RelV v2 u2)
    (hns : h₁.Ns s.heap.objs.size fun y => ((["self", "row", "step"] : List Str).zip [u0, u1, u2]).reverse.lookup y) (kp : ∀ b o, s.heap.get? b = some o → h₁.get? b = some o) :
    Inv (supCx P w K mg base A outer s H f cda cc) [] [some v0, some v1, some v2, none] H { s with heap := h₁, toks := tk } := by
  have noA : ∀ b : Addr, b ∉ (supCx P w K mg base A outer s H f cda cc).ex := fun b z => absurd (show b ∈ ([] : List Addr) from z) (by simp)
  have okX : (supCx P w K mg base A outer s H f cda cc).Ok := by
    refine ⟨e0.mod, sup_kind, rfl, rfl, Nat.le_refl _, fun y z c e1 e2 => ?_, fun y hy => ?_, fun y c z _ => ?_, fun _ => hd, Around.frames_deeper e0.frames, .inr ⟨rfl, rfl⟩, fun b z => absurd z (noA b), e0.bs, e0.bsz, fun b _ _ => noA b,
      fun b z => absurd z (noA b), e0.funs, e0.frf⟩
    · rw [(sup_only e1).1, (sup_only e2).1]
    · rw [sup_free hy]
      exact ⟨cc, by kernel_rfl⟩
    · exact absurd (show false = true from z) Bool.false_ne_true
  refine ⟨okX, rfl, e0.bare, Un.kept kp, ⟨_, hns, fun i y v e1 e2 e3 => ?_⟩, fun y c e => ?_, e0.hok.fresh (Nat.le_refl _), fun y c e => ?_, fun q hq => absurd (show q ∈ ([] : List (Addr × Obj)) ++ [] from hq) (by simp), e0.hok.kept kp, rfl⟩
  · have e1 : nSup[i]? = some y := e1
    have e2 : ([some v0, some v1, some v2, none] : List (Option V))[i]? = some (some v) := e2
    clear e3
    match i, e1, e2 with
    | 0, e1, e2 =>
      obtain rfl : ("self" : Str) = y := Option.some.inj e1
      obtain rfl : v0 = v := Option.some.inj (Option.some.inj e2)
      exact ⟨u0, r0, .inl ⟨sup_loc0, sup_look0⟩⟩
    | 1, e1, e2 =>
      obtain rfl : ("row" : Str) = y := Option.some.inj e1
      obtain rfl : v1 = v := Option.some.inj (Option.some.inj e2)
      exact ⟨u1, r1, .inl ⟨sup_loc1, sup_look1⟩⟩
    | 2, e1, e2 =>
      obtain rfl : ("step" : Str) = y := Option.some.inj e1
      obtain rfl : v2 = v := Option.some.inj (Option.some.inj e2)
      exact ⟨u2, r2, .inl ⟨sup_loc2, sup_look2⟩⟩
    | 3, e1, e2 => exact absurd (Option.some.inj e2) (by simp)
    | i + 4, e1, e2 => exact absurd (show (none : Option (Option V)) = some (some v) from e2) (by simp)
  · obtain ⟨_, rfl⟩ := sup_only e
    obtain ⟨o, ho, hd⟩ := hcell
    exact ⟨_, o, kp _ _ ho, hd⟩
  · obtain ⟨_, rfl⟩ := sup_only e
    exact hcc
end
end Dq
set_option maxHeartbeats 400000
namespace Dq
open PySem PySem.Spec PyProof.Rows L2
section
variable {P : Program} {w : World} {K : PySem.W.Frag} {mg : Str → Option Value} {base : Heap} {f f2 cc cda CS CK : Addr}
theorem supCx_nd : nSup.Nodup := by decide +kernel
theorem sup_rest {A : Around} {outer : List Env} {s : Shared} {H : Hp} {k : Nat} (hr : Room k (A.deeper (supEnv s.heap.objs.size f cda cc))) :
    ∃ t, PSs (supCx P w K mg base A outer s H f cda cc) ((defBody sAfterK).drop 1) t ∧ ∀ (De : Ends) (v0 v1 v2 : Option V) (v : V) (r : Option (List Int)) (H' : Hp), (match r with | none => v = .non | some r' => Sm r' ∧ ∃ p, v = .ref p ∧ IsRow H' p r') →
      (∀ H2, Same H' H2 → (match r with | none => De.rt .non H2 | some r' => if r' = [] then De.rt .non H2 else De.rt v H2)) → t De [v0, v1, v2, some v] H' := by
  refine ⟨_, pss_one (ps_ret (pe_ifExp (pt_cmpR (op_eqD hr.units) (pv 3) (pe_lst pa_nil) (nomark _)) pe_non (pv 3))), ?_⟩
  intro De v0 v1 v2 v r H' hv h
  refine ⟨_, rfl, by show 0 ≤ sizeLine; decide, fun p hp => ?_⟩
  have e := same_upd (o := .lst []) hp
  have smn : Sm [] := fun i hi => by cases hi
  cases r with
  | none =>
    subst hv
    exact ⟨.none, dRow [], .non, dp_row upd_same, fine_none.shaped (by omega), (fine_row smn).shaped (by omega), false, by simp [dRow, PyData.eqv], ifF rfl ⟨_, rfl, h _ e⟩⟩
  | some r' =>
    obtain ⟨sm, q, rfl, hq⟩ := hv
    refine ⟨dRow r', dRow [], dp_row (hq.mono e), dp_row upd_same, (fine_row sm).shaped (by omega), (fine_row smn).shaped (by omega), decide (r' = []), by rw [eqv_row sm smn], ?_⟩
    have h' := h _ e
    simp only at h'
    by_cases hz : r' = []
    · rw [if_pos hz] at h'
      exact ifT (decide_eq_true hz) h'
    · rw [if_neg hz] at h'
      exact ifF (decide_eq_false hz) ⟨_, rfl, h'⟩
theorem sup_body : ∃ p1 p2 p3 p4 p5 p6 p7 p8 rest, defBody sAfterK = .Assign [.Name "found" p1] (.Call (.Attribute (.Call (.Name "super" p2) [] [] p3) "after" p4) [.Name "row" p5, .Name "step" p6] [] p7) p8 :: rest ∧ rest = (defBody sAfterK).drop 1 := ⟨_, _, _, _, _, _, _, _, _, rfl, rfl⟩
theorem aft_sm {lim : Nat} {r r' : List Int} {st : Stp} (h : aft lim r st = some r') (hr : Sm r) (hs : SmS st) : Sm r' := by
  unfold aft at h
  split at h
  · cases h
  unfold stepped at h
  intro i hi
  split at h
  · cases h
    split at hi
    · rcases List.mem_cons.mp hi with e | e
      · rw [e]; exact hs
      · exact hr i e
    · rcases List.mem_append.mp hi with e | e
      · exact hr i e
      · rw [List.mem_singleton.mp e]; exact hs
  · split at h
    · split at h
      · cases h
        exact hr i (List.mem_of_mem_tail hi)
      · cases h
    · split at h
      · cases h
        exact hr i (List.dropLast_subset r hi)
      · cases h
theorem sup_ks : (defScope sAfterK).names.lookup ("super" : Str) = some .globalImplicit := by kernel_rfl
theorem sup_kc : (defScope sAfterK).names.lookup ("__class__" : Str) = some .free := by kernel_rfl
theorem sup_loc3 : (defScope sAfterK).names.lookup ("found" : Str) = some .local := by kernel_rfl
theorem sup_nocell : ∀ x ∈ (defScope sAfterK).names, x.2 ≠ .cell := by decide +kernel
theorem sup_alloc {u0 u1 u2 : Value} : ∀ x ∈ (["self", "row", "step"] : List Str).zip [u0, u1, u2], (defScope sAfterK).names.lookup x.1 = some .local := by
  intro x hx
  have hx : x ∈ [(("self" : Str), u0), ("row", u1), ("step", u2)] := hx
  simp only [List.mem_cons, List.not_mem_nil, or_false] at hx
  rcases hx with rfl | rfl | rfl
  · exact sup_loc0
  · exact sup_loc1
  · exact sup_loc2
theorem f_afterK (N : Nm mg) (S : SupTxt P K mg CK f cc cda f2) (F2 : FnR P w K mg base CX0 2 f2 (spAft CS CK)) : FnR P w K mg base CX0 4 f (spAfter CS CK true) := by
  intro A outer s H us vs Q E hr e0 r h
  obtain ⟨x, a, b, rr, st, se, T, G, So, rfl, ek, W, hs, ha, hb, hm, hss, hl, h⟩ := h
  cases r with
  | cons r0 r =>
  cases r with
  | cons r1 r =>
  cases r with
  | cons r2 r =>
  cases r
  obtain rfl := (show _ = Value.ref x from r0)
  obtain rfl := (show _ = Value.ref a from r1)
  obtain rfl := (show _ = Value.ref b from r2)
  have KX : K.In s.heap := e0.mod.kin.keeps fun b o e => (e0.bs b o e).1
  have lim : s.heap.NoLimit := e0.mod.nolimit.keeps fun b o e => (e0.bs b o e).1
  obtain ⟨oc, od, kV, doc, pm, an, ct, osl, lk⟩ := S.fn
  obtain ⟨cl, cld, csl, hcell⟩ := S.cell
  obtain ⟨ccl, cdd, cvs, ccs, file, tf, hcode, hvs, hfile⟩ := S.code
  obtain ⟨cdD, hcd⟩ := S.cls
  have hcc : H cc = none := (e0.bs cc _ (e0.mod.kin _ _ hcell)).2
  have hcellS : s.heap.IsCell cc (some (.ref CK)) := ⟨_, KX _ _ hcell, rfl⟩
  obtain ⟨oD, hD1, hD2⟩ : ∃ oD, s.heap.get? CK = some oD ∧ oD.data = .cls cdD := by
    unfold PySem.W.clsIn at hcd
    split at hcd
    · rename_i c d cd' sl ho
      cases hcd
      exact ⟨_, KX _ _ ho, rfl⟩
    · cases hcd
  refine ks_codeAny_call_defAt (fd := PySem.W.ksFn "after" "KeptSession.after" (defArgs sAfterK) (defBody sAfterK) (defScope sAfterK) .none kV doc pm an (.ref cda) ct cc) (body := defBody sAfterK) (binds := (["self", "row", "step"] : List Str).zip [.ref x, .ref a, .ref b]) hr.depth (KX _ _ lk) rfl lim (PySem.W.codeRec_of KX S.ci) rfl
    (.of_eq rfl) sup_nocell sup_alloc (fun h₁ hns kp => ?_) rfl rfl rfl
  have I0 : Inv (supCx P w K mg base A outer s H f cda cc) [] [some (.ref x), some (.ref a), some (.ref b), none] H { s with heap := h₁, toks := s.toks + 3 } := sup_start (CK := CK) e0 hr.hd hcc hcellS r0 r1 r2 hns kp
  have hr' : Room 3 (A.deeper (supEnv s.heap.objs.size f cda cc)) := hr.deeper _
  obtain ⟨tt, htt, rest⟩ := sup_rest (P := P) (w := w) (K := K) (mg := mg) (base := base) (A := A) (outer := outer) (s := s) (H := H) hr'
  have hx := hs.op W
  obtain ⟨dx, ra, da, ua, dr, ur, g1, _, _, _, _, _, _, g2, _⟩ := hx
  rw [ek] at g2
  have g2 : H x = some (.ins CK dx (sfs ra se.lim da ua)) := g2
  obtain ⟨ox, odx, IX⟩ := inst_of I0 g2
  have K1 : K.In h₁ := KX.keeps kp
  show _root_.PySem.wpAt (model P w) (A.deeper (supEnv s.heap.objs.size f cda cc)) (.func (defBody sAfterK) (supEnv s.heap.objs.size f cda cc)) (execs (defBody sAfterK) (supEnv s.heap.objs.size f cda cc)) _ _ { s with heap := h₁, toks := s.toks + 3 }
  refine ks_wpAt_mono (E := fun _ _ => False) (Q := fun fl s' => CR CX0 outer P w H s Q E (.ok (.ret (match fl with | .ret v => v | _ => .none))) s') ?_ (fun fl s' hq => hq) (fun _ _ z => z.elim)
  show _root_.PySem.wpAt (model P w) (A.deeper (supEnv s.heap.objs.size f cda cc)) (.func (defBody sAfterK) (supEnv s.heap.objs.size f cda cc)) (execs (.Assign [.Name "found" _] (.Call (.Attribute (.Call (.Name "super" _) [] [] _) "after" _) [.Name "row" _, .Name "step" _] [] _) _ :: (defBody sAfterK).drop 1) (supEnv s.heap.objs.size f cda cc)) _ _ _
  refine ks_wpAt_execs_cons (ks_wpAt_Assign_Name (ks_wpAt_MethodCall ?_) ?_)
  · refine ks_wpAt_super_base (env := supEnv s.heap.objs.size f cda cc) sup_ks sup_kc (by decide) rfl (K1 _ _ lk) rfl rfl rfl (K1 _ _ hcode) rfl hvs hfile S.top ?_
    have B1 : ∀ {b o}, base.get? b = some o → h₁.get? b = some o := fun {b o} z => kp _ _ (e0.bs b o z).1
    obtain ⟨mb, hmb, hbb⟩ := e0.mod.blt
    refine PySem.W.ks_loadName_global sup_kind sup_ks (PySem.Calls.loadGlobal_builtin (env := supEnv s.heap.objs.size f cda cc) (e0.mod.glob.keeps fun b o z => B1 z) N.super (hmb.keeps fun b o z => B1 z) ((hbb "super" (by decide +kernel)).trans (by decide +kernel)) ⟨rfl, ?_⟩)
    refine wpAny_loadName_free sup_kind sup_kc rfl ⟨_, K1 _ _ hcell, rfl⟩ ?_
    refine wpAny_loadName_local sup_kind sup_loc0 hns sup_look0 ?_
    refine ks_wpAny_isType_cls (kp _ _ hD1) hD2 ⟨rfl, ?_⟩
    refine ks_wpAny_call_super (kp _ _ hD1) hD2 IX.at_ IX.cls (fun c e => ?_) (PySem.W.looks_mroIn K1 S.sub) (fun h' hso k => ?_)
    · have := IX.no
      unfold PySem.W.notCls at this
      rw [e] at this
      exact Bool.noConfusion this
    have I1 : Inv (supCx P w K mg base A outer s H f cda cc) [] [some (.ref x), some (.ref a), some (.ref b), none] H { s with heap := h', toks := s.toks + 3 } := I0.kept k
    obtain ⟨ox1, odx1, IX1⟩ := inst_of I1 g2
    have K2 : K.In h' := K1.keeps k
    have hm2 := S.m2
    unfold PySem.W.ks_superIn at hm2
    rw [hcd] at hm2
    obtain ⟨of, hof, hofc⟩ : ∃ of, h'.get? f2 = some of ∧ of.cls = .type "function" := by
      have ht' : (K.lookup f2).map (·.cls) = some (.type "function") := S.t2
      cases z : K.lookup f2 with
      | none => rw [z] at ht'; cases ht'
      | some of => rw [z] at ht'; exact ⟨of, K2 _ _ z, Option.some.inj ht'⟩
    refine ks_wpAny_getMethod_super hso (PySem.W.looks_opaque K2 S.st) (l₀ := cdD.mro) (fun A Q E s k q => wpAny_bind ((PySem.W.looks_clsIn K2 hcd) A _ E s k (wpAny_pure q))) rfl K2 hm2 hof hofc (PySem.W.ks_ne K2 IX1 hcd) (by decide) ?_
    have hq : H h'.objs.size = none := I1.hok.fresh (Nat.le_refl _)
    have I2 : Inv (supCx P w K mg base A outer s H f cda cc) [] [some (.ref x), some (.ref a), some (.ref b), none] (upd H h'.objs.size (.met f2 x)) { s with heap := h'.push (PySem.W.methodObj (.ref f2) (.ref x)), toks := s.toks + 3 + 1 } :=
      I1.laid (t' := s.toks + 3 + 1) (a := h'.objs.size) (o := .met f2 x) (fun b u z => Heap.get?_push_of_some _ z) (Nat.le_refl _)
        (show (h'.push (PySem.W.methodObj (.ref f2) (.ref x))).get? h'.objs.size = some (PySem.W.methodObj (.ref f2) (.ref x)) from Heap.get?_push_size h' rfl)
    have eH := same_upd (o := .met f2 x) hq
    refine callwith_met (X := supCx P w K mg base A outer s H f cda cc) (g := f2) (a := x) (by rfl) S.fi (Calls.evalArgs_plain (thn ((pa_cons (X := supCx P w K mg base A outer s H f cda cc) (pv 1) (pa_cons (pv 2) pa_nil)).run _ [] _ _ _ (fun vs H1 => vs = [.ref a, .ref b] ∧ H1 = upd H h'.objs.size (.met f2 x)) I2 ⟨_, rfl, _, rfl, rfl, rfl⟩) fun us s1 ⟨vs, H1, I3, rv, ev, eH1⟩ => ?_))
    subst ev eH1
    refine ⟨met_P I3 upd_same, ?_⟩
    have W2 : Wd T G So (upd H h'.objs.size (.met f2 x)) := W.grow eH
    have hsp : spAft CS CK [.ref x, .ref a, .ref b] (upd H h'.objs.size (.met f2 x)) (fun y H' => Same H H' ∧ match aft se.lim rr st with | none => y = .non | some r' => Sm r' ∧ ∃ p, y = .ref p ∧ H p = none ∧ IsRow H' p r') E0 := by
      refine ⟨x, a, b, rr, st, se, T, G, So, rfl, W2, hs, ha.mono eH, hb.mono eH, hm, hl, ?_⟩
      cases ho : aft se.lim rr st with
      | none => exact fun H' e => ⟨eH.trans e, rfl⟩
      | some r' => exact fun H' p e hp hrow => ⟨eH.trans e, aft_sm ho hm hss, p, rfl, eH.free hp, hrow⟩
    refine thn (wpAny_call (PySem.W.method_call (met_P I3 upd_same).1 (run_fnR (us := Value.ref x :: us) (vs := V.ref x :: [.ref a, .ref b]) F2 (hr'.mono (by decide)) pass0 I3 (.cons rfl rv) hsp))) fun v s4 ⟨y, H4, I4, ry, e4, q4⟩ => ?_
    refine store_ok (i := 3) (x := "found") I4 supCx_nd rfl (.inl sup_loc3) ry (fun s5 I5 => ?_) (.inr sup_loc3)
    refine wpAt_of_wpAny (wpAny_mono (htt.run [] s5 _ H4 { nx := fun _ _ => False, rt := Q, bk := fun _ _ => False, ct := fun _ _ => False } I5 ?_) (fun fl s6 hq6 => ?_) (fun _ _ z => z))
    · refine rest _ _ _ _ y (aft se.lim rr st) H4 ?_ (fun H5 e5 => ?_)
      · cases ho : aft se.lim rr st with
        | none =>
          rw [ho] at q4
          exact q4
        | some r' =>
          rw [ho] at q4
          exact ⟨q4.1, let ⟨p, h1, _, h3⟩ := q4.2; ⟨p, h1, h3⟩⟩
      · unfold after at h
        cases ho : aft se.lim rr st with
        | none =>
          rw [ho] at h
          exact h H5 (e4.trans e5)
        | some r' =>
          rw [ho] at h q4
          obtain ⟨sm', p, rfl, hp, hrow⟩ := q4
          by_cases hz : r' = []
          · rw [if_pos (by simp [hz])] at h
            show if r' = [] then Q .non H5 else _
            rw [if_pos hz]
            exact h H5 (e4.trans e5)
          · rw [if_neg (by simp [hz])] at h
            show if r' = [] then _ else Q (.ref p) H5
            rw [if_neg hz]
            exact h H5 p (e4.trans e5) hp (e5 _ _ hrow)
    · cases fl with
      | ret u =>
        obtain ⟨v6, σ6, H6, J, r6, q6⟩ := hq6
        exact ⟨v6, H6, J.os, J.bare, J.base, J.hok, r6, q6⟩
      | next => exact hq6.elim fun _ ⟨_, _, z⟩ => z.elim
      | brk => exact hq6.elim fun _ ⟨_, _, z⟩ => z.elim
      | cont => exact hq6.elim fun _ ⟨_, _, z⟩ => z.elim
  · rfl
end
end Dq
set_option maxHeartbeats 1000000
/-! The call of the law where no repr is under way. -/
namespace Dq
open PySem PySem.Spec PyProof.Rows L2
section
variable {P : Program} {w : World} {K : PySem.W.Frag} {mg mb : Str → Option Value} {k : Nat} {fa a : Addr} {cs : List (Addr × Addr)} {sp : Sp} {s : Shared} {vs : List Value} {ns : List Int}
/-- what is tracked at the law's call: its tables, and the script where K does not hold it -/
def startH (K : PySem.W.Frag) (cs : List (Addr × Addr)) (a : Addr) (vs : List Value) (ns : List Int) : Hp := fun b =>
  if b ∈ cs.map (·.2) then some (.tbl #[]) else if b = a ∧ K.lookup a = none then some (.frz { cls := .type "list", data := .seq vs.toArray } (.lst (ns.map V.int))) else none
theorem startH_tab {b : Addr} (h : b ∈ cs.map (·.2)) : startH K cs a vs ns b = some (.tbl #[]) := if_pos h
theorem startH_cases (b : Addr) : (b ∈ cs.map (·.2) ∧ startH K cs a vs ns b = some (.tbl #[])) ∨ (b ∉ cs.map (·.2) ∧ b = a ∧ K.lookup a = none ∧ startH K cs a vs ns b = some (.frz { cls := .type "list", data := .seq vs.toArray } (.lst (ns.map V.int)))) ∨ (b ∉ cs.map (·.2) ∧ startH K cs a vs ns b = none) := by
  by_cases h : b ∈ cs.map (·.2)
  · exact .inl ⟨h, if_pos h⟩
  · by_cases h2 : b = a ∧ K.lookup a = none
    · exact .inr (.inl ⟨h, h2.1, h2.2, (if_neg h).trans (if_pos h2)⟩)
    · exact .inr (.inr ⟨h, (if_neg h).trans (if_neg h2)⟩)
theorem law_callG (KX : K.In s.heap) (hns : s.heap.Ns mainGlobals mg) (hb : s.heap.Ns builtinsNs mb) (hbb : ∀ x : Str, x ≠ "__name__" → mb x = bootBuiltins x) (hlim : s.heap.NoLimit) (hg : s.gens = #[])
    (hT : ∀ p ∈ cs, s.heap.get? p.2 = some { cls := .none, data := .fields #[] }) (nT : ∀ p ∈ cs, K.lookup p.2 = none) (hC : ∀ p ∈ cs, PySem.W.codeHdIn K p.1 p.2 = true)
    (hbm : ∃ (bm : Addr) (ob : Obj), mg "__builtins__" = some (.ref bm) ∧ bm ≠ builtinsNs ∧ s.heap.get? bm = some ob ∧ ob.cls = .type "module" ∧ ob.dict = some builtinsNs ∧ ob.data = .plain)
    (ha : s.heap.get? a = some { cls := .type "list", data := .seq vs.toArray }) (hi : IntsAre vs ns) (hl : ns.length ≤ sizeLine) (hr : Room k callerA)
    (F : ∀ base : Heap, K.In base → base.Ns mainGlobals mg → (∀ p ∈ cs, LamX.TabB base mg p.1 p.2) → FnG P w K mg base CX0 k fa sp)
    (hsp : ∀ H : Hp, (∀ p ∈ cs, H p.2 = some (.tbl #[])) → SqL K H a (ns.map V.int) → sp [.ref a] H (fun v _ => v = .bl true) E0) :
    codeAny (model P w) callerA (.call (.ref fa) ⟨[.ref a], []⟩) (fun r s' => r = .ok (.ret (.bool true)) ∧ OldK s.heap s'.heap ∧ s'.os = s.os ∧ AllBare s'.gens) s := by
  have rv := vals_ints hi
  have isT : ∀ b : Addr, b ∈ cs.map (·.2) → s.heap.get? b = some { cls := .none, data := .fields #[] } := fun b hb => by
    obtain ⟨p, hp, e⟩ := List.mem_map.mp hb
    exact e ▸ hT p hp
  have inT : ∀ p ∈ cs, p.2 ∈ cs.map (·.2) := fun p hp => List.mem_map_of_mem hp
  have aT : a ∉ cs.map (·.2) := fun z => by
    have q := isT a z
    rw [ha] at q
    exact nomatch (congrArg Obj.data (Option.some.inj q) : Data.seq vs.toArray _ = Data.fields #[])
  -- what neither is a list nor an empty table is not tracked
  have out : ∀ {b : Addr} {o : Obj}, s.heap.get? b = some o → (∀ xs n, o.data ≠ .seq xs n) → o.data ≠ .fields #[] → startH K cs a vs ns b = none := fun {b o} e h1 h2 => by
    rcases startH_cases (K := K) (cs := cs) (a := a) (vs := vs) (ns := ns) b with ⟨h, _⟩ | ⟨_, rfl, _, _⟩ | ⟨_, q⟩
    · rw [isT b h] at e
      cases e
      exact absurd rfl h2
    · rw [ha] at e
      cases e
      exact absurd rfl (h1 _ _)
    · exact q
  have outNs : ∀ {b : Addr} {m : Str → Option Value}, s.heap.Ns b m → (hidT s.heap (startH K cs a vs ns)).Ns b m := fun {b m} ⟨o, es, ep, e, d, r⟩ =>
    ⟨o, es, ep, hidT_get e (out e (fun xs n z => by rw [d] at z; cases z) (fun z => by rw [d] at z; cases z)), d, r⟩
  have KB : K.In (hidT s.heap (startH K cs a vs ns)) := fun b o e => by
    refine hidT_get (KX b o e) ?_
    rcases startH_cases (K := K) (cs := cs) (a := a) (vs := vs) (ns := ns) b with ⟨h, _⟩ | ⟨_, rfl, q, _⟩ | ⟨_, q⟩
    · obtain ⟨p, hp, ep⟩ := List.mem_map.mp h
      have ep : p.2 = b := ep
      rw [← ep, nT p hp] at e
      cases e
    · rw [q] at e
      cases e
    · exact q
  have md : L2.Mod K mg (hidT s.heap (startH K cs a vs ns)) := ⟨KB, outNs hns, ⟨mb, outNs hb, hbb⟩, let ⟨mc, h1, h2⟩ := hlim; ⟨mc, outNs h1, h2⟩⟩
  have tb : ∀ p ∈ cs, LamX.TabB (hidT s.heap (startH K cs a vs ns)) mg p.1 p.2 := fun p hp => by
    have hTp := hT p hp
    obtain ⟨bm, ob, b1, b2, b3, b4, b5, b6⟩ := hbm
    have noD : ∀ {m : Str → Option Value} {x : Addr}, s.heap.Ns x m → ∀ {o : Obj}, s.heap.get? x = some o → (∃ es ep, o.data = .dict es ep) := fun {m x} ⟨o, es, ep, e, d, _⟩ {o'} e' => by
      rw [e] at e'
      cases e'
      exact ⟨es, ep, d⟩
    refine ⟨PySem.W.codeHd_of_K KB (hC p hp), ⟨bm, ob, b1, b2, fun q => ?_, fun q => ?_, hidT_get b3 (out b3 (fun xs n z => by rw [b6] at z; cases z) (fun z => by rw [b6] at z; cases z)), b4, b5, b6⟩, fun z => ?_⟩
    · rw [q] at b3
      obtain ⟨es, ep, d⟩ := noD hns b3
      rw [b6] at d
      cases d
    · rw [q, hTp] at b3
      cases b3
      cases b6
    · have hTp' := hTp
      rw [← z] at hTp'
      obtain ⟨es, ep, d⟩ := noD hns hTp'
      cases d
  have hok : HOk P w (startH K cs a vs ns) s.heap := fun b u e => by
    rcases startH_cases (K := K) (cs := cs) (a := a) (vs := vs) (ns := ns) b with ⟨h, q⟩ | ⟨_, rfl, _, q⟩ | ⟨_, q⟩
    · rw [q] at e
      cases e
      exact isT b h
    · rw [q] at e
      cases e
      exact ⟨ha, by rw [List.length_map]; exact hl, vs, _, rv, ha⟩
    · rw [q] at e
      cases e
  have e0 : Env0 P w K mg (hidT s.heap (startH K cs a vs ns)) callerA [] s (startH K cs a vs ns) := ⟨rfl, md, fun b o e => of_hidT e, Nat.le_of_eq (hidT_size _ _), trivial, fun b hb => absurd (show b ∈ ([] : List Addr) from hb) (by simp), hok, .of_eq hg⟩
  have hS : SqL K (startH K cs a vs ns) a (ns.map V.int) := by
    cases hk : K.lookup a with
    | some o =>
      have e := KX a o hk
      rw [ha] at e
      cases e
      exact .inr ⟨_, vs.toArray, _, hk, rfl, rfl, rfl, by rw [List.size_toArray, hi.length]; exact hl, by simpa using rv⟩
    | none => exact .inl (.inr ⟨_, (if_neg aT).trans (if_pos ⟨rfl, hk⟩)⟩)
  refine codeAny_mono (F _ KB (outNs hns) tb callerA [] s _ [.ref a] [.ref a] _ E0 rfl hr e0 (.cons rfl .nil) (hsp _ (fun p hp => startH_tab (inT p hp)) hS)) fun r s' h => ?_
  cases r with
  | error e => exact (show False from h).elim
  | ok fl =>
    cases fl with
    | next => exact False.elim h
    | brk => exact False.elim h
    | cont => exact False.elim h
    | ret u =>
      obtain ⟨v, H', os, bare, un, hok', r', q⟩ := h
      have q' : v = .bl true := q
      subst q'
      obtain rfl : u = Value.bool true := r'
      have stay : ∀ b o, b ∉ cs.map (·.2) → s.heap.get? b = some o → s'.heap.get? b = some o := fun b o nb e => by
        rcases startH_cases (K := K) (cs := cs) (a := a) (vs := vs) (ns := ns) b with ⟨h, _⟩ | ⟨_, rfl, _, q⟩ | ⟨_, q⟩
        · exact absurd h nb
        · obtain ⟨e1, _⟩ := hok b _ q
          obtain ⟨e2, _⟩ := hok' b _ (un.frzs b _ _ q)
          rw [e] at e1
          cases e1
          exact e2
        · exact un.keep b o e q (fun z => absurd (show b ∈ ([] : List Addr) from z) (by simp)) (by simp)
      have grown : ∀ b, b ∈ cs.map (·.2) → ∃ more : Array Value, s'.heap.get? b = some { cls := .none, data := .fields more } := fun b hb => by
        obtain ⟨more, z⟩ := un.tbls b #[] (startH_tab hb)
        exact ⟨_, hok' b _ z⟩
      refine ⟨rfl, ⟨fun b o e => ?_, fun b o e => ?_⟩, os, bare⟩
      · by_cases hb : b ∈ cs.map (·.2)
        · obtain ⟨more, hm⟩ := grown b hb
          obtain ⟨p, hp, ep⟩ := List.mem_map.mp hb
          have ep : p.2 = b := ep
          subst ep
          have e' := e
          rw [hT p hp] at e'
          cases e'
          exact .inr (.inl ⟨((PySem.W.codeHd_of_K KX (hC p hp)).tab (hT p hp)).isCodeTable, rfl, #[], more, rfl, by rw [Array.empty_append]; exact hm⟩)
        · exact .inl (stay b o hb e)
      · by_cases hb : b ∈ cs.map (·.2)
        · obtain ⟨more, hm⟩ := grown b hb
          exact ⟨_, hm⟩
        · exact ⟨o, stay b o hb e⟩
end
end Dq
set_option maxHeartbeats 1000000
/-! From the head's facts to the law's promise. -/
namespace Dq
open PySem PySem.Spec PyProof.Rows L2 He
open PySem.W (Frag findIn isFn subIn mroIn specialIn takesIn kitOne recIn fnIn readsIn nsIn exmOne typeIn keepIn clsIn codeIn findCls)
/-- what the head left: K, its facts, the names -/
structure Hd (h : Heap) (K : Frag) (mg : Str → Option Value) : Prop where
  sq : SaysQ fas fns tfs ex h K
  kx : K.In h
  gx : h.Ns mainGlobals mg
section
variable {h : Heap} {K : Frag} {mg : Str → Option Value}
theorem Hd.fa (d : Hd h K mg) {f : Fa} (i : Nat) (e : fas[i]? = some f := by rfl) : f.ok K = true := d.sq.fact f (List.mem_of_getElem? e)
theorem Hd.glo (d : Hd h K mg) {x : Str} (hx : x ∈ gls) : mg x = some (.ref (ga K x)) :=
  glo_ok d.kx d.gx (d.sq.fact (.glo x) (by unfold fas; simp only [List.mem_append, List.mem_map]; exact .inl (.inl (.inl (.inl (.inl ⟨x, hx, rfl⟩))))))
theorem Hd.keep (d : Hd h K mg) {x : Str} (hx : x ∈ gls) : keepIn K (.ref (ga K x)) = true :=
  keep_ok (d.sq.fact (.keep x) (by unfold fas; simp only [List.mem_append, List.mem_map]; exact .inl (.inl (.inl (.inl (.inr ⟨x, hx, rfl⟩))))))
theorem Hd.free (d : Hd h K mg) {x : Str} (hx : x ∈ frees) : mg x = none :=
  free_ok d.kx d.gx (d.sq.fact (.free x) (by unfold fas; simp only [List.mem_append, List.mem_map]; exact .inl (.inl (.inl (.inr ⟨x, hx, rfl⟩)))))
theorem Hd.isf (d : Hd h K mg) (q : DefQ) (i : Nat) (e : fns[i]? = some q := by rfl) (hc : q.clo = [] := by rfl) : IsFn K q.name q.qual q.st (q.at_ K) := DefQ.is (d.sq.defs q (List.mem_of_getElem? e)) (d.sq.code q (List.mem_of_getElem? e)) hc
theorem Hd.parts (d : Hd h K mg) : (∀ f ∈ clsFacts, f K (aS K) = true) ∧ (∀ f ∈ clsFacts, f K (aK K) = true) ∧ (∀ f ∈ excFacts bmR "RuntimeError" "RuntimeError.__new__" "RuntimeError.__init__", f K (aF K) = true) ∧ (∀ f ∈ excFacts bmI "IndexError" "IndexError.__new__" "IndexError.__init__", f K (aN K) = true) ∧ ∀ f ∈ moreFacts, f K = true := by
  have e := d.sq.more
  unfold ex at e
  obtain ⟨h1, e⟩ := ba e
  obtain ⟨h2, e⟩ := ba e
  obtain ⟨h3, e⟩ := ba e
  obtain ⟨h4, h5⟩ := ba e
  exact ⟨List.all_eq_true.mp h1, List.all_eq_true.mp h2, List.all_eq_true.mp h3, List.all_eq_true.mp h4, List.all_eq_true.mp h5⟩
theorem Hd.c (d : Hd h K mg) (b : Bool) {f : Frag → Addr → Bool} (i : Nat) (e : clsFacts[i]? = some f := by rfl) : f K (cof (aS K) (aK K) b) = true := by
  cases b with
  | false => exact d.parts.1 f (List.mem_of_getElem? e)
  | true => exact d.parts.2.1 f (List.mem_of_getElem? e)
theorem Hd.m (d : Hd h K mg) {f : Frag → Bool} (i : Nat) (e : moreFacts[i]? = some f := by rfl) : f K = true := d.parts.2.2.2.2 f (List.mem_of_getElem? e)
theorem Hd.eF (d : Hd h K mg) {f : Frag → Addr → Bool} (i : Nat) (e : (excFacts bmR "RuntimeError" "RuntimeError.__new__" "RuntimeError.__init__")[i]? = some f := by rfl) : f K (aF K) = true := d.parts.2.2.1 f (List.mem_of_getElem? e)
theorem Hd.eN (d : Hd h K mg) {f : Frag → Addr → Bool} (i : Nat) (e : (excFacts bmI "IndexError" "IndexError.__new__" "IndexError.__init__")[i]? = some f := by rfl) : f K (aN K) = true := d.parts.2.2.2.1 f (List.mem_of_getElem? e)
/-! ### bundles of facts -/
theorem Hd.nm (d : Hd h K mg) : Nm mg where
  isi := d.free (by decide +kernel)
  int := d.free (by decide +kernel)
  bool := d.free (by decide +kernel)
  all := d.free (by decide +kernel)
  list := d.free (by decide +kernel)
  len := d.free (by decide +kernel)
  str := d.free (by decide +kernel)
  tuple := d.free (by decide +kernel)
  enum := d.free (by decide +kernel)
  repr := d.free (by decide +kernel)
  range := d.free (by decide +kernel)
  max := d.free (by decide +kernel)
  min := d.free (by decide +kernel)
  super := d.free (by decide +kernel)
  mi := int_ok d.kx d.gx (d.sq.fact (.int "MOST_ITEMS" 200) (by simp [fas]))
  ms := int_ok d.kx d.gx (d.sq.fact (.int "MOST_STEPS" 60) (by simp [fas]))
  ml := int_ok d.kx d.gx (d.sq.fact (.int "MOST_LETTERS" 8) (by simp [fas]))
  le := str_ok d.kx d.gx (d.sq.fact (.str "LETTERS" "abcdefghijklmnopqrstuvwxyz") (by simp [fas]))
theorem Hd.noat (d : Hd h K mg) {f : Str} (hf : f ∈ (["own_row", "own_limit", "done", "undone"] : List Str)) (b : Bool) : NoAttr K (cof (aS K) (aK K) b) f := by
  cases b with
  | false => exact noat_ok (x := "Session") (d.sq.fact _ (by unfold fas; simp only [List.mem_append]; exact .inl (.inr (List.mem_flatMap.mpr ⟨f, hf, by simp⟩))))
  | true => exact noat_ok (x := "KeptSession") (d.sq.fact _ (by unfold fas; simp only [List.mem_append]; exact .inl (.inr (List.mem_flatMap.mpr ⟨f, hf, by simp⟩))))
theorem Hd.meth (d : Hd h K mg) {m : Str} (hm : m ∈ (["set_limit", "after", "do", "undo", "redo", "log", "copied", "twin", "is_kept"] : List Str)) (b : Bool) : Meth K (cof (aS K) (aK K) b) m (ma K (cof (aS K) (aK K) b) m) := by
  cases b with
  | false => exact meth_ok (x := "Session") (d.sq.fact _ (by unfold fas; simp only [List.mem_append]; exact .inr (List.mem_flatMap.mpr ⟨m, hm, by simp⟩)))
  | true => exact meth_ok (x := "KeptSession") (d.sq.fact _ (by unfold fas; simp only [List.mem_append]; exact .inr (List.mem_flatMap.mpr ⟨m, hm, by simp⟩)))
theorem Hd.cls (d : Hd h K mg) (b : Bool) : Cls K (cof (aS K) (aK K) b) := by
  cases b with
  | false => exact cls_ok (x := "Session") (d.sq.fact _ (by simp [fas]))
  | true => exact cls_ok (x := "KeptSession") (d.sq.fact _ (by simp [fas]))
theorem conQ_ok {K : Frag} {C : Addr} (h : conQ K C = true) : ∃ u, Con K C "MOST_ITEMS" (.int 200) u := by
  unfold conQ at h
  split at h
  · rename_i i t e
    obtain ⟨h1, h2⟩ := ba h
    have h1 := of_decide_eq_true h1
    subst h1
    exact ⟨_, e, ⟨t, rfl⟩, of_decide_eq_true h2, by decide +kernel⟩
  · cases h
theorem Hd.cxs (d : Hd h K mg) : CxS K (aS K) (aK K) := ⟨d.cls, d.noat (by simp), d.noat (by simp), d.noat (by simp), d.noat (by simp), fun b => conQ_ok (d.c b 7)⟩
theorem Hd.txi (d : Hd h K mg) : TxI K (aS K) (aK K) := ⟨fun b => eqO_ok (d.c b 0), eqO_ok (d.m 0), of_decide_eq_true (d.m 1), fun b => of_decide_eq_true (d.c b 1), fun b => of_decide_eq_true (d.c b 2), of_decide_eq_true (d.m 2)⟩
theorem excQ_ok {K : Frag} {C : Addr} {bmB : List Value} {newId : String} (q : excQ K C bmB newId = true) :
    ∃ nm qn N bs bm sn sub ab col dd k0 k1 k2 k3 k5, K.lookup C = some (excClassObj nm qn C N bs bm true sn sub ab col dd k0 k1 k2 k3 k5 newId) ∧ PySem.W.excTail bmB bm = true := by
  unfold excQ at q
  split at q
  · rename_i dd cd sl ho
    split at q
    · rename_i C' bm k0 k1 k2 k3 n k5 hm hs
      simp only [Bool.and_eq_true, beq_iff_eq, Bool.not_eq_true'] at q
      obtain ⟨rfl, rfl, hdel, hdct, ht⟩ := q
      obtain ⟨nm, bs, mro, ns, qn, hd, sn, sub, ab, col, del⟩ := cd
      dsimp only at hm hdel hdct
      subst hm hdel hdct
      have hsl : sl = #[k0, k1, k2, k3, some (.builtin n), k5] := by
        obtain ⟨l⟩ := sl
        simp only at hs
        rw [hs]
      subst hsl
      exact ⟨nm, qn, ns, bs, bm, sn, sub, ab, col, dd, k0, k1, k2, k3, k5, ho, ht⟩
    · cases q
  · cases q
theorem valB_ok {K : Frag} {T u : String} (q : valB K T u = true) : findCls K (.type T) (.type "type") "__init__" = some (.val (.builtin u)) := by
  unfold valB at q
  split at q
  · rename_i i e
    rw [e, of_decide_eq_true q]
  · cases q
theorem Hd.txx (d : Hd h K mg) : TxX K mg (aF K) (aN K) where
  oF := ⟨excQ_ok (d.eF 0), eqO_ok (d.eF 1), of_decide_eq_true (d.eF 2), of_decide_eq_true (d.eF 3), d.eF 4, PySem.F.excBase_RuntimeError, PySem.F.store_RuntimeError⟩
  oN := ⟨excQ_ok (d.eN 0), eqO_ok (d.eN 1), of_decide_eq_true (d.eN 2), of_decide_eq_true (d.eN 3), d.eN 4, PySem.F.excBase_IndexError, PySem.F.store_IndexError⟩
  nR := d.free (by decide +kernel)
  nI := d.free (by decide +kernel)
  vF := valB_ok (d.eF 5)
  vN := valB_ok (d.eN 5)
  nv := eqO_ok (d.m 18)
theorem Hd.told (d : Hd h K mg) : ToldTxt K mg (aF K) (aN K) where
  gF := d.glo (by decide +kernel)
  gN := d.glo (by decide +kernel)
  ff := exm_ok (x := "Fails") (y := "Fails") (d.sq.fact _ (by simp [fas]))
  nf := exm_ok (x := "NothingLeft") (y := "Fails") (d.sq.fact _ (by simp [fas]))
  nn := exm_ok (x := "NothingLeft") (y := "NothingLeft") (d.sq.fact _ (by simp [fas]))
  xf := xfB_ok (d.m 19)
  nv := eqO_ok (d.m 18)
end
end Dq
set_option maxHeartbeats 1000000
namespace Dq
open PySem PySem.Spec PyProof.Rows L2 He
open PySem.W (Frag findIn isFn subIn mroIn specialIn takesIn kitOne recIn fnIn readsIn nsIn exmOne typeIn keepIn clsIn codeIn findCls)
theorem nodup_inj {α β : Type} {f : α → β} : ∀ {l : List α}, (l.map f).Nodup → ∀ {x y : α}, x ∈ l → y ∈ l → f x = f y → x = y
  | [], _, _, _, hx, _, _ => by cases hx
  | a :: l, hn, x, y, hx, hy, e => by
    rw [List.map_cons, List.nodup_cons] at hn
    rcases List.mem_cons.mp hx with hx1 | hx1
    · rcases List.mem_cons.mp hy with hy1 | hy1
      · rw [hx1, hy1]
      · exact absurd (by rw [← hx1, e]; exact List.mem_map_of_mem hy1) hn.1
    · rcases List.mem_cons.mp hy with hy1 | hy1
      · exact absurd (by rw [← hy1, ← e]; exact List.mem_map_of_mem hx1) hn.1
      · exact nodup_inj hn.2 hx1 hy1 e
/-- the tables, by what their lambdas are called -/
def tabs (K : Frag) : List (Addr × Str) := tfs.map fun p => ((cT K p).2, p.1 ++ ".<locals>." ++ "<lambda>")
section
variable {h : Heap} {K : Frag} {mg : Str → Option Value} {w : World} {base : Heap}
theorem Hd.tab (d : Hd h K mg) (TB : ∀ p ∈ tfs.map (cT K), LamX.TabB base mg p.1 p.2) {x : Str} {st : Stmt} (i : Nat) (hx : (x, (none : Option Str)) ∈ tfs) (e : fns[i]? = some (gD x st) := by rfl) : TabF K mg base (tabs K) x (ga K x) := by
  have hc := d.sq.code (gD x st) (List.mem_of_getElem? e)
  refine ⟨codeOf K (x, none), tabOf K (codeOf K (x, none)), fun oc od fd osl lk => ?_, TB _ (List.mem_map_of_mem hx), List.mem_map.mpr ⟨_, hx, rfl⟩, fun p hp ep => ?_⟩
  · have hc : (match K.lookup (ga K x) with
      | some ⟨_, _, .func fd, _⟩ => codeIn K fd.code x
      | _ => false) = true := hc
    rw [lk] at hc
    obtain ⟨c, ec⟩ := codeIn_ref hc
    rw [ec, codeOf_eq (p := (x, none)) lk ec]
  · obtain ⟨q, hq, rfl⟩ := List.mem_map.mp hp
    have e2 := nodup_inj (f := fun p => (cT K p).2) (of_decide_eq_true (d.m 29)) hq hx ep
    rw [e2]
theorem recB_ok {p : Addr} {T : String} (q : recB K p T = true) : ∃ f rest, recIn K p T = some (.ref f :: rest) := by
  unfold recB at q
  split at q
  · rename_i f r e
    exact ⟨f, r, e⟩
  · cases q
theorem Hd.mtd (d : Hd h K mg) {CX : CXT} {k : Nat} {m : Str} {sp : Sp} (i : Nat) (hm : m ∈ (["set_limit", "after", "do", "undo", "redo", "log", "copied", "twin", "is_kept"] : List Str)) (F : FnR prog w K mg base CX k (ma K (aS K) m) sp)
    (e : clsFacts[i]? = some (fun K C => decide (ma K C m = ma K (aS K) m)) := by rfl) (b : Bool) : Mtd prog w K mg base CX k (cof (aS K) (aK K) b) m sp := by
  have q : ma K (cof (aS K) (aK K) b) m = ma K (aS K) m := of_decide_eq_true (d.c b i e)
  exact ⟨⟨_, F, q ▸ d.meth hm b⟩, d.cls b⟩
theorem Hd.mak (d : Hd h K mg) {k : Nat} {sp : Sp} (F : FnR prog w K mg base CX0 k (ma K (aS K) "__init__") sp) (b : Bool) : Mak prog w K mg base CX0 k (cof (aS K) (aK K) b) sp := by
  cases b with
  | false => exact ⟨⟨_, F, mkr_ok (x := "Session") (d.sq.fact _ (by simp [fas]))⟩⟩
  | true =>
    have q : ma K (aK K) "__init__" = ma K (aS K) "__init__" := of_decide_eq_true (d.c true 14)
    exact ⟨⟨_, F, q ▸ mkr_ok (x := "KeptSession") (d.sq.fact _ (by simp [fas]))⟩⟩
theorem Hd.prpR (d : Hd h K mg) {k : Nat} {sp : Sp} (F : FnR prog w K mg base CX0 k (recAt K (aS K) "property" "row") sp) (b : Bool) : Prp prog w K mg base CX0 k (cof (aS K) (aK K) b) "row" sp := by
  obtain ⟨f, rest, e⟩ := recB_ok (d.m 10)
  have ef : recAt K (aS K) "property" "row" = f := by
    unfold recAt
    rw [e]
  rw [ef] at F
  exact ⟨⟨_, f, F, ⟨eqO_ok (d.c b 15), eqO_ok (d.m 8), of_decide_eq_true (d.m 9), rest, e⟩⟩, d.cls b⟩
theorem Hd.prpL (d : Hd h K mg) {k : Nat} {sp : Sp} (F : FnR prog w K mg base CX0 k (recAt K (aS K) "property" "limit") sp) (b : Bool) : Prp prog w K mg base CX0 k (cof (aS K) (aK K) b) "limit" sp := by
  obtain ⟨f, rest, e⟩ := recB_ok (d.m 13)
  have ef : recAt K (aS K) "property" "limit" = f := by
    unfold recAt
    rw [e]
  rw [ef] at F
  exact ⟨⟨_, f, F, ⟨eqO_ok (d.c b 16), eqO_ok (d.m 11), of_decide_eq_true (d.m 12), rest, e⟩⟩, d.cls b⟩
theorem Hd.lng (d : Hd h K mg) {k : Nat} {sp : Sp} (F : FnR prog w K mg base CX0 k (ma K (aS K) "__len__") sp) (b : Bool) : Lng prog w K mg base k (cof (aS K) (aK K) b) sp := ⟨⟨_, F, eqO_ok (d.c b 6), d.m 4⟩⟩
theorem Hd.eqs (d : Hd h K mg) {k : Nat} {sp : Sp} (F : FnR prog w K mg base CX0 k (ma K (aS K) "__eq__") sp) : EqS prog w K mg base k (aS K) (aK K) sp where
  ex := ⟨_, F, fun b => eqO_ok (d.c b 3), d.m 3⟩
  ne := fun b => eqO_ok (d.c b 4)
  ob := fun b => of_decide_eq_true (d.c b 1)
  d := by
    have e := d.m 5
    have e : (!decide (aS K = aK K)) = true := e
    simpa using e
  ks := of_decide_eq_true (d.m 6)
  sk := of_decide_eq_true (d.m 7)
  li := fun b => of_decide_eq_true (d.c b 5)
theorem Hd.cm (d : Hd h K mg) {k : Nat} {sp : Bool → Sp} (F : ∀ b, FnR prog w K mg base CX0 k (recAt K (aS K) "classmethod" "replayed") (sp b)) (b : Bool) : Cm prog w K mg base CX0 k (cof (aS K) (aK K) b) "replayed" (sp b) := by
  have q : ma K (cof (aS K) (aK K) b) "replayed" = ma K (aS K) "replayed" := of_decide_eq_true (d.c b 20)
  have ew : He5.wf K (cof (aS K) (aK K) b) "classmethod" "replayed" = recAt K (aS K) "classmethod" "replayed" := by
    unfold He5.wf recAt
    rw [q]
    rfl
  refine ⟨⟨ma K (cof (aS K) (aK K) b) "replayed", _, F b, ?_⟩, ⟨d.c b 17, eqO_ok (d.c b 18)⟩⟩
  have k2 := He5.cmet_of (K := K) (C := cof (aS K) (aK K) b) (m := "replayed") (d.c b 19) (by rw [ew]; exact d.m 14)
  rw [ew] at k2
  exact k2
theorem Hd.bm (d : Hd h K mg) {CX : CXT} {k : Nat} {sp : Sp} (F : FnR prog w K mg base CX k (ma K (aS K) "do") sp) (b : Bool) : Bm prog w K mg base CX k (cof (aS K) (aK K) b) "do" sp := by
  have q : ma K (cof (aS K) (aK K) b) "do" = ma K (aS K) "do" := of_decide_eq_true (d.c b 9)
  exact ⟨⟨_, F, ⟨q ▸ d.meth (by simp) b, eqO_ok (d.m 15), of_decide_eq_true (d.m 16), by decide +kernel, d.m 17⟩⟩⟩
theorem Hd.mkF (d : Hd h K mg) {k : Nat} {sp : Sp} (F : FnR prog w K mg base CX0 k (ma K (aF K) "__init__") sp) : MakX prog w K mg base k "Fails" (aF K) sp := ⟨⟨_, F, eqO_ok (d.eF 6), of_decide_eq_true (d.eF 7)⟩, d.glo (by decide +kernel)⟩
theorem Hd.mkN (d : Hd h K mg) {k : Nat} {sp : Sp} (F : FnR prog w K mg base CX0 k (ma K (aN K) "__init__") sp) : MakX prog w K mg base k "NothingLeft" (aN K) sp := ⟨⟨_, F, eqO_ok (d.eN 6), of_decide_eq_true (d.eN 7)⟩, d.glo (by decide +kernel)⟩
theorem codeFile_ok {c : Addr} {file : Str} (q : codeFile K c file = true) : ∃ ccl cdd vs ccs tf, K.lookup c = some ⟨ccl, cdd, .fields vs, ccs⟩ ∧ vs[2]? = some (.str file tf) := by
  unfold codeFile at q
  split at q
  · rename_i x1 x2 vs x4 e
    split at q
    · rename_i z t e2
      have q := of_decide_eq_true q
      subst q
      exact ⟨_, _, vs, _, t, e, e2⟩
    · cases q
  · cases q
theorem cellB_ok {c a : Addr} (q : cellB K c a = true) : ∃ cl cld csl, K.lookup c = some ⟨cl, cld, .cell (some (.ref a)), csl⟩ := by
  unfold cellB at q
  split at q
  · rename_i x1 x2 b x4 e
    have q := of_decide_eq_true q
    subst q
    exact ⟨_, _, _, e⟩
  · cases q
theorem Hd.sup (d : Hd h K mg) : SupTxt prog K mg (aK K) (ma K (aK K) "after") (aCC K) (aCD K) (ma K (aS K) "after") := by
  have e : fns[46]? = some ⟨fun K => ma K (aK K) "after", "after", "KeptSession.after", sAfterK, ["__class__"]⟩ := rfl
  obtain ⟨oc, od, osl, kV, doc, pm, an, cdv, ct, cl, lk, hcl, hci⟩ := DefQ.raw (d.sq.defs _ (List.mem_of_getElem? e)) (d.sq.code _ (List.mem_of_getElem? e))
  obtain ⟨cd, ecd⟩ := codeIn_ref hci
  have hcl : cl.map (·.1) = [("__class__" : Str)] := hcl
  have lk : K.lookup (ma K (aK K) "after") = some ⟨oc, od, .func (PySem.W.fnX "after" "KeptSession.after" (defArgs sAfterK) (defBody sAfterK) (defScope sAfterK) cl .none kV doc pm an cdv ct), osl⟩ := lk
  obtain ⟨cc, rfl⟩ : ∃ cc, cl = [(("__class__" : Str), cc)] := by
    cases cl with
    | nil => cases hcl
    | cons p r =>
      rw [List.map_cons, List.cons.injEq] at hcl
      obtain ⟨h1, h2⟩ := hcl
      rw [List.map_eq_nil_iff.mp h2]
      exact ⟨p.2, by rw [← h1]⟩
  subst ecd
  have ec : aCC K = cc := by
    unfold aCC
    rw [lk]
  have ed : aCD K = cd := by
    unfold aCD
    rw [lk]
  obtain ⟨ccl, cdd, cvs, ccs, tf, hf1, hf2⟩ := codeFile_ok (d.m 21)
  refine ⟨⟨oc, od, kV, doc, pm, an, ct, osl, ?_⟩, d.m 20, ⟨ccl, cdd, cvs, ccs, prog.main.file, tf, hf1, hf2, by simp⟩, cellB_ok (d.m 22), Option.isSome_iff_exists.mp (d.m 23), of_decide_eq_true (d.m 24), by decide +kernel, eqO_ok (d.m 25), eqO_ok (d.m 26), of_decide_eq_true (d.m 27), d.m 28⟩
  rw [ec, ed]
  exact lk
end
end Dq
set_option maxHeartbeats 1000000
namespace Dq
open PySem PySem.Spec PyProof.Rows L2 He
open PySem.W (Frag findIn isFn subIn mroIn specialIn takesIn kitOne recIn fnIn readsIn nsIn exmOne typeIn keepIn clsIn codeIn findCls)
section
variable {h : Heap} {K : Frag} {mg : Str → Option Value} {w : World} {base : Heap}
theorem Hd.gl (d : Hd h K mg) {CX : CXT} {k : Nat} {x : Str} {sp : Sp} (F : FnR prog w K mg base CX k (ga K x) sp) (hx : x ∈ gls := by decide +kernel) : Glo prog w K mg base CX k x sp := ⟨⟨_, F, d.glo hx, d.keep hx⟩⟩
theorem Hd.gg (d : Hd h K mg) {k : Nat} {x : Str} {sp : Sp} (F : FnG prog w K mg base CX0 k (ga K x) sp) (hx : x ∈ gls := by decide +kernel) : GloG prog w K mg base k x sp := ⟨⟨_, F, d.glo hx, d.keep hx⟩⟩
theorem Hd.law (d : Hd h K mg) (TB : ∀ p ∈ tfs.map (cT K), LamX.TabB base mg p.1 p.2) : FnG prog w K mg base CX0 11 (ga K "law") (spLaw K (tabs K)) := by
  have N := d.nm
  have C := d.cxs
  have TX := d.txx
  have TI := d.txi
  have TT := d.told
  have mS : mg "Session" = some (.ref (aS K)) := d.glo (by decide +kernel)
  have mK : mg "KeptSession" = some (.ref (aK K)) := d.glo (by decide +kernel)
  -- rows
  have c0 : Glo prog w K mg base CX0 1 "is_integer" spInteger := d.gl (f_isInteger N (d.isf (gD "is_integer" sIsInteger) 0))
  have c1 : Glo prog w K mg base CX0 2 "is_within" spWithin := d.gl (f_isWithin c0 (d.isf (gD "is_within" sIsWithin) 1))
  have c2 : Glo prog w K mg base CX0 2 "is_item" spItem := d.gl (f_isItem c0 (d.isf (gD "is_item" sIsItem) 2))
  have c3 : Glo prog w K mg base CX0 3 "is_row" spRowOk := d.gl (f_isRow N c2 (d.isf (gD "is_row" sIsRow) 3))
  have c4 : Glo prog w K mg base CX0 1 "is_word" spWord := d.gl (f_isWord N (d.isf (gD "is_word" sIsWord) 4))
  have c5 : Glo prog w K mg base CX0 3 "is_step" spIsStep := d.gl (f_isStep N c4 c2 (d.isf (gD "is_step" sIsStep) 5))
  have c6 : Glo prog w K mg base CX0 4 "check_row" spCkRow := d.gl (f_ckRow N c3 (d.isf (gD "check_row" sCheckRow) 6))
  have c7 : Glo prog w K mg base CX0 4 "check_steps" spCkSteps := d.gl (f_ckSteps N c5 (d.isf (gD "check_steps" sCheckSteps) 7))
  have c8 : Glo prog w K mg base CX0 1 "stepped" spStepped := d.gl (f_stepped (d.isf (gD "stepped" sStepped) 8))
  have c9 : Glo prog w K mg base CX0 1 "is_name" spName := d.gl (f_isName N (d.isf (gD "is_name" sIsName) 9))
  have c10 : Glo prog w K mg base CX0 1 "is_call" spIsCall := d.gl (f_isCall N (d.isf (gD "is_call" sIsCall) 10))
  have xF : MakX prog w K mg base 1 "Fails" (aF K) (spFailsI (aF K)) := d.mkF (f_failsI TX (d.isf ⟨fun K => ma K (aF K) "__init__", "__init__", "Fails.__init__", sFailsInit, []⟩ 28))
  have xN : MakX prog w K mg base 1 "NothingLeft" (aN K) (spNothingI (aN K)) := d.mkN (f_nothingI TX (d.isf ⟨fun K => ma K (aN K) "__init__", "__init__", "NothingLeft.__init__", sNothingInit, []⟩ 29))
  -- sessions
  have sI : ∀ b, Mak prog w K mg base CX0 5 (cof (aS K) (aK K) b) (spInit (aS K) (aK K)) := d.mak (f_init N C c6 (d.isf (sD "__init__" "Session.__init__" sInit) 11))
  have sL : ∀ b, Mtd prog w K mg base CX0 3 (cof (aS K) (aK K) b) "set_limit" (spSetLimit (aS K) (aK K)) := d.mtd 8 (by simp) (f_setLimit N C c1 (d.isf (sD "set_limit" "Session.set_limit" sSetLimit) 12))
  have fA : FnR prog w K mg base CX0 2 (ma K (aS K) "after") (spAft (aS K) (aK K)) := f_aft N C c8 (d.isf (sD "after" "Session.after" sAfter) 13)
  have sA : ∀ b, Mtd prog w K mg base CX0 4 (cof (aS K) (aK K) b) "after" (spAfter (aS K) (aK K) b) := fun b => by
    cases b with
    | false => exact ⟨⟨_, FnR.up (f_after fA) (by decide), d.meth (by simp) false⟩, d.cls false⟩
    | true => exact ⟨⟨_, f_afterK N d.sup fA, d.meth (by simp) true⟩, d.cls true⟩
  have fD : FnR prog w K mg base (L2.CX prog w) 5 (ma K (aS K) "do") (spDo (aS K) (aK K) (aF K)) := f_do N C TX xF c9 c7 sA (d.isf (sD "do" "Session.do" sDo) 14)
  have sD' : ∀ b, Mtd prog w K mg base (L2.CX prog w) 5 (cof (aS K) (aK K) b) "do" (spDo (aS K) (aK K) (aF K)) := d.mtd 9 (by simp) fD
  have sU : ∀ b, Mtd prog w K mg base CX0 1 (cof (aS K) (aK K) b) "undo" (spUndo (aS K) (aK K)) := d.mtd 10 (by simp) (f_undo N C (d.isf (sD "undo" "Session.undo" sUndo) 15))
  have sO : ∀ b, Mtd prog w K mg base (L2.CX prog w) 3 (cof (aS K) (aK K) b) "redo" (spRedo (aS K) (aK K) (aN K)) := d.mtd 11 (by simp) (f_redo N C TX xN (d.isf (sD "redo" "Session.redo" sRedo) 16))
  have sG : ∀ b, Mtd prog w K mg base CX0 1 (cof (aS K) (aK K) b) "log" (spLog (aS K) (aK K)) := d.mtd 12 (by simp) (f_log N C (d.isf (sD "log" "Session.log" sLog) 17))
  have sC : ∀ b, Mtd prog w K mg base CX0 1 (cof (aS K) (aK K) b) "copied" (spCopied (aS K) (aK K)) := d.mtd 13 (by simp) (f_copied N C (d.isf (sD "copied" "Session.copied" sCopied) 18))
  have sT : ∀ b, Mtd prog w K mg base CX0 7 (cof (aS K) (aK K) b) "twin" (spTwin (aS K) (aK K) b) := fun b => by
    cases b with
    | false => exact ⟨⟨_, f_twin C (sI false) mS (sC false) (d.isf (sD "twin" "Session.twin" sTwin) 19), d.meth (by simp) false⟩, d.cls false⟩
    | true => exact ⟨⟨_, f_twinK C (sI true) mK (sC true) (d.isf (kD "twin" "KeptSession.twin" sTwinK) 23), d.meth (by simp) true⟩, d.cls true⟩
  have sK : ∀ b, Mtd prog w K mg base CX0 1 (cof (aS K) (aK K) b) "is_kept" (spKept b) := fun b => by
    cases b with
    | false => exact ⟨⟨_, f_kept (d.isf (sD "is_kept" "Session.is_kept" sIsKept) 20), d.meth (by simp) false⟩, d.cls false⟩
    | true => exact ⟨⟨_, f_keptK (d.isf (kD "is_kept" "KeptSession.is_kept" sIsKeptK) 24), d.meth (by simp) true⟩, d.cls true⟩
  have sN : ∀ b, Lng prog w K mg base 1 (cof (aS K) (aK K) b) (spLen (aS K) (aK K)) := d.lng (f_len N C (d.isf (sD "__len__" "Session.__len__" sLen) 21))
  have sE : EqS prog w K mg base 2 (aS K) (aK K) (spEq (aS K) (aK K)) := d.eqs (f_eq N C TI mS sK sG (d.isf (sD "__eq__" "Session.__eq__" sEq) 22))
  have sR : ∀ b, Prp prog w K mg base CX0 1 (cof (aS K) (aK K) b) "row" (spRow (aS K) (aK K)) := d.prpR (f_row N C (d.isf ⟨fun K => recAt K (aS K) "property" "row", "row", "Session.row", sRow, []⟩ 25))
  have sM : ∀ b, Prp prog w K mg base CX0 1 (cof (aS K) (aK K) b) "limit" (spLimit (aS K) (aK K)) := d.prpL (f_limit C (d.isf ⟨fun K => recAt K (aS K) "property" "limit", "limit", "Session.limit", sLimit, []⟩ 26))
  have sP : ∀ b, Cm prog w K mg base CX0 7 (cof (aS K) (aK K) b) "replayed" (spReplayed (aS K) (aK K) b) := d.cm fun b => f_replayed N C (sI b) c10 (d.bm fD b) (d.isf ⟨fun K => recAt K (aS K) "classmethod" "replayed", "replayed", "Session.replayed", sReplayed, []⟩ 27)
  -- the law's
  have l0 : Glo prog w K mg base CX0 1 "_law_pool" (spPool K) := d.gl (f_pool N (d.isf (gD "_law_pool" sPool) 30))
  have l1 : Glo prog w K mg base CX0 1 "_law_take" spTake := d.gl (f_take (d.isf (gD "_law_take" sTake) 31))
  have l2 : Glo prog w K mg base CX0 1 "_law_after" spLAfter := d.gl (f_lafter N (d.isf (gD "_law_after" sLAfter) 32))
  have l3 : Glo prog w K mg base CX0 2 "_law_led" spLed := d.gl (f_led l2 (d.isf (gD "_law_led" sLed) 33))
  have l4 : Glo prog w K mg base CX0 2 "_law_guided" spGuided := d.gl (f_guided N l2 l1 (d.isf (gD "_law_guided" sGuided) 34))
  have l5 : Glo prog w K mg base CX0 2 "_law_tried" spTried := d.gl (f_tried N l2 (d.isf (gD "_law_tried" sTried) 35))
  have lD : ToldD K mg := ⟨⟨_, d.isf (gD "_law_told" sTold) 36, d.glo (by decide +kernel), d.keep (by decide +kernel)⟩⟩
  have l6 : Glo prog w K mg base (L2.CX prog w) 6 "_law_called" (spCalled (aS K) (aK K) (aF K)) := d.gl (f_called N sD' (d.isf (gD "_law_called" sCalled) 37))
  have l7 : GloG prog w K mg base 9 "_law_step" (spStep (aS K) (aK K) (tabs K)) := d.gg (f_step N lD TT (d.tab TB (st := sStep) 38 (by simp [tfs])) l1 l4 sR sN sU l5 l6 (d.isf (gD "_law_step" sStep) 38))
  have l8 : Glo prog w K mg base CX0 3 "_law_state" (spState (aS K) (aK K)) := d.gl (f_state N sR sM sG sN (d.isf (gD "_law_state" sState) 39))
  have l9 : Glo prog w K mg base CX0 9 "_law_led_back" (spLedBack (aS K) (aK K) (tabs K)) := d.gl (f_ledBack N C sT sN sG sR sU sO l3 sE (d.isf (gD "_law_led_back" sLedBack) 40))
  have l10 : GloG prog w K mg base 10 "_law_alone" (spAlone (aS K) (aK K) (tabs K)) := d.gg (f_alone N lD TT (d.tab TB (st := sAlone) 41 (by simp [tfs])) l9 l8 sN sU sO sD' sE (d.isf (gD "_law_alone" sAlone) 41))
  have l11 : Glo prog w K mg base CX0 8 "_law_unlike" (spUnlike (tabs K)) := d.gl (f_unlike N mS (sI false) sR sD' sE (d.isf (gD "_law_unlike" sUnlike) 42))
  have l12 : GloG prog w K mg base 8 "_law_full" (spFull (aS K) (aK K) (tabs K)) := d.gg (f_full N lD TT (d.tab TB (st := sFull) 43 (by simp [tfs])) l8 sR sD' sL (d.isf (gD "_law_full" sFull) 43))
  have l13 : GloG prog w K mg base 8 "_law_empty_right" (spEmpty (tabs K)) := d.gg (f_empty N lD TT (d.tab TB (st := sEmptyRight) 44 (by simp [tfs])) mK (sI true) sE sD' sU sO sT (d.isf (gD "_law_empty_right" sEmptyRight) 44))
  exact f_law (CF := aF K) (CN := aN K) N ⟨mS, mK, sI false, sI true, l0, l1, sR, sM, sG, sT, sL, sP, sE, l7, l10, l11, l12, l13⟩ (d.isf (gD "law" sLaw) 45)
end
end Dq
set_option maxHeartbeats 1000000
namespace Dq
open PySem PySem.Spec PyProof.Rows L2 He
open PySem.W (Frag)
section
variable {K : Frag} {H : Hp} {a : Addr} {ns : List Int}
theorem tabs_start (hH : ∀ p ∈ tfs.map (cT K), H p.2 = some (.tbl #[])) : LamX.Tabs (tabs K) H := fun p hp => by
  obtain ⟨q, hq, rfl⟩ := List.mem_map.mp hp
  exact ⟨#[], hH _ (List.mem_map_of_mem hq), True.intro, fun pos cv hc => (nomatch hc)⟩
theorem law_start (hH : ∀ p ∈ tfs.map (cT K), H p.2 = some (.tbl #[])) (hS : SqL K H a (ns.map V.int)) (hl : ns.length ≤ 63) : spLaw K (tabs K) [.ref a] H (fun v _ => v = .bl true) E0 := by
  have t := tabs_start hH
  have one : ∀ o : HO, H a = some o → Pl o → Wd (tabs K) (upd (fun _ => none) a o) (fun _ => none) H := fun o e p => by
    refine ⟨fun b u h => ?_, fun b w u h => (nomatch h), t⟩
    by_cases z : b = a
    · subst z
      rw [upd_same] at h
      cases h
      exact ⟨e, p⟩
    · rw [upd_ne z] at h
      cases h
  rcases hS with (h | ⟨o, h⟩) | h
  · exact ⟨a, ns, _, _, rfl, one _ h True.intro, .inl (.inl upd_same), by omega, fun _ => rfl⟩
  · exact ⟨a, ns, _, _, rfl, one _ h True.intro, .inl (.inr ⟨o, upd_same⟩), by omega, fun _ => rfl⟩
  · exact ⟨a, ns, fun _ => none, fun _ => none, rfl, ⟨fun _ _ h => (nomatch h), fun _ _ _ h => (nomatch h), t⟩, .inr h, by omega, fun _ => rfl⟩
end
end Dq
open PySem PySem.W PySem.Calls PyProof.Rows
theorem PySem.Challenge.cw_dequeeffect_k72_whole_twins_replays_kept_holds : PySem.Challenge.rw_dequeeffect_k72_whole_twins_replays_kept.Holds := by
  w_on; o_law
  refine HandSHeadRun.head_any (r := OpenLaw.row PySem.Challenge.rw_dequeeffect_k72_whole_twins_replays_kept) (q := view (OpenLaw.row PySem.Challenge.rw_dequeeffect_k72_whole_twins_replays_kept).prog [48]) (H := Dq.hk) (ob := Dq.ob) (M := 20000) (loose := Dq.loose) (d := HandSHeadRun.topDef (OpenLaw.row PySem.Challenge.rw_dequeeffect_k72_whole_twins_replays_kept).prog 48) (kwd := []) Dq.ob_eq
    (by kernel_rfl) (fun s => by kernel_rfl) Dq.run (by kernel_rfl) (by kernel_rfl) (by kernel_rfl) (by rfl) (by first | assumption | decide +kernel) (by decide +kernel) ⟨rfl, rfl, rfl, rfl, rfl, by decide +kernel⟩ ?hw ?hc
  case hw => w_witness2
  case hc =>
    refine Att.attach_callB (l := PySem.Challenge.rw_dequeeffect_k72_whole_twins_replays_kept) (n := 63) rfl (by kernel_rfl) fun w s₀ s₁ mg mb fa o pm cd doc a vs ns G Y ho hd hcd hmg0 hobj hints hlen hbits hg => ?_
    obtain ⟨K, KX, c⟩ := Y
    have d : Dq.Hd s₁.heap K mg := ⟨c, KX, G.T.g⟩
    have hmg : mg ("law" : PySem.Str) = some (.ref fa) := by
      have e : (HandSHeadRun.topDef (OpenLaw.row PySem.Challenge.rw_dequeeffect_k72_whole_twins_replays_kept).prog 48).name = ("law" : PySem.Str) := by kernel_rfl
      rw [← e]
      exact hmg0
    have e := hmg.symm.trans (d.glo (x := "law") (by decide +kernel))
    cases e
    refine Dq.law_callG (k := 11) (cs := Dq.tfs.map (He.cT K)) (sp := Dq.spLaw K (Dq.tabs K)) KX G.T.g G.T.b G.T.builtins G.T.nolimit hg (fun p hp => ?_) (fun p hp => ?_) (fun p hp => ?_) G.T.bmain hobj hints (Nat.le_trans hlen (by decide)) ⟨rfl, by decide, by decide⟩ (fun base KB GB TB => d.law TB) fun H hH hS => Dq.law_start hH hS hlen
    · obtain ⟨q, hq, rfl⟩ := List.mem_map.mp hp
      exact c.empty q hq
    · obtain ⟨q, hq, rfl⟩ := List.mem_map.mp hp
      exact c.out q hq
    · obtain ⟨q, hq, rfl⟩ := List.mem_map.mp hp
      exact c.hd q hq
