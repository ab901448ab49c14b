import PyProof.Rows.All
import Wide.All
import OpenK.AllK
import Wide.FinOn
import HandS.ForMost
import HandS.Exc
import HandS.TryOnly
import HandS.ExcOwn
import HandS.ExcInit
import HandS.ExcIs
import HandS.Hot
import HandS.HotCalls
import HandS.Sort
import HandS.SortRule
import HandS.TupAny
import HandS.DictComp
import HandS.Conv
import HandS.Style
import HandS.IsInst
import HandS.Property
import HandS.Star
import HandS.RaiseMore
import HandS.Lambda
import HandS.EndTab
import HandS.Defaults
import HandS.HeadHook4
import HandS.HeadWalk
import HandS.Head2
import HandS.HeadNt
import KE.GoesEnum
import KE.KOpsOwn
import PyProof.ReprRoads
import KE.KTryMore
import KE.KExcInit
import HandS.ExcField
import HandS.WordsExc
import HandS.WrittenGet
import HandS.More
import HandS.Small
import HandS.Words
import HandS.WordsDict
import PyProof.ReprBulk
import PyProof.Rows.ReprShort
import HandS.DeepEq
import PySem.Challenge.RW_keptrests_k60_whole_desks_taken_back
set_option Elab.async false
set_option linter.all false
set_option maxRecDepth 100000
set_option maxHeartbeats 2000000
/-! Rules of my own over the hand layer, part A: defs by name, repr of data, own dunder methods, enumerate over a tuple. -/
namespace Kr
open PySem PySem.Spec PyProof.Rows L2

/-! ### a def of the module, by its name -/
structure DOk (P : Program) (w : World) (K : PySem.W.Frag) (mg : Str → Option Value) (base : Heap) (CX : CXT) (k : Nat) (x : Str) (ps : List Str) (sp : Sp) : Prop where
  m : mg x = some (.ref (He.ga K x))
  kp : PySem.W.keepIn K (.ref (He.ga K x)) = true
  ok : ∃ fd, FnOk P w K mg base CX k (He.ga K x) fd ps sp ∧ Binds K fd ps []

section
variable {X : Cx} {CX : CXT} {j k : Nat} {ps : List Str} {sp : Sp} {E : XK} {x : Str} {p pos : Pos} {e : Expr} {es : List Expr} {t : TA}
/-- x(e, ..) -/
theorem pe_fn (D : DOk X.prog X.w X.K X.mg X.base CX k x ps sp) (hr : Room j X.A) (ha : PA X (e :: es) t) (hg : Gl X x := by rfl) (hx : Passes CX X E := by exact pass0) (hjk : k ≤ j := by decide)
    (hdb : (x == ("__debug__" : Str)) = false := by decide) (he : starEach (e :: es) X.env = (false, eval e X.env) :: starEach es X.env := by rfl) (hpl : (backTo pos (starEach es X.env)).any (·.1) = false := by rfl) :
    PE X (.Call (.Name x p) (e :: es) [] pos) (tCall sp [] E t) := by
  obtain ⟨fd, F, b⟩ := D.ok
  exact pe_call F (hr.mono hjk) hg D.m D.kp b .nil hx ha hdb he hpl
end

/-! ### repr of data -/
def rRepr (K : PySem.W.Frag) : List V → Hp → VK → Prop := fun xs H Q => ∃ v d, xs = [v] ∧ Dp K H v d ∧ d.showable = true ∧ d.hasDict = false ∧ d.depth ≤ 60 ∧ d.shown.length ≤ sizeLine ∧ Q (.str d.shown) H
theorem call_repr_D {X : Cx} (hg : X.A.guards = some []) (hu : X.A.units + 64 < cLine) : CallR X (.builtin "repr") (rRepr X.K) := by
  intro pins s σ H xs us Q I r h
  obtain ⟨v, d, rfl, hd, hs, hnd, hdp, hz, q⟩ := h
  obtain ⟨u, rfl, r1⟩ := vals1 r
  have deep : ∀ (a : Addr), u = .ref a → wpAny (model X.prog X.w) X.A (call (.builtin "repr") [u]) (EP X pins σ Q) X.xe s := fun a e => by
    subst e
    obtain ⟨as, hr⟩ := Dp.reads I d v _ hd r1
    refine repr_of_reads' hr hs (PyData.noDict_hsm hnd) hg (by omega) (fun _ _ z => z) (fun h' t tk hk => ?_) hz
    exact ⟨.str d.shown, H, I.kept (t' := tk) hk, ⟨t, rfl⟩, q⟩
  cases hd with
  | non =>
    cases r1
    exact PySem.P.repr_of_none ⟨.str _, H, I.tok _, ⟨s.toks, by simp only [PyData.shown]⟩, q⟩
  | bl b =>
    cases r1
    exact PySem.P.repr_of_bool ⟨.str _, H, I.tok _, ⟨s.toks, by cases b <;> simp only [PyData.shown] <;> rfl⟩, q⟩
  | int i =>
    obtain ⟨t, rfl⟩ := r1
    simp only [PyData.showable, decide_eq_true_eq] at hs
    exact PySem.P.repr_of_int hs ⟨.str _, H, I.tok _, ⟨s.toks, by simp only [PyData.shown]⟩, q⟩
  | str x =>
    obtain ⟨t, rfl⟩ := r1
    simp only [PyData.shown] at hz
    exact PySem.P.repr_of_str ⟨.str _, H, I.tok _, ⟨s.toks, by simp only [PyData.shown]⟩, q⟩ hz
  | lst _ _ => exact deep _ (show u = Value.ref _ from r1)
  | tup _ _ => exact deep _ (show u = Value.ref _ from r1)

/-! ### an own class's special methods, by syntax -/
section
variable {X : Cx} {CX : CXT} {k : Nat} {C f : Addr} {fd : FuncData} {ps : List Str} {sp : Sp} {E : XK}
/-- what the class has for v in x, x[i], x[i] = v, len(x) -/
structure Spec1 (K : PySem.W.Frag) (C : Addr) (name : Str) (f : Addr) : Prop where
  at_ : PySem.W.findIn K (.ref C) name = some (some (.ref f))
  fn : PySem.W.isFn K (.ref f) = true
theorem ins_in {pins : List (Addr × Obj)} {σ : L2.St} {H : Hp} {s : Shared} {a dx : Addr} {fs : List (Str × V)} (I : Inv X pins σ H s) (ea : H a = some (.ins C dx fs)) : ∃ od, PySem.W.InstAt s.heap a (PySem.W.instObj C dx) C (some od) := by
  obtain ⟨mA, O, _⟩ := ins_get I.hok ea
  obtain ⟨od, J, _⟩ := O.look
  exact ⟨od, J⟩
/-- v in x -/
def rInOwn (C : Addr) (sp : Sp) (E : XK) (g : Bool → Bool) : R2 := fun y x H Q => ∃ a dx fs, x = .ref a ∧ H a = some (.ins C dx fs) ∧ sp [x, y] H (fun v H1 => ∃ b, v = .bl b ∧ Q (.bl (g b)) H1) E
theorem op_inOwn (hm : Spec1 X.K C "__contains__" f) (F : FnOk X.prog X.w X.K X.mg X.base CX k f fd ps sp) (hr : Room k X.A) (hb : Binds X.K fd ps []) (hx : Passes CX X E) : OpR X (compareOp .In) (rInOwn C sp E id) := by
  intro pins s σ H y x v u Q I ry rx h
  obtain ⟨a, dx, fs, rfl, ea, q⟩ := h
  cases rx
  obtain ⟨m, Fr⟩ := I.fr
  obtain ⟨od, J⟩ := ins_in I ea
  refine PySem.W.in_K Fr I.ok.mod.kin J hm.at_ hm.fn (thn (run_fn (vs := [.ref a, y]) (Q := fun v H1 => ∃ b, v = .bl b ∧ Q (.bl (id b)) H1) F hr hb .nil hx I (.cons rfl (.cons ry .nil)) q) fun r s' ⟨z, H1, I1, rz, b, ez, q1⟩ => ?_)
  subst ez
  cases rz
  exact wpAny_truthy_bool ⟨.bl b, H1, I1, rfl, q1⟩
theorem op_notInOwn (hm : Spec1 X.K C "__contains__" f) (F : FnOk X.prog X.w X.K X.mg X.base CX k f fd ps sp) (hr : Room k X.A) (hb : Binds X.K fd ps []) (hx : Passes CX X E) : OpR X (compareOp .NotIn) (rInOwn C sp E not) := by
  intro pins s σ H y x v u Q I ry rx h
  obtain ⟨a, dx, fs, rfl, ea, q⟩ := h
  cases rx
  obtain ⟨m, Fr⟩ := I.fr
  obtain ⟨od, J⟩ := ins_in I ea
  refine PySem.W.notIn_K Fr I.ok.mod.kin J hm.at_ hm.fn (thn (run_fn (vs := [.ref a, y]) (Q := fun v H1 => ∃ b, v = .bl b ∧ Q (.bl (!b)) H1) F hr hb .nil hx I (.cons rfl (.cons ry .nil)) q) fun r s' ⟨z, H1, I1, rz, b, ez, q1⟩ => ?_)
  subst ez
  cases rz
  exact wpAny_truthy_bool ⟨.bl (!b), H1, I1, rfl, q1⟩
/-- len(x) -/
theorem call_lenOwn (hm : Spec1 X.K C "__len__" f) (F : FnOk X.prog X.w X.K X.mg X.base CX k f fd ps sp) (hr : Room (k + 1) X.A) (hb : Binds X.K fd ps []) (hx : Passes CX X.nox E) :
    CallR X (.builtin "len") (fun xs H Q => ∃ a dx fs, xs = [.ref a] ∧ H a = some (.ins C dx fs) ∧ sp [.ref a] H (fun v H1 => ∃ n : Int, v = .int n ∧ 0 ≤ n ∧ n < 2 ^ 63 ∧ Q (.int n) H1) E) := by
  intro pins s σ H xs us Q I r h
  obtain ⟨a, dx, fs, rfl, ea, q⟩ := h
  obtain ⟨u, rfl, r1⟩ := vals1 r
  cases r1
  obtain ⟨m, Fr⟩ := I.fr
  obtain ⟨od, J⟩ := ins_in I ea
  have hl : ([Value.ref a] : List Value).length = ps.length := by
    rw [← F.len _ _ _ _ q] <;> rfl
  have b := hb s [.ref a] I.kIn (by simpa using hl)
  refine PySem.W.len_K Fr I.ok.mod.kin J hm.at_ hm.fn (wpAny_call (codeAny_mono (F.run X.A.in1 X.stack s H ⟨[.ref a], []⟩ [.ref a] [.ref a] _ E hr.in1 I.env0.in1 (by simpa using b) (.cons rfl .nil) q) fun r s' hq => ?_))
  cases r with
  | error er => exact False.elim (hx pins σ H s er s' (I.wish _) hq)
  | ok fl =>
    cases fl with
    | ret u =>
      obtain ⟨v, H', I3, rv, n, ev, h0, h1, q3⟩ := I.after hq
      subst ev
      obtain ⟨t, rfl⟩ := rv
      exact ⟨⟨h0, h1⟩, .int n, H', I3.tok _, ⟨_, rfl⟩, q3⟩
    | next => exact False.elim hq
    | brk => exact False.elim hq
    | cont => exact False.elim hq
/-- o[i] = v -/
theorem set_own (hq : PySem.W.noSeq X.K C = true) (hm : Spec1 X.K C "__setitem__" f) (F : FnOk X.prog X.w X.K X.mg X.base CX k f fd ps sp) (hr : Room k X.A) (hb : Binds X.K fd ps []) (hx : Passes CX X E) :
    PSet X (fun o i v H Q => ∃ a dx fs, o = .ref a ∧ H a = some (.ins C dx fs) ∧ sp [o, i, v] H (fun _ H1 => Q H1) E) := by
  intro pins s σ H o i v ov iv u Q I ro ri rv h
  obtain ⟨a, dx, fs, rfl, ea, q⟩ := h
  cases ro
  obtain ⟨m, Fr⟩ := I.fr
  obtain ⟨od, J⟩ := ins_in I ea
  refine PySem.W.ksp_setItem Fr I.ok.mod.kin J hq hm.at_ hm.fn (thn (run_fn (vs := [.ref a, i, v]) (Q := fun _ H1 => Q H1) F hr hb .nil hx I (.cons rfl (.cons ri (.cons rv .nil))) q) fun r s' ⟨z, H1, I1, rz, q1⟩ => ?_)
  exact ⟨H1, I1, q1⟩
end
end Kr

set_option Elab.async false
set_option linter.all false
set_option maxRecDepth 100000
set_option maxHeartbeats 2000000
/-! Part B: a promise that knows that no repr is under way; own __getitem__; a try whose clause names three classes. -/
namespace Kr
open PySem PySem.Spec PyProof.Rows L2

/-! ### a promise where no guard stands below -/
structure FnG (P : Program) (w : World) (K : PySem.W.Frag) (mg : Str → Option Value) (base : Heap) (CX : CXT) (k : Nat) (f : Addr) (fd : FuncData) (ps : List Str) (sp : Sp) : Prop where
  len : ∀ vs H Q E, sp vs H Q E → vs.length = ps.length
  run : ∀ (A : Around) (outer : List Env) (s : Shared) (H : Hp) (args : Args) (us : List Value) (vs : List V) (Q : VK) (E : XK), A.guards = some [] → Room k A → Env0 P w K mg base A outer s H →
    BindsTo s fd args (ps.zip us) → Vals vs us → sp vs H Q E → codeAny (model P w) A (.call (.ref f) args) (CR CX outer P w H s Q E) s
theorem FnG.of {P : Program} {w : World} {K : PySem.W.Frag} {mg : Str → Option Value} {base : Heap} {CX : CXT} {k : Nat} {f : Addr} {fd : FuncData} {ps : List Str} {sp : Sp} (F : FnOk P w K mg base CX k f fd ps sp) : FnG P w K mg base CX k f fd ps sp :=
  ⟨F.len, fun A outer s H args us vs Q E _ hr e0 hb r h => F.run A outer s H args us vs Q E hr e0 hb r h⟩
structure GOk (P : Program) (w : World) (K : PySem.W.Frag) (mg : Str → Option Value) (base : Heap) (CX : CXT) (k : Nat) (x : Str) (ps : List Str) (sp : Sp) : Prop where
  m : mg x = some (.ref (He.ga K x))
  kp : PySem.W.keepIn K (.ref (He.ga K x)) = true
  ok : ∃ fd, FnG P w K mg base CX k (He.ga K x) fd ps sp ∧ Binds K fd ps []
theorem Fun.okG {P : Program} {w : World} {K : PySem.W.Frag} {mg : Str → Option Value} {base : Heap} {x qual : Str} {st : Stmt} {f : Addr} {fd : FuncData} {N ps : List Str} {k : Nat} {sp : Sp} (F : Fun K x qual st f fd) (S : FnScope N ps (defScope st))
    (len : ∀ vs H Q E, sp vs H Q E → vs.length = ps.length)
    (hbody : ∀ (cdv : Value) (A : Around) (outer : List Env) (s : Shared) (H : Hp) (vs : List V) (Q : VK) (E : XK), PySem.W.codeIn K cdv qual = true → fd.code = cdv → A.guards = some [] → Room k (A.deeper (envOfC qual (defScope st) s.heap.objs.size f cdv)) → sp vs H Q E →
      ∃ t, PSs (cxOf CX0 P w K mg base N qual (defScope st) f cdv A outer s H E).nox (defBody st) t ∧ t { nx := fun _ H' => Q .non H', rt := Q } (L2.start N vs) H) : FnG P w K mg base CX0 (k + 1) f fd ps sp := by
  obtain ⟨oc, od, kV, doc, pm, an, cdv, ct, osl, rfl, lk, hcd⟩ := F.ex
  refine ⟨len, fun A outer s H args us vs Q E hg hr e0 hb r h => ?_⟩
  refine LamX.run_ofS lk hcd S hr e0 hb r (len _ _ _ _ h) fun hr' => ?_
  obtain ⟨t, ht, hq⟩ := hbody cdv A outer s H vs Q E hcd rfl hg hr' h
  exact ⟨t, ht.nox, hq⟩
section
variable {X : Cx} {CX : CXT} {j k : Nat} {f : Addr} {fd : FuncData} {ps : List Str} {sp : Sp} {E : XK} {x : Str} {p pos : Pos} {e : Expr} {es : List Expr} {t : TA}
theorem run_fnG {pins : List (Addr × Obj)} {σ : L2.St} {H : Hp} {s : Shared} {Q : VK} {us : List Value} {vs : List V} (F : FnG X.prog X.w X.K X.mg X.base CX k f fd ps sp) (hg : X.A.guards = some []) (hr : Room k X.A) (hb : Binds X.K fd ps []) (hx : Passes CX X E)
    (I : Inv X pins σ H s) (r : Vals vs us) (h : sp vs H Q E) : wpAny (model X.prog X.w) X.A (call (.ref f) us) (EP X pins σ Q) X.xe s := by
  have hl : (us ++ []).length = ps.length := by
    rw [List.append_nil, ← r.length]
    exact F.len _ _ _ _ h
  have b := hb s us I.kIn hl
  rw [List.append_nil] at b
  refine wpAny_call (codeAny_mono (F.run X.A X.stack s H ⟨us, []⟩ us vs Q E hg hr I.env0 b r h) fun r s' hq => ?_)
  rcases r with e | (_ | _ | _ | u)
  · exact hx pins σ H s e s' I hq
  · exact False.elim hq
  · exact False.elim hq
  · exact False.elim hq
  · exact I.after hq
/-- x(e, ..), where no repr is under way -/
theorem pe_fnG (D : GOk X.prog X.w X.K X.mg X.base CX k x ps sp) (hgd : X.A.guards = some []) (hr : Room j X.A) (ha : PA X (e :: es) t) (hg : Gl X x := by rfl) (hx : Passes CX X E := by exact pass0) (hjk : k ≤ j := by decide)
    (hdb : (x == ("__debug__" : Str)) = false := by decide) (he : starEach (e :: es) X.env = (false, eval e X.env) :: starEach es X.env := by rfl) (hpl : (backTo pos (starEach es X.env)).any (·.1) = false := by rfl) :
    PE X (.Call (.Name x p) (e :: es) [] pos) (tCall sp [] E t) := by
  obtain ⟨fd, F, b⟩ := D.ok
  refine ⟨fun pins s σ H Q I h => ?_⟩
  refine wpAny_Call_Name_kw (ld_glob I hg D.m ?_ hdb)
  refine PySem.W.callWith_K (h₀ := X.base) I.ok.mod.kin D.kp (thn (ha.run pos pins s σ H _ I h) fun us s1 ⟨vs, H1, I1, r, q⟩ => ⟨I1.kIn, ?_⟩) he hpl
  have q' : sp (vs ++ []) H1 Q E := q
  rw [List.append_nil] at q'
  exact run_fnG F hgd (hr.mono hjk) b hx I1 r q'
end

/-! ### x[i] by an own __getitem__ -/
theorem pe_subOwn {X : Cx} {CX : CXT} {k : Nat} {C f : Addr} {fd : FuncData} {ps : List Str} {sp : Sp} {E : XK} {a b : Expr} {ta tb : TE} {pos : Pos} (hm : Spec1 X.K C "__getitem__" f) (hfn : PySem.W.fnIn X.K f = true) (F : FnOk X.prog X.w X.K X.mg X.base CX k f fd ps sp) (hr : Room (k + 1) X.A)
    (hb : Binds X.K fd ps []) (hx : Passes CX X.nox E) (ha : PE X a ta) (hb' : PE X b tb) (hsl : ∀ o i, subscripted b true o i = runValue (.builtin "lifetime.subscript" ⟨[o, i], []⟩) := by intros; rfl) :
    PE X (.Subscript a b pos) (tOp (fun x y H Q => ∃ p dx fs, x = .ref p ∧ H p = some (.ins C dx fs) ∧ sp [x, y] H Q E) ta tb) := by
  refine ⟨fun pins s σ H Q I h => ?_⟩
  refine Subscript_ (binT ha hb' I h fun v u s2 x y H2 I2 rx ry q => ?_)
  obtain ⟨p, dx, fs, rfl, ea, q⟩ := q
  cases rx
  obtain ⟨m, Fr⟩ := I2.fr
  obtain ⟨od, J⟩ := ins_in I2 ea
  have hl : ([Value.ref p, u] ++ ([] : List Value)).length = ps.length := by
    rw [← F.len _ _ _ _ q] <;> rfl
  have b1 := hb s2 [.ref p, u] I2.kIn hl
  refine PySem.W.sub_K Fr I2.ok.mod.kin J hm.at_ hfn hm.fn (wpAny_call (codeAny_mono (F.run X.A.in1 X.stack s2 H2 ⟨[.ref p, u], []⟩ [.ref p, u] [.ref p, y] Q E hr.in1 I2.env0.in1 (by simpa using b1) (.cons rfl (.cons ry .nil)) q) fun r s' hq => ?_)) (hsl _ _)
  rcases r with e | (_ | _ | _ | u)
  · exact False.elim (hx pins σ H2 s2 e s' (I2.wish _) hq)
  · exact False.elim hq
  · exact False.elim hq
  · exact False.elim hq
  · exact I2.after hq

/-! ### try: body / except (x1, x2, x3) as n: suite -/
theorem flyingZ_keeps {B h h' : Heap} {l : List Env} {a : Addr} {Z : Obj → Prop} (k : ∀ b o, h.get? b = some o → h'.get? b = some o) (f : HandSPX.FlyingZ B l a Z h) : HandSPX.FlyingZ B l a Z h' := by
  obtain ⟨k1, k2, k3, oe, vs, T, oT, ts, he, hz, hd, h1, hn, hT, ho, hdT, h3⟩ := f
  exact ⟨fun b o e => k b o (k1 b o e), k2, k3.of_keeps fun b o e _ => ⟨o, k b o e, rfl⟩, oe, vs, T, oT, ts, k _ _ he, hz, hd, h1, hn, hT, k _ _ ho, hdT, h3⟩
/-- what the clause wishes of an exception of the body: one of the three takes it -/
def wTup (K : PySem.W.Frag) (c1 c2 c3 : Addr) (i : Nat) (ts : Addr → Value → Option Addr → TS) (D : Ends) : WX := fun cls d σ H =>
  PySem.W.exmAny K cls [.ref c1, .ref c2, .ref c3] = some true ∧ ∀ a, H a = none → ts a cls d { nx := fun σ' H' => D.nx (σ'.set i none) H', rt := D.rt, bk := fun σ' H' => D.bk (σ'.set i none) H', ct := fun σ' H' => D.ct (σ'.set i none) H' } (σ.set i (some (.ref a))) H
theorem ps_try_tup {X : Cx} {x1 x2 x3 n : Str} {c1 c2 c3 : Addr} {i kk : Nat} {body suite : List Stmt} {b₀ : Stmt} {p1 p2 p3 tpos pos pos' : Pos} {tb : WX → TS} {ts : Addr → Value → Option Addr → TS} (hs : X.stack = X.env :: X.outer) (hf : X.env.frame = some X.env.locals) (hN : X.N.Nodup) (hi : X.N[i]? = some n)
    (hln : X.env.kindOf n = some .local) (g1 : Gl X x1) (m1 : X.mg x1 = some (.ref c1)) (g2 : Gl X x2) (m2 : X.mg x2 = some (.ref c2)) (g3 : Gl X x3) (m3 : X.mg x3 = some (.ref c3))
    (hb : ∀ (W : WX) (pn : List (Addr × Obj)) (xe : Value → Shared → Prop), Takes (X.tr pn xe) W → PassesOwn (model X.prog X.w) X.A X.env xe → PSs (X.tr pn xe) body (tb W))
    (hsu : ∀ (a : Addr) (oe : Obj) (cls : Value) (d : Option Addr) (pn : List (Addr × Obj)), Zc cls d oe → (∃ vs, oe.data = .fields vs) → PSs (X.suite a ((a, oe) :: pn)) (b₀ :: suite) (ts a cls d))
    (d1 : (x1 == ("__debug__" : Str)) = false := by decide) (d2 : (x2 == ("__debug__" : Str)) = false := by decide) (d3 : (x3 == ("__debug__" : Str)) = false := by decide) :
    PS X (.Try body [.ExceptHandler (some (.Tuple [.Name x1 p1, .Name x2 p2, .Name x3 p3] kk tpos)) (some n) (b₀ :: suite) pos'] [] [] pos) (fun D σ H => tb (wTup X.K c1 c2 c3 i ts D) D σ H) := by
  refine ⟨fun pins s σ H D I h => ?_⟩
  have ok := I.ok
  have hfr : X.A.frames = some (X.env :: X.outer) := by rw [ok.frames, hs]
  refine wpAny_Try_except ?_
  refine wpAny_mono ((hb (wTup X.K c1 c2 c3 i ts D) (X.pn ++ pins) (fun e s₁ => wpAny (model X.prog X.w) X.A (noteFrame e X.env) (fun _ s₂ => wpAny (model X.prog X.w) X.A (setFlight e none) (fun _ s₃ =>
    wpAny (model X.prog X.w) X.A (handleBy e X.env [.ExceptHandler (some (.Tuple [.Name x1 p1, .Name x2 p2, .Name x3 p3] kk tpos)) (some n) (b₀ :: suite) pos']) (SP X pins D) X.xe s₃) X.xe s₂) X.xe s₁) (fun u s' xx => ?_) PassesOwn.looking).run [] s σ H D (I.toTry _) h) (fun f s1 hsp => ?_) (fun e s1 he => he)
  · obtain ⟨a, B, sI, pins', σ', H', cls, d, rfl, J', nb, up, sky, na, os, ag, hyes, hts⟩ := xx
    have J : Inv X pins σ' H' sI := J'.ofTry ok
    have sky' : Sky B (X.env :: X.outer) a (Zc cls d) X.env.locals s'.heap := by rw [← hs]; exact sky
    show wpAny (model X.prog X.w) X.A (noteFrame (.ref a) X.env) _ _ _
    refine Sky.land Zc.steady hfr hf sky' fun h3 fl3 up3 => ?_
    have J3 : Inv X pins σ' H' { s' with heap := h3 } := J.landed nb fl3.1 (up.trans up3) os ag
    obtain ⟨oe3, vs3, he3, hz3, hd3⟩ := fl3.there
    have nfr : a ∉ frs (X.env :: X.outer) := fun hm => by
      obtain ⟨_, o', e', hnf⟩ := fl3.2.2.1.mem hm
      rw [he3] at e'
      cases e'
      exact hnf _ hd3
    have nL : a ≠ X.env.locals := fun z => nfr (List.mem_filterMap.mpr ⟨X.env, List.mem_cons_self, by rw [hf, z]⟩)
    have nF : a ∉ X.fs := fun hm => by
      obtain ⟨e, he, q⟩ := List.mem_filterMap.mp hm
      exact nfr (List.mem_filterMap.mpr ⟨e, List.mem_cons_of_mem _ he, q⟩)
    have S3 := J3.suite he3 hd3 na nL nF
    refine wpAny_handleBy_cons (codeAny_handlers_test ?_) (by intro q; cases q)
    -- the three classes in a new tuple
    refine Tuple_ ?_
    show wpAny _ _ (spliced ((false, eval (.Name x1 p1) X.env) :: backTo tpos (starEach [.Name x2 p2, .Name x3 p3] X.env))) _ _ _
    refine Calls.spliced_cons (ld_glob (X := X.suite a ((a, oe3) :: (X.pn ++ pins))) S3 g1 m1 ?_ d1)
    show wpAny _ _ (spliced ((false, eval (.Name x2 p2) X.env) :: backTo tpos (starEach [.Name x3 p3] X.env))) _ _ _
    refine Calls.spliced_cons (ld_glob (X := X.suite a ((a, oe3) :: (X.pn ++ pins))) S3 g2 m2 ?_ d2)
    show wpAny _ _ (spliced ((false, eval (.Name x3 p3) X.env) :: backTo tpos (starEach [] X.env))) _ _ _
    refine Calls.spliced_cons (ld_glob (X := X.suite a ((a, oe3) :: (X.pn ++ pins))) S3 g3 m3 ?_ d3)
    refine Calls.spliced_nil (wpAny_newObj_type ?_ (by show 3 ≤ sizeLine; decide))
    have kN : ∀ b o, h3.get? b = some o → (h3.push { cls := .type "tuple", data := .seq [Value.ref c1, .ref c2, .ref c3].toArray }).get? b = some o := fun b o e => Heap.get?_push_of_some _ e
    have fl5 := flyingZ_keeps kN fl3
    have J5 : Inv X pins σ' H' { s' with heap := h3.push { cls := .type "tuple", data := .seq [Value.ref c1, .ref c2, .ref c3].toArray } } := J3.kept (t' := s'.toks) kN
    have LT : PySem.W.Looks (model X.prog X.w) (h3.push { cls := .type "tuple", data := .seq [Value.ref c1, .ref c2, .ref c3].toArray }) (typeOf (.ref a)) cls := fun A Q E s k q => wpAny_typeOf_ref (k _ _ (kN _ _ he3)) (by rw [hz3.1]; exact q)
    have LM := PySem.W.exm_tup3 (M := model X.prog X.w) J5.kIn LT (Heap.get?_push_size h3 rfl) hyes
    refine LM.here ?_
    refine codeAny_handlers_suite_as ?_
    refine HandSPX.lands_againZ fl5 fun h4 fl4 up4 => ?_
    have up5 : h3.UpToSlots (h3.push { cls := .type "tuple", data := .seq [Value.ref c1, .ref c2, .ref c3].toArray }) := Heap.UpToSlots.of_keeps kN
    have J4 : Inv X pins σ' H' { s' with heap := h4 } := J.landed nb fl4.1 (((up.trans up3).trans up5).trans up4) os ag
    obtain ⟨oe4, vs4, he4, hz4, hd4⟩ := fl4.there
    have S4 := J4.suite he4 hd4 na nL nF
    refine store_ok (X := X.suite a ((a, oe4) :: (X.pn ++ pins))) (v := .ref a) S4 hN hi (.inl hln) rfl (fun s5 S5 => ?_) (.inr hln)
    refine wpAny_mono ((hsu a oe4 cls d (X.pn ++ pins) hz4 ⟨_, hd4⟩).run [] s5 _ H' _ S5 (hts a na)) (fun f s6 hsp => ?_) (fun _ _ z => False.elim z)
    have end_ : ∀ {σ6 : L2.St} {H6 : Hp} {Q : Shared → Prop}, Inv (X.suite a ((a, oe4) :: (X.pn ++ pins))) [] σ6 H6 s6 → (∀ s7, Inv X pins (σ6.set i none) H6 s7 → Q s7) →
        wpAny (model X.prog X.w) X.A (do bindName X.env n .none; unbindBehindTheSuite X.env n pos') (fun _ s7 => Q s7) X.xe s6 := fun {σ6 H6 Q} S6 hq => gone_ok (S6.unsuite ok) hN hi hln hq
    cases f with
    | next =>
      obtain ⟨σ6, H6, S6, q6⟩ := hsp
      exact end_ S6 fun s7 J7 => ⟨_, _, J7, q6⟩
    | brk =>
      obtain ⟨σ6, H6, S6, q6⟩ := hsp
      exact end_ S6 fun s7 J7 => ⟨_, _, J7, q6⟩
    | cont =>
      obtain ⟨σ6, H6, S6, q6⟩ := hsp
      exact end_ S6 fun s7 J7 => ⟨_, _, J7, q6⟩
    | ret u =>
      obtain ⟨v6, σ6, H6, S6, r6, q6⟩ := hsp
      exact end_ S6 fun s7 J7 => ⟨_, _, _, J7, r6, q6⟩
  · cases f with
    | next =>
      obtain ⟨σ', H', J', q⟩ := hsp
      exact wpAny_execs_nil ⟨σ', H', J'.ofTry ok, q⟩
    | brk =>
      obtain ⟨σ', H', J', q⟩ := hsp
      exact ⟨σ', H', J'.ofTry ok, q⟩
    | cont =>
      obtain ⟨σ', H', J', q⟩ := hsp
      exact ⟨σ', H', J'.ofTry ok, q⟩
    | ret u =>
      obtain ⟨v, σ', H', J', r, q⟩ := hsp
      exact ⟨v, σ', H', J'.ofTry ok, r, q⟩
end Kr

set_option Elab.async false
set_option linter.all false
set_option maxRecDepth 100000
set_option maxHeartbeats 2000000
/-! Part C: enumerate over a tuple; == of lists and tuples one of which is empty. -/
namespace Kr
open PySem PySem.Spec PyProof.Rows L2
open AutoSeq1 (wpAny_loadPart')

/-! ### enumerate(t), t a tuple -/
set_option maxHeartbeats 1000000 in
theorem meets_enum_tup (l : Addr) (items : Array Value) :
    Meets (Builtin.«enumerate.__new__» ⟨[.type "enumerate", .ref l], []⟩) (fun _ R s => s.heap.IsTuple l items ∧
      R (.ok (.ret (.ref (s.heap.push { cls := .type "tuple_iterator", data := .fields #[.ref l, .int 0 0] }).objs.size)))
        { s with heap := (s.heap.push { cls := .type "tuple_iterator", data := .fields #[.ref l, .int 0 0] }).push { cls := .type "enumerate", data := .fields #[.none, .bool false, .ref s.heap.objs.size, rawInt 0, .none, .none] } }) :=
  .of_wp fun prog w A R s h => by
    obtain ⟨hp, g, d, tk, os⟩ := s
    obtain ⟨hl, h⟩ := h
    have hsub := sub_enumerate
    have q1 : ∀ {A' : Around} {E : Value → Shared → Prop} {Q : Value → Shared → Prop}, Q (.ref hp.objs.size) ⟨hp.push { cls := .type "tuple_iterator", data := .fields #[.ref l, .int 0 0] }, g, d, tk, os⟩ → wpAny (model prog w) A' (pyIter (.ref l)) Q E ⟨hp, g, d, tk, os⟩ :=
      fun q => wpAny_pyIter_tuple (s := ⟨hp, g, d, tk, os⟩) hl q
    wp_walk using q1
    refine wpAny_stack_any fun st => wpAny_pure ?_
    split
    · rename_i c _ _ _ _ _
      cases (c == Value.type "enumerate")
      · wp_walk using q1
        exact ⟨_, rfl, h⟩
      · wp_walk using q1
        exact ⟨_, rfl, h⟩
    · wp_walk using q1
      exact ⟨_, rfl, h⟩
section
variable {prog : Program} {w : World} {A : Around} {E : Value → Shared → Prop} {s : Shared}
theorem call_enum_tup {l : Addr} {items : Array Value} {Q : Value → Shared → Prop} (hL : s.heap.IsTuple l items)
    (h : ∀ h', IsEnum h' (s.heap.objs.size + 1) s.heap.objs.size 0 .none → h'.IsTupleIter s.heap.objs.size l 0 →
      (∀ b o, s.heap.get? b = some o → h'.get? b = some o) → Q (.ref (s.heap.objs.size + 1)) { s with heap := h' }) :
    wpAny (model prog w) A (call (.type "enumerate") [.ref l]) Q E s := by
  refine callType_new F.called_enumerate (by decide) (F.typeCall_enumerate_1 _) (F.newCall_enumerate_1 _) (fun obj => F.args_object_init_2 obj _) F.entry_enumerate_new
    (meets_enum_tup l items) ⟨hL, ?_⟩
  have hz : (s.heap.push { cls := .type "tuple_iterator", data := .fields #[.ref l, .int 0 0] }).objs.size = s.heap.objs.size + 1 := Heap.size_push ..
  show _ ∧ _
  rw [hz]
  have he : IsEnum ((s.heap.push { cls := .type "tuple_iterator", data := .fields #[.ref l, .int 0 0] }).push
      { cls := .type "enumerate", data := .fields #[.none, .bool false, .ref s.heap.objs.size, rawInt 0, .none, .none] }) (s.heap.objs.size + 1) s.heap.objs.size 0 .none := by
    have := Heap.get?_push_size (s.heap.push { cls := .type "tuple_iterator", data := .fields #[.ref l, .int 0 0] })
      (o := { cls := .type "enumerate", data := .fields #[.none, .bool false, .ref s.heap.objs.size, rawInt 0, .none, .none] }) rfl
    rw [hz] at this
    exact this
  exact ⟨⟨_, he, rfl⟩, h _ he ⟨_, Heap.get?_push_of_some _ (Heap.get?_push_size _ rfl), rfl, rfl⟩ fun b o x => Heap.get?_push_of_some _ (Heap.get?_push_of_some _ x)⟩
end
/-- the tuple at a, each item in a new pair -/
def IteT (K : PySem.W.Frag) (a : Addr) : It :=
  ⟨fun i H => ∃ (xs : List V) (x : V), SqT K H a xs ∧ xs[i]? = some x, fun i H v H' => ∃ T x, v = .ref T ∧ H T = none ∧ H' = upd H T (.tup [.int (i : Nat), x]) ∧ ∀ xs, SqT K H a xs → xs[i]? = some x, fun i H => ∃ xs : List V, SqT K H a xs ∧ xs.length = i⟩
theorem turn_enumT {P : Program} {w : World} {K : PySem.W.Frag} {elts : List Expr} {kk : Nat} {tpos : Pos} (a e it : Addr) (h1 : e ≠ it) (h2 : a ≠ it) (h3 : a ≠ e) :
    Turn P w K (.Tuple elts kk tpos) (IteT K a) [e, it] e (fun i h => (∃ old, IsEnum h e it ((i : Nat) : Int) old) ∧ h.IsTupleIter it a i) where
  mem := by simp
  obj := fun i h st b hb => by
    obtain ⟨⟨old, he⟩, ⟨o, ho, hc, hd⟩⟩ := st
    have e' : b = e ∨ b = it := by simpa using hb
    rcases e' with z | z
    · rw [z]; exact ⟨_, he, fun v q => nomatch q⟩
    · rw [z]; exact ⟨o, ho, fun v q => by rw [hd] at q; cases q⟩
  keep := fun i h h' st k => let ⟨⟨old, he⟩, hi⟩ := st; ⟨⟨old, k e (by simp) _ he⟩, hi.at fun o q => k it (by simp) o q⟩
  item := by
    intro X hP hw hK hc i pins s σ H E I hf st hg
    subst hP hw hK
    obtain ⟨⟨old, he⟩, hit⟩ := st
    obtain ⟨xs, x, hq, hx⟩ := hg
    obtain ⟨its, rv, p, hz⟩ := I.tuple hq
    obtain ⟨u, hu, ru⟩ := rv.get hx
    have hel : e < s.heap.objs.size := Heap.lt_size he
    have hil : it < s.heap.objs.size := by obtain ⟨_, q, _⟩ := hit; exact Heap.lt_size q
    have W := WalksT.enumFrom (prog := X.prog) (w := X.w) (A := X.A) (it := it) 0 (Draws.tuple (A := X.A.in1) (I.ok.hd hc) it a h2 its.toArray) e h1 (by simp [h1, Ne.symm h3]) (by simp)
    have hi : i < its.toArray.size := by
      have := (List.getElem?_eq_some_iff.mp hu).1
      simpa using this
    refine W.item i s _ _ hi ⟨⟨old, by simpa using he⟩, hit, show s.heap.IsTuple a its.toArray from p⟩ fun T vals h' tk hv hT hTup hM hk => ?_
    obtain ⟨t, x', hx', ev⟩ := hv
    have ex : x' = u := by
      have e1 : its.toArray[i]? = some u := by simpa using hu
      rw [e1] at hx'
      exact (Option.some.inj hx').symm
    subst ex
    refine ⟨_, rfl, W.go elts kk tpos i T { s with heap := h', toks := tk } _ _ hM fun h'' st'' hk2 => ?_⟩
    have hTw := W.apart _ _ _ hM
    have hT2 : h''.IsTuple T vals := by
      obtain ⟨o, e1, e2⟩ := hTup
      exact ⟨o, hk2 T o hTw e1, e2⟩
    have new : ObjOk X.prog X.w (upd H T (.tup [.int (i : Nat), x])) h'' T (.tup [.int (i : Nat), x]) := by
      refine ⟨by show 2 ≤ sizeLine; decide, [.int (0 + (i : Int)) t, x'], .cons ⟨t, by rw [Int.zero_add]⟩ (.cons ru .nil), ?_⟩
      have z : IsTup h'' T vals := hT2
      rw [ev] at z
      exact z
    have I1 : Inv X pins σ (upd H T (.tup [.int (i : Nat), x])) { s with heap := h'', toks := tk } :=
      I.turnedNew (ch := [e, it]) (fun b ob hb q => hk2 b ob hb (hk b ob hb q)) hf hT new
    obtain ⟨⟨old2, he2⟩, hit2, _⟩ := st''
    refine ⟨.ref T, _, I1, rfl, ⟨T, x, rfl, I.hok.fresh hT, rfl, fun ys hy => by rw [I.tuple_inj hy hq]; exact hx⟩, ⟨⟨old2, by simpa using he2⟩, hit2⟩, fun b hb => ?_⟩
    have hb' : b < s.heap.objs.size := by
      have e' : b = e ∨ b = it := by simpa using hb
      rcases e' with z | z
      · rw [z]; exact hel
      · rw [z]; exact hil
    rw [upd_ne (Nat.ne_of_lt (Nat.lt_of_lt_of_le hb' hT))]
    exact (hf b hb).1
  done := by
    intro X hP hw hK hc i pins s σ H E I hf st hg
    subst hP hw hK
    obtain ⟨⟨old, he⟩, hit⟩ := st
    obtain ⟨xs, hq, hx⟩ := hg
    obtain ⟨its, rv, p, hz⟩ := I.tuple hq
    have W := WalksT.enumFrom (prog := X.prog) (w := X.w) (A := X.A) (it := it) 0 (Draws.tuple (A := X.A.in1) (I.ok.hd hc) it a h2 its.toArray) e h1 (by simp [h1, Ne.symm h3]) (by simp)
    have hn : its.toArray.size = i := by
      rw [← hx, rv.length]
      simp
    refine W.done s _ _ ?_ fun h' tk hk => ⟨rfl, I.turnedL (ch := [e, it]) (t' := tk) hk hf⟩
    rw [hn]
    exact ⟨⟨old, by simpa using he⟩, hit, show s.heap.IsTuple a its.toArray from p⟩
  self := fun A i s Q E st h => let ⟨⟨_, he⟩, _⟩ := st; wpAny_pyIter_enum he h
def iEnumT (K : PySem.W.Frag) (ta : TA) : TI := fun σ H R => ta σ H fun vs H1 => ∃ a xs, vs = [.ref a] ∧ SqT K H1 a xs ∧ R (IteT K a) H1
theorem pi_enumT {X : Cx} {e : Expr} {ta : TA} {p pos tpos : Pos} {elts : List Expr} {kk : Nat} (hm : X.mg "enumerate" = none) (ha : PA X [e] ta) (hg : Gl X "enumerate" := by rfl) (hs : starEach [e] X.env = [(false, eval e X.env)] := by rfl) :
    PI X (.Tuple elts kk tpos) (.Call (.Name "enumerate" p) [e] [] pos) (iEnumT X.K ta) := by
  refine ⟨fun pins s σ H R I h => ?_⟩
  refine Call_ (ld_blt I hg hm boot_enumerate (PyProof.Rows.callWith_type1 (thn (ha.run pos pins s σ H _ I h) fun us s1 ⟨vs, H1, I1, r1, q1⟩ => ?_) hs rfl))
  obtain ⟨a, xs, ex, hq, q⟩ := q1
  subst ex
  cases r1 with
  | cons r rr =>
    cases rr
    cases r
    obtain ⟨its, rv, p', hz⟩ := I1.tuple hq
    have hal : a < s1.heap.objs.size := p'.lt
    refine call_enum_tup (items := its.toArray) (show s1.heap.IsTuple a its.toArray from p') fun h' he hit hk => wpAny_pyIter_enum he ?_
    have I2 : Inv X pins σ H1 { s1 with heap := h' } := I1.kept (t' := s1.toks) hk
    refine ⟨s1.heap.objs.size + 1, [s1.heap.objs.size + 1, s1.heap.objs.size], _, _, H1, rfl, I2, turn_enumT a (s1.heap.objs.size + 1) s1.heap.objs.size (Nat.succ_ne_self _) (Nat.ne_of_lt hal) (Nat.ne_of_lt (Nat.lt_succ_of_lt hal)), ⟨⟨.none, he⟩, hit⟩, fun b hb => ?_, q⟩
    have e' : b = s1.heap.objs.size + 1 ∨ b = s1.heap.objs.size := by simpa using hb
    have hle : s1.heap.objs.size ≤ b := by
      rcases e' with z | z
      · rw [z]; exact Nat.le_add_right _ _
      · rw [z]; exact Nat.le_refl _
    exact I1.fpOk hle (I1.hok.fresh hle)
theorem for_enumT {K : PySem.W.Frag} {a : Addr} {xs : List V} {g : TG} {tb : TS} {D : Ends} {σ : L2.St} {H : Hp} (Pv : Nat → L2.St → Hp → Prop) (h0 : Pv 0 σ H) (hl : ∀ i σ H, i ≤ xs.length → Pv i σ H → SqT K H a xs)
    (hs : ∀ i x σ H T, xs[i]? = some x → Pv i σ H → H T = none → g (.ref T) σ (upd H T (.tup [.int (i : Nat), x])) fun σ2 H2 => tb { D with nx := Pv (i + 1), ct := Pv (i + 1), bk := D.nx } σ2 H2) (hd : ∀ σ H, Pv xs.length σ H → D.nx σ H) :
    ∃ W : Nat → Nat → L2.St → Hp → Prop, (∃ m, W 0 m σ H) ∧ ∀ i m σ H, W i m σ H →
      ((IteT K a).stop i H ∧ D.nx σ H) ∨ ((IteT K a).go i H ∧ ∃ N : L2.St → Hp → Prop, (∀ σ' H', N σ' H' → ∃ m', m' < m ∧ W (i + 1) m' σ' H') ∧ ∀ x H', (IteT K a).yld i H x H' → g x σ H' fun σ2 H2 => tb { D with nx := N, ct := N, bk := D.nx } σ2 H2) := by
  refine ⟨fun i m σ H => m = xs.length - i ∧ i ≤ xs.length ∧ Pv i σ H, ⟨xs.length, by simp, Nat.zero_le _, h0⟩, ?_⟩
  rintro i m σ H ⟨rfl, hi, p⟩
  have q := hl i σ H hi p
  by_cases hlt : i < xs.length
  · refine .inr ⟨⟨xs, xs[i], q, by simp [hlt]⟩, Pv (i + 1), fun σ' H' p' => ⟨xs.length - (i + 1), by omega, rfl, hlt, p'⟩, fun v H' y => ?_⟩
    obtain ⟨T, x, ev, hT, eH, y⟩ := y
    subst ev eH
    exact hs i x σ H T (y xs q) p hT
  · have e : i = xs.length := by omega
    subst e
    exact .inl ⟨⟨xs, q, rfl⟩, hd σ H p⟩
theorem lc_enumT {K : PySem.W.Frag} {a : Addr} {xs : List V} {g : TG} {tt : TT} {te : TE} {vs : List Nat} {σ : L2.St} {H1 : Hp} {D : Addr} {Qd : Hp → Prop} (Pv : Nat → Hp → Prop) (h0 : Pv 0 (upd H1 D (.lst []))) (hl : ∀ i H, i ≤ xs.length → Pv i H → SqT K H a xs)
    (hs : ∀ i x H T, xs[i]? = some x → Pv i H → H T = none → g (.ref T) (wipe σ vs) (upd H T (.tup [.int (i : Nat), x])) fun σ2 H2 => wipe σ2 vs = wipe σ vs ∧ tt σ2 H2 fun b H3 =>
      if b = true then te σ2 H3 fun y H4 => ∃ acc, H4 D = some (.lst acc) ∧ acc.length < sizeLine ∧ Pv (i + 1) (upd H4 D (.lst (acc ++ [y]))) else Pv (i + 1) H3) (hd : ∀ H, Pv xs.length H → Qd H) :
    ∃ W : Nat → Nat → Hp → Prop, (∃ m, W 0 m (upd H1 D (.lst []))) ∧ ∀ i m H, W i m H →
      ((IteT K a).stop i H ∧ Qd H) ∨ ((IteT K a).go i H ∧ ∃ Nx : Hp → Prop, (∀ H', Nx H' → ∃ m', m' < m ∧ W (i + 1) m' H') ∧ ∀ x H', (IteT K a).yld i H x H' → g x (wipe σ vs) H' fun σ2 H2 => wipe σ2 vs = wipe σ vs ∧ tt σ2 H2 fun b H3 =>
        if b = true then te σ2 H3 fun y H4 => ∃ acc, H4 D = some (.lst acc) ∧ acc.length < sizeLine ∧ Nx (upd H4 D (.lst (acc ++ [y]))) else Nx H3) := by
  refine ⟨fun i m H => m = xs.length - i ∧ i ≤ xs.length ∧ Pv i H, ⟨xs.length, by simp, Nat.zero_le _, h0⟩, ?_⟩
  rintro i m H ⟨rfl, hi, p⟩
  have q := hl i H hi p
  by_cases hlt : i < xs.length
  · refine .inr ⟨⟨xs, xs[i], q, by simp [hlt]⟩, Pv (i + 1), fun H' p' => ⟨xs.length - (i + 1), by omega, rfl, hlt, p'⟩, fun v H' y => ?_⟩
    obtain ⟨T, x, ev, hT, eH, y⟩ := y
    subst ev eH
    exact hs i x H T (y xs q) p hT
  · have e : i = xs.length := by omega
    subst e
    exact .inl ⟨⟨xs, q, rfl⟩, hd H p⟩
end Kr

set_option Elab.async false
set_option linter.all false
set_option maxRecDepth 100000
set_option maxHeartbeats 2000000
/-! Part D: == and != with an empty list, tuple, dict; list.index and list.count of bools; tuple of a list; a display with **. -/
namespace Kr
open PySem PySem.Spec PyProof.Rows L2 PySem.SeqAt
section
variable {X : Cx}
theorem emp_iff {xs : List V} {its : List Value} (r : Vals xs its) : its.toArray.size = 0 ↔ xs = [] := by
  rw [List.size_toArray, ← r.length]
  exact List.length_eq_zero_iff
/-- x == [] -/
def rEq0L (K : PySem.W.Frag) (g : Bool → Bool) : R2 := fun x y H Q => ∃ a b xs, x = .ref a ∧ y = .ref b ∧ SqL K H a xs ∧ SqL K H b [] ∧ Q (.bl (g xs.isEmpty)) H
theorem op_eq0L (hu : X.A.units < cLine) : OpR X (compareOp .Eq) (rEq0L X.K id) := by
  intro pins s σ H x y v u Q I rx ry h
  obtain ⟨a, b, xs, rfl, rfl, ha, hb, q⟩ := h
  cases rx
  cases ry
  obtain ⟨its, r1, p1, _⟩ := I.list ha
  obtain ⟨its2, r2, p2, _⟩ := I.list hb
  cases r2
  cases xs with
  | nil =>
    cases r1
    exact eq_listAt (e := fun _ => true) p1.isList p2.isList rfl hu (fun j h1 _ => absurd h1 (by simp)) ⟨.bl true, H, I, rfl, q⟩
  | cons x xs =>
    cases r1 with
    | cons _ _ => exact eq_list_lengthsAt p1.isList p2.isList (by simp) hu ⟨.bl false, H, I, rfl, q⟩
theorem op_ne0L (hu : X.A.units < cLine) : OpR X (compareOp .NotEq) (rEq0L X.K not) := by
  intro pins s σ H x y v u Q I rx ry h
  obtain ⟨a, b, xs, rfl, rfl, ha, hb, q⟩ := h
  cases rx
  cases ry
  obtain ⟨its, r1, p1, _⟩ := I.list ha
  obtain ⟨its2, r2, p2, _⟩ := I.list hb
  cases r2
  cases xs with
  | nil =>
    cases r1
    exact RcNeAt.lists (e := fun _ => true) p1.isList p2.isList rfl hu (fun j h1 _ => absurd h1 (by simp)) X.prog X.w X.xe _ ⟨.bl false, H, I, rfl, q⟩
  | cons x xs =>
    cases r1 with
    | cons _ _ => exact RcNeAt.lists_lengths p1.isList p2.isList (by simp) hu X.prog X.w X.xe _ ⟨.bl true, H, I, rfl, q⟩
/-- x == () -/
def rEq0T (K : PySem.W.Frag) : R2 := fun x y H Q => ∃ a b xs, x = .ref a ∧ y = .ref b ∧ SqT K H a xs ∧ SqT K H b [] ∧ Q (.bl xs.isEmpty) H
theorem op_eq0T (hu : X.A.units < cLine) : OpR X (compareOp .Eq) (rEq0T X.K) := by
  intro pins s σ H x y v u Q I rx ry h
  obtain ⟨a, b, xs, rfl, rfl, ha, hb, q⟩ := h
  cases rx
  cases ry
  obtain ⟨its, r1, p1, _⟩ := I.tuple ha
  obtain ⟨its2, r2, p2, _⟩ := I.tuple hb
  cases r2
  refine eq_tupleAt (e := fun _ => true) (show s.heap.IsTuple a its.toArray from p1) (show s.heap.IsTuple b [].toArray from p2) hu (fun j _ h2 => absurd h2 (by simp)) ?_
  refine fin_bl I q ?_
  cases xs with
  | nil => cases r1; rfl
  | cons x xs => cases r1 with
    | cons _ _ => simp
/-- x == {} -/
def rEq0D (g : Bool → Bool) : R2 := fun x y H Q => ∃ a b ks, x = .ref a ∧ y = .ref b ∧ H a = some (.dK ks) ∧ H b = some (.dK []) ∧ Q (.bl (g ks.isEmpty)) H
theorem op_eq0D (hu : X.A.units < cLine) : OpR X (compareOp .Eq) (rEq0D id) := by
  intro pins s σ H x y v u Q I rx ry h
  obtain ⟨a, b, ks, rfl, rfl, ea, eb, q⟩ := h
  cases rx
  cases ry
  obtain ⟨_, ya, va, ra, da⟩ := (show ObjOk X.prog X.w H s.heap a (.dK ks) from I.hok a _ ea)
  obtain ⟨_, yb, vb, rb, db⟩ := (show ObjOk X.prog X.w H s.heap b (.dK []) from I.hok b _ eb)
  cases rb
  have e : (va.length == ([] : List (Key × Value)).length && true) = ks.isEmpty := by
    have hl := ra.length
    cases ks with
    | nil => cases ra; rfl
    | cons k ks => cases ra with
      | cons _ _ => rfl
  refine PySem.W.keq_eq (knd := mixKind X.prog X.w) (r := true) ya yb da db hu (fun hl => ?_) (fin_bl I q e.symm)
  cases ks with
  | nil =>
    cases ra
    exact hits_all .nil .nil (fun p hp => absurd hp (by simp))
  | cons k ks => cases ra with
    | cons _ _ => exact absurd hl (by simp)
theorem op_ne0D (hu : X.A.units < cLine) : OpR X (compareOp .NotEq) (rEq0D not) := by
  intro pins s σ H x y v u Q I rx ry h
  obtain ⟨a, b, ks, rfl, rfl, ea, eb, q⟩ := h
  cases rx
  cases ry
  obtain ⟨_, ya, va, ra, da⟩ := (show ObjOk X.prog X.w H s.heap a (.dK ks) from I.hok a _ ea)
  obtain ⟨_, yb, vb, rb, db⟩ := (show ObjOk X.prog X.w H s.heap b (.dK []) from I.hok b _ eb)
  cases rb
  have e : (!(va.length == ([] : List (Key × Value)).length && true)) = (!ks.isEmpty) := by
    cases ks with
    | nil => cases ra; rfl
    | cons k ks => cases ra with
      | cons _ _ => rfl
  refine PySem.W.keq_ne (knd := mixKind X.prog X.w) (r := true) ya yb da db hu (fun hl => ?_) (fin_bl I q e.symm)
  cases ks with
  | nil =>
    cases ra
    exact hits_all .nil .nil (fun p hp => absurd hp (by simp))
  | cons k ks => cases ra with
    | cons _ _ => exact absurd hl (by simp)
end
end Kr

set_option Elab.async false
set_option linter.all false
set_option maxRecDepth 100000
set_option maxHeartbeats 2000000
/-! Part E: {**d, k: v}. -/
namespace Kr
open PySem PySem.Spec PyProof.Rows L2
section
variable {prog : Program} {w : World} {K : Type} [DecidableEq K] {knd : KeyKind prog w K} {A : Around} {E : Value → Shared → Prop} {s : Shared}
theorem dictPut_pairs {d : Addr} {kvs : List (K × Value)} {k : K} {key v : Value} {Q : Unit → Shared → Prop} (hkey : knd.is k key = true) (hm : s.heap.DictOf knd d kvs)
    (hQ : ∀ h', h'.DictOf knd d (stored kvs k v) → Heap.SameBut d s.heap h' → Q () { s with heap := h' }) (hsz : kvs.length ≤ sizeLine) :
    wpAny (model prog w) A (dictPut d (knd.hash k) key v) Q E s := by
  obtain ⟨o, es, ep, ho, hc, hd, hk, hp, hn⟩ := hm
  have hes : es.size ≤ sizeLine := by
    have e1 := hp.length
    have e2 : es.toList.length = es.size := by simp
    omega
  have hidx : (es.findIdx? fun e => knd.is k e.key) = kvs.findIdx? fun kv => decide (kv.1 = k) := by
    rw [← hp.findIdx k]
    obtain ⟨l⟩ := es
    simp
  unfold dictPut
  refine wpAny_bind (wpAny_dictFind_of hkey ho hd hk ?_)
  cases hi : es.findIdx? fun e => knd.is k e.key with
  | some i =>
    have hany := any_of_findIdx_some (hidx ▸ hi)
    refine wpAny_updateDict ho hd (hQ _ ⟨_, _, ep, Heap.get?_update_self _ ho (Obj.isFreed_of_dict (Obj.data_mapDict hd _)), hc.mapDict _, Obj.data_mapDict hd _, hk.modify _ _, ?_, ?_⟩ (Heap.SameBut.update ..))
    · have hl : (es.toList.findIdx? fun e => knd.is k e.key) = some i := by
        rw [← hi]
        obtain ⟨l⟩ := es
        simp
      have := hp.modify hn hl v
      rw [stored, if_pos hany]
      obtain ⟨l⟩ := es
      simpa using this
    · rw [stored, if_pos hany, keys_map_store]
      exact hn
  | none =>
    have hnot : k ∉ kvs.map (·.1) := not_mem_of_findIdx_none (hidx ▸ hi)
    have hany : ¬ (kvs.any fun kv => decide (kv.1 = k)) = true := fun h => by
      obtain ⟨kv, hkv, he⟩ := List.any_eq_true.mp h
      exact hnot (List.mem_map.mpr ⟨kv, hkv, of_decide_eq_true he⟩)
    refine wpAny_updateDictKeys (hz := hes) ho hd (hQ _ ⟨_, _, ep + 1, Heap.get?_update_self _ ho (Obj.isFreed_of_dict (Obj.data_mapDictKeys hd _)), hc.mapDictKeys _, Obj.data_mapDictKeys hd _, hk.push hkey _, ?_, ?_⟩ (Heap.SameBut.update ..))
    · have := hp.append hkey (knd.hash k) v
      rw [stored, if_neg hany]
      obtain ⟨l⟩ := es
      simpa using this
    · rw [stored, if_neg hany, List.map_append, List.nodup_append]
      refine ⟨hn, by simp, fun a ha b hb => ?_⟩
      simp only [List.map_cons, List.map_nil, List.mem_singleton] at hb
      subst hb
      exact fun e => hnot (e ▸ ha)
/-- a plain dict is merged into another one -/
theorem merge_plain {d o : Addr} {kvs more : List (K × Value)} {Q : Unit → Shared → Prop} (hdo : d ≠ o) (hoS : (o == sysModules) = false)
    (hd : s.heap.DictOf knd d kvs) (ho : s.heap.DictOf knd o more) (hsz : kvs.length + more.length ≤ sizeLine)
    (hQ : ∀ h', h'.DictOf knd d (merged kvs more) → h'.DictOf knd o more → Heap.SameBut d s.heap h' → Q () { s with heap := h' }) :
    wpAny (model prog w) A (mergeMapping d (.ref o) false) Q E s := by
  obtain ⟨od, esd, epd, hod, hcd, hdd, hkd, hpd, hnd⟩ := id hd
  obtain ⟨oo, eso, epo, hoo, hco, hdo', hko, hpo, hno⟩ := id ho
  have hlen : more.length = eso.size := by rw [← hpo.length]; simp
  unfold mergeMapping
  refine wpAny_bind (m := isInstance (.ref o) (.type "dict")) (wpAny_isInstance ho.typeIs isSubtype_dict_dict ?_)
  dsimp only
  rw [if_pos rfl]
  refine wpAny_bind (m := specialOf (.ref o) (Str.ofString "__iter__")) (wpAny_specialOf ho.typeIs F.slot_dict_iter.lookup ?_)
  refine wpAny_bind (wpAny_pure ?_)
  rw [show (some (Value.builtin "dict.__iter__") == some (Value.builtin "dict.__iter__")) = true from by decide +kernel]
  dsimp only
  rw [if_neg (show ¬ ((o == sysModules) = true) by rw [hoS]; exact Bool.false_ne_true)]
  refine wpAny_bind (wpAny_dictEntries hod hdd ?_)
  have loop : wpAny (model prog w) A (do
      let __do_lift ← dictEntries o
      let epoch ← dictEpoch o
      forIn (List.range __do_lift.size) PUnit.unit fun i (_ : PUnit) => (do
          let __do_lift ← dictEntries o
          match __do_lift[i]? with
            | some e => do
              holding [e.key, e.val] (dictPut d e.hash e.key e.val)
              let __do_lift ← dictEpoch o
              if (__do_lift != epoch) = true then do
                  (unsupported "dict.changed-during-merge" : Sem PUnit)
                  pure (ForInStep.yield PUnit.unit)
                else pure (ForInStep.yield PUnit.unit)
            | _ => do
              (unsupported "dict.changed-during-merge" : Sem PUnit)
              pure (ForInStep.yield PUnit.unit) : Sem (ForInStep PUnit))
      pure ()) Q E s := by
    refine wpAny_bind (wpAny_dictEntries hoo hdo' ?_)
    refine wpAny_bind (wpAny_dictEpoch hoo hdo' ?_)
    refine wpAny_bind ?_
    refine wpAny_forIn_list _
      (fun rest _ s' => ∃ h' i, s' = { s with heap := h' } ∧ rest = (List.range eso.size).drop i ∧ i ≤ eso.size ∧ h'.DictOf knd d (merged kvs (more.take i)) ∧ h'.get? o = some oo ∧ Heap.SameBut d s.heap h')
      _ ?_ ?_ _ _ ⟨s.heap, 0, rfl, by simp, Nat.zero_le _, by simpa [merged] using hd, hoo, Heap.SameBut.refl _ _⟩
    · rintro x rest b s' ⟨h', i, rfl, hr, hi, hd', hoo', hs'⟩
      have hlt : i < eso.size := by
        rcases Nat.lt_or_ge i eso.size with h | h
        · exact h
        · rw [List.drop_of_length_le (by simpa using h)] at hr
          cases hr
      rw [List.drop_eq_getElem_cons (by simpa using hlt)] at hr
      injection hr with hx hrest
      have hxi : x = i := by simpa using hx
      subst hxi
      refine wpAny_bind (wpAny_dictEntries hoo' hdo' ?_)
      rw [Array.getElem?_eq_getElem hlt]
      obtain ⟨⟨k, v⟩, hkv⟩ : ∃ kv, more[x]? = some kv := ⟨more[x]'(by rw [hlen]; exact hlt), List.getElem?_eq_getElem _⟩
      obtain ⟨hkey, hval⟩ := hpo.get? (e := eso[x]) (by simp [hlt]) hkv
      obtain ⟨k', hkey', hhash⟩ := hko eso[x] (Array.getElem_mem hlt)
      obtain rfl : k' = k := knd.inj _ _ _ hkey' hkey
      show wpAny _ _ (holding [eso[x].key, eso[x].val] (dictPut d eso[x].hash eso[x].key eso[x].val) >>= _) _ _ _
      rw [hhash, hval]
      have hmx : (merged kvs (more.take x)).length ≤ sizeLine := by
        have e1 := merged_length_le kvs (more.take x)
        have e2 : (more.take x).length ≤ more.length := by rw [List.length_take]; omega
        omega
      refine wpAny_bind (wpAny_holding (dictPut_pairs hkey hd' (fun h'' hd'' hs'' => ?_) hmx))
      have hoo'' : h''.get? o = some oo := (hs''.2 o (Ne.symm hdo)).trans hoo'
      refine wpAny_bind (wpAny_dictEpoch hoo'' hdo' ?_)
      rw [if_neg (by simp)]
      exact wpAny_pure ⟨h'', x + 1, rfl, hrest, hlt, by rw [merged_take_succ kvs more x (k', v) hkv]; exact hd'', hoo'', hs'.trans hs''⟩
    · rintro b s' ⟨h', i, rfl, hr, hi, hd', hoo', hs'⟩
      have hin : i = eso.size := by
        rcases Nat.lt_or_ge i eso.size with h | h
        · rw [List.drop_eq_getElem_cons (by simpa using h)] at hr
          cases hr
        · exact Nat.le_antisymm hi h
      refine wpAny_pure (hQ h' ?_ ⟨oo, eso, epo, hoo', hco, hdo', hko, hpo, hno⟩ hs')
      rw [hin, ← hlen, List.take_length] at hd'
      exact hd'
  split
  · refine wpAny_bind (wpAny_dictEntries hoo hdo' ?_)
    have hloop : (forIn eso PUnit.unit fun e (_ : PUnit) => (match e.key with
        | Value.ref a => do
          let __do_lift ← specialOf e.key (Str.ofString "__eq__")
          if (__do_lift != some (Value.builtin "object.__eq__")) = true then
              if (Array.filter (fun x => x.hash == e.hash) eso).size > 1 then do
                (unsupported "dict.merge-into-an-empty-dict:keys-of-equal-hash" : Sem PUnit)
                pure (ForInStep.yield PUnit.unit)
              else pure (ForInStep.yield PUnit.unit)
            else pure (ForInStep.yield PUnit.unit)
        | x => pure (ForInStep.yield PUnit.unit) : Sem (ForInStep PUnit))) = pure PUnit.unit := by
      rw [← Array.forIn_toList]
      refine forIn_yield_id _ fun e he c => ?_
      obtain ⟨k, hkey, _⟩ := hko e (Array.mem_toList_iff.mp he)
      have hb := knd.byValue k _ hkey
      cases hk : e.key with
      | ref a =>
        rw [hk] at hb
        cases hb
      | _ => rfl
    exact wpAny_bind (wpAny_of_eq hloop loop)
  · exact loop
end
section
variable {X : Cx}
/-- {**d, k: v} -/
def tDictPut (td tk tv : TE) : TE := fun σ H Q => ∀ p, H p = none → td σ (upd H p (.dK [])) fun x H1 => ∃ a kvs, x = .ref a ∧ H1 a = some (.dK kvs) ∧ a ≠ p ∧ H1 p = some (.dK []) ∧
  ∀ q, upd H1 p (.dK kvs) q = none → tk σ (upd (upd H1 p (.dK kvs)) q (.dK [])) fun y H2 => tv σ H2 fun z H3 => ∃ k, y = kV k ∧ H3 p = some (.dK kvs) ∧ H3 q = some (.dK []) ∧ kvs.length < 1000 ∧
    Q (.ref p) (upd (upd H3 q (.dK [(k, z)])) p (.dK (putK kvs k z)))
theorem pe_dictPut {d k v : Expr} {td tk tv : TE} {pos : Pos} (hd : PE X d td) (hk : PE X k tk) (hv : PE X v tv) : PE X (.Dict [none, some k] [d, v] pos) (tDictPut td tk tv) := by
  refine ⟨fun pins s σ H Q I h => ?_⟩
  rw [arm_eval_Dict]
  refine wpAny_bind (wpAny_standAt ?_)
  unfold dictDisplay
  dsimp only
  have e1 : (evalEachOpt [none, some k] X.env).zip (List.map (fun v => (do let x ← v; standAt pos; pure x : Sem Value)) (evalEach [d, v] X.env)) =
      [(none, (do let x ← eval d X.env; standAt pos; pure x : Sem Value)), (some (eval k X.env), (do let x ← eval v X.env; standAt pos; pure x : Sem Value))] := rfl
  rw [e1, List.forIn_cons]
  refine wpAny_bind (wpAny_bind ?_)
  dsimp only
  rw [if_pos (show ([] : List (Sem Value × Sem Value)).isEmpty = true from rfl)]
  refine wpAny_bind (wpAny_pure ?_)
  dsimp only
  refine wpAny_bind (wpAny_alloc ?_)
  have hp : H s.heap.objs.size = none := I.hok.fresh (Nat.le_refl _)
  have I1 := I.laid (a := s.heap.objs.size) (o := .dK []) (h' := s.heap.push { cls := .type "dict", data := .dict #[] }) (t' := s.toks) (fun _ _ q => Heap.get?_push_of_some _ q) (Nat.le_refl _) (dk_empty s.heap I.big)
  refine wpAny_bind (wpAny_holding (wpAny_bind (thn (hd.run pins _ σ _ _ I1 (h _ hp)) fun u s1 ⟨x, H1, I2, r1, a, kvs, ex, ea, nap, ep, q⟩ => wpAny_bind (wpAny_standAt (wpAny_pure ?_)))))
  subst ex
  cases r1
  obtain ⟨zp, mp, vp, rp, dp⟩ := dk_of I2.hok ep
  cases rp
  obtain ⟨za, ma, va, ra, da⟩ := dk_of I2.hok ea
  have hla := ra.length
  have hno : (va.map (·.1)).Nodup := by
    obtain ⟨o, es, ep, ho, hc, hdat, hk, hp, hn⟩ := da
    exact hn
  refine wpAny_bind (wpAny_onRaise (wpAny_tryCatch (wpAny_onRaise (wpAny_holding (merge_plain (knd := mixKind X.prog X.w) (Ne.symm nap) ma dp da (by rw [List.length_nil, Nat.zero_add, ← hla]; exact za) fun h' d1 _ hs => ?_)))))
  rw [merged_nil_of_nodup _ hno] at d1
  have he1 : ∃ q, h'.get? s.heap.objs.size = some q := let ⟨q, _, _, hq, _⟩ := d1; ⟨q, hq⟩
  have I3 := d_write (t' := s1.toks) I2 (by rw [ep]; exact True.intro) hs he1 (dk_new za mp ra d1)
  refine wpAny_pure ?_
  dsimp only
  rw [List.forIn_cons]
  refine wpAny_bind (wpAny_of_eq (a := ForInStep.yield (some s.heap.objs.size, [(eval k X.env, (do let x ← eval v X.env; standAt pos; pure x : Sem Value))])) (by rfl) ?_)
  dsimp only
  rw [List.forIn_nil]
  refine wpAny_pure ?_
  dsimp only
  rw [if_neg (show ¬ ([(eval k X.env, (do let x ← eval v X.env; standAt pos; pure x : Sem Value))].isEmpty = true) from Bool.false_ne_true)]
  have hq : (upd H1 s.heap.objs.size (.dK kvs)) h'.objs.size = none := I3.hok.fresh (Nat.le_refl _)
  have I4 := I3.laid (a := h'.objs.size) (o := .dK []) (h' := h'.push { cls := .type "dict", data := .dict #[] }) (t' := s1.toks) (fun _ _ q => Heap.get?_push_of_some _ q) (Nat.le_refl _) (dk_empty h' I3.big)
  refine wpAny_bind (wpAny_bind (wpAny_holding (wpAny_subDict (knd := mixKind X.prog X.w) (by simp) (evalPairs_cons (thn (hk.run pins _ σ _ _ I4 (q _ hq)) fun uk s2 ⟨y, H2, I5, r2, q2⟩ => wpAny_bind (thn (hv.run pins s2 σ H2 _ I5 q2) fun uv s3 ⟨z, H3, I6, r3, kk, ey, e1, e2, hz, q3⟩ => wpAny_bind (wpAny_standAt (wpAny_pure (evalPairs_nil ?_)))))))))
  subst ey
  obtain ⟨rs, ca, rel⟩ := carries_of (P := X.prog) (w := X.w) (kvs := [(kk, z)]) (ws := [(uk, uv)]) (.cons ⟨r2, r3⟩ .nil)
  obtain ⟨zq, mq, vq, rq, dq⟩ := dk_of I6.hok e2
  cases rq
  obtain ⟨zs, ms, vs, rs', ds⟩ := dk_of I6.hok e1
  refine ⟨rs, ca, dq, fun h6 d6 hs6 => ?_⟩
  have he6 : ∃ q, h6.get? h'.objs.size = some q := let ⟨q, _, _, hq, _⟩ := d6; ⟨q, hq⟩
  have relq : KV [(kk, z)] (merged [] rs) := KV.merge rel .nil
  have I7 := d_write (t' := s3.toks + [(uk, uv)].length) I6 (by rw [e2]; exact True.intro) hs6 he6 (dk_new (P := X.prog) (w := X.w) (by show 1 ≤ sizeLine; decide) mq relq d6)
  have npq : s.heap.objs.size ≠ h'.objs.size := fun e => by
    rw [← e] at e2
    rw [e1] at e2
    cases hz0 : kvs with
    | nil =>
      rw [← e] at hq
      have : upd H1 s.heap.objs.size (.dK kvs) s.heap.objs.size = some (.dK kvs) := upd_same
      rw [this] at hq
      cases hq
    | cons _ _ =>
      rw [hz0] at e2
      cases e2
  have e1' : upd H3 h'.objs.size (.dK [(kk, z)]) s.heap.objs.size = some (.dK kvs) := by rw [upd_ne npq]; exact e1
  have e2' : upd H3 h'.objs.size (.dK [(kk, z)]) h'.objs.size = some (.dK [(kk, z)]) := upd_same
  obtain ⟨zp7, mp7, vp7, rp7, dp7⟩ := dk_of I7.hok e1'
  obtain ⟨zq7, mq7, vq7, rq7, dq7⟩ := dk_of I7.hok e2'
  have l7 := rp7.length
  have l8 := rq7.length
  have big : 1001 ≤ sizeLine := by decide
  have hsum : vp7.length + vq7.length ≤ sizeLine := by
    rw [← l7, ← l8]
    show kvs.length + 1 ≤ sizeLine
    omega
  have hput : (putK kvs kk z).length ≤ sizeLine := by
    have := length_putK kvs kk z
    omega
  refine wpAny_bind (wpAny_onRaise (wpAny_holding (merge_plain (knd := mixKind X.prog X.w) npq mq7 dp7 dq7 hsum fun h8 d8 _ hs8 => ?_)))
  have he8 : ∃ q, h8.get? s.heap.objs.size = some q := let ⟨q, _, _, hq, _⟩ := d8; ⟨q, hq⟩
  have rel8 : KV (putK kvs kk z) (merged vp7 vq7) := by
    have := KV.merge rq7 rp7
    exact this
  have I8 := d_write (t' := s3.toks + [(uk, uv)].length) I7 (by rw [e1']; exact True.intro) hs8 he8 (dk_new (P := X.prog) (w := X.w) hput mp7 rel8 d8)
  refine wpAny_pure (wpAny_pure ?_)
  exact ⟨.ref s.heap.objs.size, _, I8, rfl, q3⟩
end
end Kr

set_option Elab.async false
set_option linter.all false
set_option maxRecDepth 100000
set_option maxHeartbeats 4000000
/-! Part F: own exception classes over ValueError, LookupError, ArithmeticError with an __init__ of their own; one without, made with no argument. -/
namespace Kr
open PySem PySem.Spec PyProof.Rows L2
open PySem.W PySem.Calls PySem.HandSPX

/-! ### the base below own classes -/
structure EB (B newId initId : String) (tl : List Value) : Prop where
  F : ExcBaseFacts B newId initId tl
  pas : ∀ self : Value, refuseLoop self "__setattr__" tl = pure ()
  ob : tl.contains (.type "object") = true
  be : tl.contains (.type "BaseException") = true
  nr : ∀ c, tl.contains (.ref c) = false
theorem eb_VE : EB "ValueError" "ValueError.__new__" "ValueError.__init__" [.type "ValueError", .type "Exception", .type "BaseException", .type "object"] :=
  ⟨F.excBase_ValueError, F.store_ValueError.passes, by decide +kernel, by decide +kernel, fun c => by rfl⟩
theorem eb_LE : EB "LookupError" "LookupError.__new__" "LookupError.__init__" [.type "LookupError", .type "Exception", .type "BaseException", .type "object"] :=
  ⟨F.excBase_LookupError, F.store_LookupError.passes, by decide +kernel, by decide +kernel, fun c => by rfl⟩
theorem eb_AE : EB "ArithmeticError" "ArithmeticError.__new__" "ArithmeticError.__init__" [.type "ArithmeticError", .type "Exception", .type "BaseException", .type "object"] :=
  ⟨F.excBase_ArithmeticError, F.store_ArithmeticError.passes, by decide +kernel, by decide +kernel, fun c => by rfl⟩
/-- what the written part says of the class -/
structure OexG (K : Frag) (C : Addr) : Prop where
  cls : ∃ (B newId initId : String) (tl : List Value), EB B newId initId tl ∧ ∃ nm q N bs bm sn sub ab col dd k0 k1 k2 k3 k5, K.lookup C = some (excClassObj nm q C N bs bm true sn sub ab col dd k0 k1 k2 k3 k5 newId) ∧ excTail tl bm = true
  sa : findIn K (.ref C) "__setattr__" = some (some (.builtin "object.__setattr__"))
  exC : subIn K (.ref C) (.type "BaseException") = some true
  tyC : typeIn K (.ref C) = some (.type "type")
  kC : keepIn K (.ref C) = true
section
open Builtin Builtin.ObjectAttr
variable {prog : Program} {w : World} {A : Around} {E : Value → Shared → Prop} {R : Result → Shared → Prop} {hp : Heap} {g : Array GenState} {d : Drawn} {t : Nat} {os : OsState}
/-- the first field of an exception that has no dict yet -/
theorem osa_newG {K : Frag} {B newId initId : String} {tl : List Value} {name : Str} {tk : Tok} {v : Value} {x C : Addr} {fv : Array Value} {cd : ClassData} (eb : EB B newId initId tl)
    (X : K.In hp) (hx : hp.get? x = some { cls := .ref C, data := .fields fv }) (hcd : clsIn K C = some cd) (hm : excTail tl cd.mro = true) (ne : cd.mro.isEmpty = false) (hh : cd.hasDict = true) (ha : findIn K (.ref C) name = some none)
    (hq : ∀ h' tk' dx, (∀ b o, b ≠ x → hp.get? b = some o → h'.get? b = some o) → hp.objs.size ≤ dx → dx ≠ x → h'.get? x = some { cls := .ref C, dict := some dx, data := .fields fv } →
      h'.Ns1 dx (fun y => if y = name then some v else none) → R (.ok (.ret .none)) ⟨h', g, d, tk', os⟩) :
    codeAny (model prog w) A (.call (.builtin "object.__setattr__") ⟨[.ref x, .str name tk, v], []⟩) R ⟨hp, g, d, t, os⟩ := by
  have I : InstAt hp x { cls := .ref C, data := .fields fv } C none := ⟨hx, rfl, rfl, trivial⟩
  have SF := F.store_object
  have hob : cd.mro.contains (.type "object") = true := (excTail_contains "object" _ hm).trans eb.ob
  have hxs : x ≠ hp.objs.size := Nat.ne_of_lt (Heap.lt_size hx)
  have sub : Looks (model prog w) hp (isInstance (.ref x) (.type "object")) true := I.type.andThen (looks_mroIn X (by unfold mroIn; rw [hcd, Option.bind_some, if_neg (by rw [ne]; decide), hob]))
  refine codeAny_call_builtin SF.slot.plain SF.entry (@check_slot (model prog w) _ _ ⟨hp, g, d, t, os⟩ "object.__setattr__" "object" "__setattr__" (.ref x) [.str name tk, v] [] _ SF.kind SF.split sub (SF.args (.ref x) (.str name tk) v) ?_)
  have hmr : Looks (model prog w) hp (mroOf (.ref C)) cd.mro := (looks_clsIn X hcd).andThen .now
  have L3 : Looks (model prog w) hp (storeTaker? none) none := .now
  have hcls : Looks (model prog w) hp (classData C) cd := looks_clsIn X hcd
  rw [osa_eq, refuse_eq]
  refine wpAny_bind (wpAny_bind (I.type.at (wpAny_bind (hmr.at ?_))))
  rw [excTail_pass _ (eb.pas _) _ hm]
  refine wpAny_pure (wpAny_bind (I.type.at (wpAny_bind ((looks_findIn X ha).at (wpAny_bind (L3.at ?_))))))
  show wpAny _ _ (storeInOwnDict (.ref x) (.ref C) (.str name tk) name v false) _ _ _
  obtain ⟨nm, bs, mro, ns, qn, hd, sn, sb, ab, col, del⟩ := cd
  dsimp only at hh
  subst hh
  unfold storeInOwnDict ownDictForStores
  repeat (first | with_reducible refine PySem.HandSPX.store_in_new ?_ ?_ | with_reducible refine wpAny_loadPart_at hx ?_ | with_reducible refine hcls.at ?_ | wp_step)
  · exact ⟨_, #[], _, (Heap.get?_update_ne _ _ _ _ hxs.symm).trans (Heap.get?_push_at rfl rfl), rfl, fun e he => absurd he (by simp), fun _ => rfl⟩
  · intro h' tk' hn' hs
    have hx₁ : (hp.push { cls := .type "dict", data := .dict #[] }).get? x = some { cls := .ref C, data := .fields fv } := Heap.get?_push_of_some _ hx
    refine hq h' tk' hp.objs.size (fun b o hb ho => ?_) (Nat.le_refl _) hxs.symm ?_ hn'
    · exact (hs.2 b (Nat.ne_of_lt (Heap.lt_size ho))).trans ((Heap.get?_update_ne _ _ _ _ hb).trans (Heap.get?_push_of_some _ ho))
    · exact (hs.2 x hxs).trans (Heap.get?_update_self _ hx₁ rfl)
/-- a further field of an exception that has its dict -/
theorem osa_oldG {K : Frag} {B newId initId : String} {tl : List Value} {name : Str} {tk : Tok} {v : Value} {x C dx : Addr} {fv : Array Value} {cd : ClassData} {m0 : Str → Option Value} {nl : List Str} (eb : EB B newId initId tl)
    (X : K.In hp) (hx : hp.get? x = some { cls := .ref C, dict := some dx, data := .fields fv }) (hns : hp.Ns1 dx m0) (hw : Within m0 nl) (hz : nl.length ≤ 1000) (hcd : clsIn K C = some cd) (hm : excTail tl cd.mro = true) (ne : cd.mro.isEmpty = false) (hh : cd.hasDict = true)
    (ha : findIn K (.ref C) name = some none)
    (hq : ∀ h' tk', (∀ b o, b ≠ dx → hp.get? b = some o → h'.get? b = some o) → h'.Ns1 dx (fun y => if y = name then some v else m0 y) → R (.ok (.ret .none)) ⟨h', g, d, tk', os⟩) :
    codeAny (model prog w) A (.call (.builtin "object.__setattr__") ⟨[.ref x, .str name tk, v], []⟩) R ⟨hp, g, d, t, os⟩ := by
  obtain ⟨oD, esD, epD, hoD, hdD, _⟩ := hns.count hw
  have I : InstAt hp x { cls := .ref C, dict := some dx, data := .fields fv } C (some oD) := ⟨hx, rfl, rfl, hoD⟩
  have SF := F.store_object
  have hob : cd.mro.contains (.type "object") = true := (excTail_contains "object" _ hm).trans eb.ob
  have sub : Looks (model prog w) hp (isInstance (.ref x) (.type "object")) true := I.type.andThen (looks_mroIn X (by unfold mroIn; rw [hcd, Option.bind_some, if_neg (by rw [ne]; decide), hob]))
  refine codeAny_call_builtin SF.slot.plain SF.entry (@check_slot (model prog w) _ _ ⟨hp, g, d, t, os⟩ "object.__setattr__" "object" "__setattr__" (.ref x) [.str name tk, v] [] _ SF.kind SF.split sub (SF.args (.ref x) (.str name tk) v) ?_)
  have hmr : Looks (model prog w) hp (mroOf (.ref C)) cd.mro := (looks_clsIn X hcd).andThen .now
  have L3 : Looks (model prog w) hp (storeTaker? none) none := .now
  have hcls : Looks (model prog w) hp (classData C) cd := looks_clsIn X hcd
  rw [osa_eq, refuse_eq]
  refine wpAny_bind (wpAny_bind (I.type.at (wpAny_bind (hmr.at ?_))))
  rw [excTail_pass _ (eb.pas _) _ hm]
  refine wpAny_pure (wpAny_bind (I.type.at (wpAny_bind ((looks_findIn X ha).at (wpAny_bind (L3.at ?_))))))
  show wpAny _ _ (storeInOwnDict (.ref x) (.ref C) (.str name tk) name v false) _ _ _
  obtain ⟨nm, bs, mro, ns, qn, hd, sn, sb, ab, col, del⟩ := cd
  dsimp only at hh
  subst hh
  unfold storeInOwnDict ownDictForStores
  repeat (first | with_reducible refine PySem.OEX.store_in_old hns hw hz ?_ | with_reducible refine wpAny_loadPart_at hx ?_ | with_reducible refine hcls.at ?_ | wp_step)
  intro h' tk' hn' hs
  exact hq h' tk' (fun b o hb ho => (hs.2 b hb).trans ho) hn'
end
section
variable {X : Cx} {pins : List (Addr × Obj)} {σ : L2.St} {H : Hp} {s : Shared} {a C dx : Addr} {f : Str} {y : V} {u : Value} {fs : List (Str × V)} {Q : Unit → Shared → Prop} {E : Value → Shared → Prop} {A : Around}
/-- self.f = y, the first one -/
theorem ost_newG (T : OexG X.K C) (I : Inv X pins σ H s) (e : H a = some (exo a C none)) (hno : findIn X.K (.ref C) f = some none) (ry : RelV y u)
    (h : ∀ dx s', H dx = none → dx ≠ a → Inv X pins σ (upd (upd H dx (exd dx [(f, y)])) a (exo a C (some dx))) s' → Q () s') : wpAny (model X.prog X.w) A (setAttr (.ref a) f u) Q E s := by
  obtain ⟨B, newId, initId, tl, eb, nm, q, N, bs, bm, sn, sub, ab, col, dd, k0, k1, k2, k3, k5, hC, hbm⟩ := T.cls
  have hcl : clsIn X.K C = some { name := nm, bases := bs, mro := .ref C :: bm, ns := N, qualname := q, hasDict := true, slotNames := sn, subclasses := sub, abstract := ab, collection := col, hasDel := false } := by unfold clsIn; rw [hC] <;> rfl
  obtain ⟨t1, ho⟩ := exo_at I.hok e
  obtain ⟨hp, g, d, t, os⟩ := s
  refine set_plain I.kIn (ox := { cls := .ref C, dict := none, data := .fields #[.ref t1, .none, .none, .none, .bool false, .none] }) (od := none) ⟨ho, rfl, rfl, trivial⟩ T.sa ?_
  refine osa_newG eb I.kIn ho hcl (show excTail tl (.ref C :: bm) = true from hbm) rfl rfl hno (fun h' tk' dx k dn dne hx hn => ?_)
  have hnd : H dx = none := I.hok.fresh dn
  have nd : ∀ {b : Addr} {o : Obj}, hp.get? b = some o → b ≠ dx := fun {b o} q => Nat.ne_of_lt (Nat.lt_of_lt_of_le (Heap.lt_size q) dn)
  have na : ∀ {b : Addr}, H b = none → b ≠ a := fun {b} n z => by
    rw [z, e] at n
    cases n
  have Un1 : Un X.fs [] H (upd (upd H dx (exd dx [(f, y)])) a (exo a C (some dx))) hp h' := {
    keep := fun b o q n _ _ => k b o (na n) q
    slot := fun b o q n _ _ => ⟨o.slots, k b o (na n) q⟩
    free := fun b o q n _ => by rw [upd_ne (na n), upd_ne (nd q)]; exact n
    there := fun b o q _ => by
      by_cases hb : b = a
      · exact ⟨_, by rw [hb]; exact hx⟩
      · exact ⟨o, k b o hb q⟩
    tups := fun b xs q => by rw [upd_ne (at_ne e q exo_tup), upd_ne (ne_of_none q hnd)]; exact q
    frzs := fun b o v q => by rw [upd_ne (at_ne e q exo_frz), upd_ne (ne_of_none q hnd)]; exact q
    tbls := fun b ps q => ⟨#[], by rw [upd_ne (at_ne e q exo_tbl), upd_ne (ne_of_none q hnd), q]; simp⟩ }
  refine h dx _ hnd dne (I.un (t' := tk') Un1 fun b o q => ?_)
  by_cases hb : b = a
  · subst hb
    rw [upd_same] at q
    cases q
    exact exo_ok hx
  · rw [upd_ne hb] at q
    by_cases hd : b = dx
    · subst hd
      rw [upd_same] at q
      cases q
      exact exd_ok hn (relO_put (fs := []) ry fun g => True.intro)
    · rw [upd_ne hd] at q
      exact (I.hok b o q).stay (fun c v hc z => k c v (by
          rcases hc with hc | hc
          · rw [hc]
            exact hb
          · exact at_ne e hc exo_own) z)
        (fun c hc => by rw [upd_ne (at_ne e hc exo_own), upd_ne (ne_of_none hc hnd)]; exact hc) (fun c xs hc => by rw [upd_ne (at_ne e hc exo_tup), upd_ne (ne_of_none hc hnd)]; exact hc)
/-- self.f = y, a further one -/
theorem ost_oldG (T : OexG X.K C) (I : Inv X pins σ H s) (e : H a = some (exo a C (some dx))) (ed : H dx = some (exd dx fs)) (hl : fs.length ≤ 900) (hno : findIn X.K (.ref C) f = some none) (ry : RelV y u)
    (h : ∀ s', Inv X pins σ (upd H dx (exd dx ((f, y) :: fs))) s' → Q () s') : wpAny (model X.prog X.w) A (setAttr (.ref a) f u) Q E s := by
  obtain ⟨B, newId, initId, tl, eb, nm, q, N, bs, bm, sn, sub, ab, col, dd, k0, k1, k2, k3, k5, hC, hbm⟩ := T.cls
  have hcl : clsIn X.K C = some { name := nm, bases := bs, mro := .ref C :: bm, ns := N, qualname := q, hasDict := true, slotNames := sn, subclasses := sub, abstract := ab, collection := col, hasDel := false } := by unfold clsIn; rw [hC] <;> rfl
  obtain ⟨t1, ho⟩ := exo_at I.hok e
  obtain ⟨mA, hns, rel⟩ := exd_at I.hok ed
  have hw := within_of rel
  obtain ⟨hp, g, d, t, os⟩ := s
  obtain ⟨oD, _, _, hoD, _, _⟩ := hns.count hw
  refine set_plain I.kIn (ox := { cls := .ref C, dict := some dx, data := .fields #[.ref t1, .none, .none, .none, .bool false, .none] }) (od := some oD) ⟨ho, rfl, rfl, hoD⟩ T.sa ?_
  refine osa_oldG eb I.kIn ho hns hw (by rw [List.length_map]; omega) hcl (show excTail tl (.ref C :: bm) = true from hbm) rfl rfl hno (fun h' tk' k hn => ?_)
  have hd : ∃ o, h'.get? dx = some o := by
    obtain ⟨o, _, _, e', _⟩ := hn
    exact ⟨o, e'⟩
  exact h _ (I.write (t' := tk') (x := dx) (e := dx) (o := exd dx ((f, y) :: fs)) (by rw [ed]; exact True.intro) (.inl rfl) k hd (exd_ok hn (relO_put ry rel)))
end
/-- self.f = e -/
def tOstG (K : Frag) (f : Str) (to te : TE) : TS := fun D σ H => te σ H fun y H1 => to σ H1 fun x H2 => ∃ a C : Addr, x = .ref a ∧ OexG K C ∧ findIn K (.ref C) f = some none ∧
  ((H2 a = some (exo a C none) ∧ ∀ dx, H2 dx = none → dx ≠ a → D.nx σ (upd (upd H2 dx (exd dx [(f, y)])) a (exo a C (some dx)))) ∨
    ∃ (dx : Addr) (fs : List (Str × V)), H2 a = some (exo a C (some dx)) ∧ H2 dx = some (exd dx fs) ∧ fs.length ≤ 900 ∧ D.nx σ (upd H2 dx (exd dx ((f, y) :: fs))))
section
variable {X : Cx} {o e : Expr} {es : List Expr} {to te : TE} {ta : TA} {f : Str} {p p' p1 p2 pos : Pos}
theorem ps_ostG (ho : PE X o to) (he : PE X e te) (hs : swapsWith e (some (.Attribute o f p')) pos.line X.env = pure false := by rfl) : PS X (.Assign [.Attribute o f p'] e pos) (tOstG X.K f to te) := by
  refine ⟨fun pins s σ H D I h => ?_⟩
  refine plainObj_wpAny_Assign_Attribute (thn (he.run pins s σ H _ I h) fun v s1 ⟨y, H1, I1, r1, q1⟩ => thn (ho.run pins s1 σ H1 _ I1 q1) fun u s2 ⟨x, H2, I2, r2, a, C, ex, T, hno, q⟩ => ?_) hs
  subst ex
  obtain rfl : u = Value.ref a := r2
  rcases q with ⟨ea, q⟩ | ⟨dx, fs, ea, ed, hl, q⟩
  · exact ost_newG T I2 ea hno r1 fun dx s' n ne J => ⟨σ, _, J, q dx n ne⟩
  · exact ost_oldG T I2 ea ed hl hno r1 fun s' J => ⟨σ, _, J, q⟩
/-- C(e, ..), C's own __init__ keeping sp -/
theorem pmk_oexG {CX : CXT} {x : Str} {C fI : Addr} {k : Nat} {fd : FuncData} {ps : List Str} {sp : Sp} (T : OexG X.K C) (iC : findIn X.K (.ref C) "__init__" = some (some (.ref fI))) (tI : typeIn X.K (.ref fI) = some (.type "function"))
    (F1 : FnOk X.prog X.w X.K X.mg X.base CX k fI fd ps sp) (hr : Room (k + 1) X.A) (hb : Binds X.K fd ps []) (hx : Passes CX X (fun _ _ _ => False)) (hg : Gl X x) (hm : X.mg x = some (.ref C)) (ha : PA X (e :: es) ta)
    (hdb : (x == ("__debug__" : Str)) = false := by decide) (he : starEach (e :: es) X.env = (false, eval e X.env) :: starEach es X.env := by rfl) (hpl : (backTo pos (starEach es X.env)).any (·.1) = false := by rfl) :
    PMk X (.Call (.Name x p) (e :: es) [] pos) (tMkO C sp [] ta) := by
  intro pins s σ H Q I h
  obtain ⟨B, newId, initId, tl, eb, nm, q, N, bs, bm, sn, sub, ab, col, dd, k0, k1, k2, k3, k5, hC, hbm⟩ := T.cls
  refine wpAny_Call_Name_kw (ld_glob I hg hm ?_ hdb)
  refine callWith_K (h₀ := X.base) I.ok.mod.kin T.kC (thn (ha.run pos pins s σ H _ I h) fun us s1 ⟨vs, H1, I1, r1, hz, q1⟩ => ⟨I1.kIn, ?_⟩) he hpl
  show wpAny _ _ (call (.ref C) us) _ _ _
  obtain ⟨hp, g, dr, tk, os⟩ := s1
  have hsz : hp.objs.size ≤ hp.objs.size + 1 := Nat.le_succ _
  have hn : H1 (hp.objs.size + 1) = none := I1.hok.fresh hsz
  have hq := q1 (hp.objs.size + 1) hn
  have kk : ∀ b o, hp.get? b = some o → ((hp.push (kdv_tup us)).push (PySem.HandSPX.excO C hp.objs.size)).get? b = some o := fun b o e => Heap.get?_push_of_some _ (Heap.get?_push_of_some _ e)
  have hget : ((hp.push (kdv_tup us)).push (PySem.HandSPX.excO C hp.objs.size)).get? (hp.objs.size + 1) = some (PySem.HandSPX.excO C hp.objs.size) := by heap_get
  have I2 : Inv X pins σ (upd H1 (hp.objs.size + 1) (exo (hp.objs.size + 1) C none)) ⟨(hp.push (kdv_tup us)).push (PySem.HandSPX.excO C hp.objs.size), g, dr, tk, os⟩ :=
    I1.laid (t' := tk) (a := hp.objs.size + 1) (o := exo (hp.objs.size + 1) C none) (h' := (hp.push (kdv_tup us)).push (PySem.HandSPX.excO C hp.objs.size)) kk hsz (exo_ok hget)
  have r2 : Vals (V.ref (hp.objs.size + 1) :: (vs ++ [])) (Value.ref (hp.objs.size + 1) :: (us ++ [])) := .cons rfl (r1.append .nil)
  have hl : (Value.ref (hp.objs.size + 1) :: us ++ []).length = ps.length := by
    have e := r2.length
    rw [F1.len _ _ _ _ hq] at e
    exact e.symm
  have hus : us.length ≤ sizeLine := by
    rw [← Paired.length r1, sizeLine_eq]
    omega
  refine wpAny_call (PySem.HandSPX.call_own eb.F (fun Y => excTail_contains Y bm hbm) (I1.kIn _ _ hC) (looks_findIn I1.kIn iC) (fun self => bind_fn I1.kIn self tI) hus
    (codeAny_mono (F1.run _ X.stack _ _ ⟨Value.ref (hp.objs.size + 1) :: us, []⟩ (Value.ref (hp.objs.size + 1) :: (us ++ [])) _ _ (fun _ _ _ => False) (hr.make C us []) (I2.env0.make C us []) (by simpa using hb _ (Value.ref (hp.objs.size + 1) :: us) I2.kIn hl) r2 hq) fun r s' hq' => ?_))
  cases r with
  | error er => exact hx pins σ _ _ er s' I2 hq'
  | ok fl =>
    cases fl with
    | ret u =>
      obtain ⟨v, H2, os2, bare2, un2, hok2, rv, ev, d, fs, ea, ed, hd1, q2⟩ := hq'
      subst ev
      obtain ⟨h2, g2, d2, t2, os'⟩ := s'
      exact ⟨rv, mk_end (raises_own T.exC T.tyC) I1 hsz kk un2 hok2 os2 bare2 ea ed hd1 q2⟩
    | next => exact False.elim hq'
    | brk => exact False.elim hq'
    | cont => exact False.elim hq'
/-- C(), C an own exception class without own __init__ -/
theorem pmk_own0 {C : Addr} {bmB : List Value} {B newId initId : String} {x : Str} (F : ExcBaseFacts B newId initId bmB) (q : excIn X.K C bmB newId = true) (gC : X.mg x = some (.ref C)) (kC : keepIn X.K (.ref C) = true) (r : Raises X (.ref C)) (hg : Gl X x)
    (hdb : (x == ("__debug__" : Str)) = false := by decide) : PMk X (.Call (.Name x p) [] [] pos) (fun _ H Q => Q (.ref C) none H) := by
  intro pins s σ H Q I h
  refine wpAny_Call_Name_kw (ld_glob I hg gC ?_ hdb)
  refine callWith_K0 I.kIn kC ?_
  show wpAny _ _ (call (.ref C) []) _ _ _
  obtain ⟨bm, N, nm, qn, bs, hdct, sn, sub, ab, col, dd, k0, k1, k2, k3, k5, mN, hC, hN, hni, T⟩ := exc_obj I.kIn q
  refine wpAny_call_exc_subT F T hC hN hni (fun h' e hm => ?_) (Nat.zero_le _)
  exact mk_of I hm r h (I.hok.gone hm.new)
end
end Kr

set_option Elab.async false
set_option linter.all false
set_option maxRecDepth 100000
set_option maxHeartbeats 4000000
/-! Part G: a def that is called with the exception that a suite holds; isinstance and fields of that exception. -/
namespace Kr
open PySem PySem.Spec PyProof.Rows L2 L2H

structure FnS (P : Program) (w : World) (K : PySem.W.Frag) (mg : Str → Option Value) (base : Heap) (CX : CXT) (k : Nat) (f : Addr) (fd : FuncData) (ps : List Str) (sp : Addr → Value → Option Addr → Sp) : Prop where
  len : ∀ a cls d vs H Q E, sp a cls d vs H Q E → vs.length = ps.length
  run : ∀ (A : Around) (outer : List Env) (s : Shared) (H : Hp) (args : Args) (us : List Value) (vs : List V) (Q : VK) (E : XK) (p : Addr × Obj) (cls : Value) (d : Option Addr), A.guards = some [] → RoomH k A → PinOk outer H s p → Zc cls d p.2 → (∃ fv, p.2.data = .fields fv) →
    Env0 P w K mg base A outer s H → BindsTo s fd args (ps.zip us) → Vals vs us → sp p.1 cls d vs H Q E → codeAny (model P w) A (.call (.ref f) args) (CR CX outer P w H s Q E) s
structure SOk (P : Program) (w : World) (K : PySem.W.Frag) (mg : Str → Option Value) (base : Heap) (CX : CXT) (k : Nat) (x : Str) (ps : List Str) (sp : Addr → Value → Option Addr → Sp) : Prop where
  m : mg x = some (.ref (He.ga K x))
  kp : PySem.W.keepIn K (.ref (He.ga K x)) = true
  ok : ∃ fd, FnS P w K mg base CX k (He.ga K x) fd ps sp ∧ Binds K fd ps []
theorem fn_ofS {CX : CXT} {P : Program} {w : World} {K : PySem.W.Frag} {mg : Str → Option Value} {base : Heap} {k : Nat} {f : Addr} {name qual : Str} {params : Arguments} {body : List Stmt} {scope : Scope} {dV kV doc pm cdv ct oc : Value} {an od : Option Addr}
    {osl : Array (Option Value)} {N ps : List Str} {sp : Addr → Value → Option Addr → Sp} (lk : K.lookup f = some ⟨oc, od, .func (PySem.W.fnOf name qual params body scope dV kV doc pm an cdv ct), osl⟩) (hcd : PySem.W.codeIn K cdv qual = true) (S : FnScope N ps scope)
    (len : ∀ a cls d vs H Q E, sp a cls d vs H Q E → vs.length = ps.length)
    (hbody : ∀ (A : Around) (outer : List Env) (s : Shared) (H : Hp) (vs : List V) (Q : VK) (E : XK) (p : Addr × Obj) (cls : Value) (d : Option Addr), A.guards = some [] → RoomH k (A.deeper (envOfC qual scope s.heap.objs.size f cdv)) → Zc cls d p.2 → (∃ fv, p.2.data = .fields fv) → sp p.1 cls d vs H Q E →
      ∃ t, PSs (cxH CX P w K mg base N qual scope f cdv A outer s H E p) body t ∧ t { nx := fun _ H' => Q .non H', rt := Q } (L2.start N vs) H) :
    FnS P w K mg base CX (k + 1) f (PySem.W.fnOf name qual params body scope dV kV doc pm an cdv ct) ps sp := by
  refine ⟨len, fun A outer s H args us vs Q E p cls d hgd hr hpin hz hf e0 hb r hsp => ?_⟩
  have hl := len _ _ _ _ _ _ _ hsp
  have KX : K.In s.heap := e0.mod.kin.keeps fun b o e => (e0.bs b o e).1
  have lim : s.heap.NoLimit := e0.mod.nolimit.keeps fun b o e => (e0.bs b o e).1
  have hkind : ∀ y ∈ ps.zip us, scope.names.lookup y.1 = some .local ∨ (scope.names.lookup y.1 = some .cell ∧ ((cellsFrom (s.heap.objs.size + 1) scope.names []).lookup y.1).isSome = true) := fun ⟨n, v⟩ hy => by
    rcases S.par n (List.of_mem_zip hy).1 with q | q
    · exact .inl q
    · exact .inr ⟨q, PySem.W.cellsFrom_some _ _ _ (.inl q)⟩
  refine codeAny_call_function hr.depth (KX _ _ lk) rfl S.co S.gen rfl (PySem.W.codeRec_of KX hcd) (hb _ _ _ _ ?_)
  refine wpAny_newFunctionEnv_cells S.kind hkind fun env he s1 x => ?_
  subst he
  refine ⟨lim.keeps x.toInCall.keep, codeAny_func ?_⟩
  obtain ⟨t, ht, hq⟩ := hbody A outer s H vs Q E p cls d hgd (hr.deeper _) hz hf hsp
  have I : Inv (cxH CX P w K mg base N qual scope f cdv A outer s H E p) [] (L2.start N vs) H s1 := inv_startH S hpin e0 hl r x
  refine wpAny_mono (ht.run [] s1 (L2.start N vs) H _ I hq) (fun fl s' hs => ?_) fun e s' hs => hs
  have fin : ∀ {σ' : L2.St} {H' : Hp} {v : V} {u : Value}, Inv (cxH CX P w K mg base N qual scope f cdv A outer s H E p) [] σ' H' s' → RelV v u → Q v H' → CE outer P w H s Q u s' :=
    fun {σ' H' v u} J rv q => ⟨v, H', J.os, J.bare, J.base, J.hok, rv, q⟩
  cases fl with
  | ret u =>
    obtain ⟨v, σ', H', J, rv, q⟩ := hs
    exact fin J rv q
  | next =>
    obtain ⟨σ', H', J, q⟩ := hs
    exact fin (v := V.non) (u := Value.none) J rfl q
  | brk =>
    obtain ⟨_, _, _, q⟩ := hs
    exact False.elim q
  | cont =>
    obtain ⟨_, _, _, q⟩ := hs
    exact False.elim q
theorem Fun.okS {P : Program} {w : World} {K : PySem.W.Frag} {mg : Str → Option Value} {base : Heap} {x qual : Str} {st : Stmt} {f : Addr} {fd : FuncData} {N ps : List Str} {k : Nat} {sp : Addr → Value → Option Addr → Sp} (F : Fun K x qual st f fd) (S : FnScope N ps (defScope st))
    (len : ∀ a cls d vs H Q E, sp a cls d vs H Q E → vs.length = ps.length)
    (hbody : ∀ (cdv : Value) (A : Around) (outer : List Env) (s : Shared) (H : Hp) (vs : List V) (Q : VK) (E : XK) (p : Addr × Obj) (cls : Value) (d : Option Addr), A.guards = some [] → RoomH k (A.deeper (envOfC qual (defScope st) s.heap.objs.size f cdv)) → Zc cls d p.2 → (∃ fv, p.2.data = .fields fv) → sp p.1 cls d vs H Q E →
      ∃ t, PSs (cxH CX0 P w K mg base N qual (defScope st) f cdv A outer s H E p) (defBody st) t ∧ t { nx := fun _ H' => Q .non H', rt := Q } (L2.start N vs) H) : FnS P w K mg base CX0 (k + 1) f fd ps sp := by
  obtain ⟨oc, od, kV, doc, pm, an, cdv, ct, osl, rfl, lk, hcd⟩ := F.ex
  exact fn_ofS lk hcd S len (hbody cdv)

section
variable {X : Cx} {k : Nat} {f C : Addr} {fd : FuncData} {ps : List Str} {sp : Addr → Value → Option Addr → Sp} {x : Str} {q pos : Pos} {e : Expr} {es : List Expr} {t : TA} {te : TE} {p : Addr × Obj} {cls : Value} {d : Option Addr}
/-- x(e, ..), x a def that looks at the exception at p -/
theorem pe_fnS (D : SOk X.prog X.w X.K X.mg X.base CX0 k x ps sp) (hgd : X.A.guards = some []) (hr : RoomH k X.A) (hp : p ∈ X.pn) (hz : Zc cls d p.2) (hf : ∃ fv, p.2.data = .fields fv) (ha : PA X (e :: es) t) (hg : Gl X x := by rfl)
    (hdb : (x == ("__debug__" : Str)) = false := by decide) (he : starEach (e :: es) X.env = (false, eval e X.env) :: starEach es X.env := by rfl) (hpl : (backTo pos (starEach es X.env)).any (·.1) = false := by rfl) :
    PE X (.Call (.Name x q) (e :: es) [] pos) (fun σ H Q => t σ H fun vs H1 => sp p.1 cls d vs H1 Q fun _ _ _ => False) := by
  obtain ⟨fd, F, b⟩ := D.ok
  refine ⟨fun pins s σ H Q I h => ?_⟩
  refine wpAny_Call_Name_kw (ld_glob I hg D.m ?_ hdb)
  refine PySem.W.callWith_K (h₀ := X.base) I.ok.mod.kin D.kp (thn (ha.run pos pins s σ H _ I h) fun us s1 ⟨vs, H1, I1, r, q⟩ => ⟨I1.kIn, ?_⟩) he hpl
  have hl : us.length = ps.length := by rw [← r.length]; exact F.len _ _ _ _ _ _ _ q
  have b1 := b s1 us I1.kIn (by rw [List.append_nil]; exact hl)
  rw [List.append_nil] at b1
  have P1 := I1.pin p (List.mem_append_left _ hp)
  have hpin : PinOk X.stack H1 s1 p := ⟨P1.1, P1.2.1, fun hm => (List.mem_cons.mp (I1.stkSub p.1 hm)).elim P1.2.2.1 P1.2.2.2.1, P1.2.2.2.2⟩
  refine wpAny_call (codeAny_mono (F.run X.A X.stack s1 H1 ⟨us, []⟩ us vs Q (fun _ _ _ => False) p cls d hgd hr hpin hz hf I1.env0 b1 r q) fun r s' hq => ?_)
  cases r with
  | error e => exact False.elim hq
  | ok fl =>
    cases fl with
    | ret u => exact I1.after hq
    | next => exact False.elim hq
    | brk => exact False.elim hq
    | cont => exact False.elim hq
/-- n.f, n the exception at p -/
theorem pe_xfP {n : Str} (T : XfC X.K C) (hno : PySem.W.findIn X.K (.ref C) n = some none) (hp : p ∈ X.pn) (hz : Zc cls d p.2) (hf : ∃ vs, p.2.data = .fields vs) (he : PE X e te)
    (hb : attributeBase e n X.env (eval e X.env) = eval e X.env := by rfl) : PE X (.Attribute e n pos) (tXf p.1 cls d C n te) := by
  refine ⟨fun pins s σ H Q I h => ?_⟩
  refine attr_of hb (thn (he.run pins s σ H _ I h) fun u s1 hh => ?_)
  obtain ⟨x, H1, I1, rx, ex, ec, dd, fs, v, ed, ea, l, q⟩ := hh
  subst ex
  obtain rfl : u = Value.ref p.1 := rx
  obtain ⟨ha, _⟩ := I1.pin p (List.mem_append_left _ hp)
  obtain ⟨vs, hd⟩ := hf
  have hx : ObjOk X.prog X.w H1 s1.heap dd (.xd fs) := I1.hok dd _ ea
  obtain ⟨mA, hns, hr⟩ := hx
  obtain ⟨od, ho, hl⟩ := lookIn_ns hns
  obtain ⟨u, hu, ru⟩ := RelO.some_of (v := v) (o := mA n) (by rw [← l]; exact hr n)
  have J : PySem.W.InstAt s1.heap p.1 p.2 C (some od) := ⟨ha, hz.1.trans ec, by unfold PySem.W.notCls; rw [hd] <;> rfl, by rw [hz.2, ed]; exact ho⟩
  exact HandSPX.exc_get I1.kIn J T.ga T.gg T.exC (PySem.W.findObj_own T.hdC hno rfl (by rw [hl, hu])) (handed_of ru) ⟨v, H1, I1.tok _, ru, q⟩
end
section
open PySem.W PySem.Calls
variable {prog : Program} {w : World} {A : Around} {E : Value → Shared → Prop} {s : Shared} {K : Frag} {x D : Addr} {ox : Obj} {od : Option Obj}
theorem findObj_dataO {C : Addr} {name : Str} {a g : Value} (hc : (clsIn K C).isSome = true) (ha : findIn K (.ref C) name = some (some a)) (hg : specialIn K a "__get__" = some (some g)) (ht : takesIn K a = some true) : findObj K C od name = some (.bind g a) := by
  obtain ⟨cd, hc⟩ := Option.isSome_iff_exists.mp hc
  unfold findObj
  rw [hc, Option.bind_some, ha, Option.bind_some]
  simp [hg, ht]
theorem kin_classO {Q : Option Value → Shared → Prop} (C : ExcC K D) (X : K.In s.heap) (I : InstAt s.heap x ox D od) (h : Q (some (.ref D)) { s with toks := s.toks + 1 }) : wpAny (model prog w) A (getAttr? (.ref x) "__class__") Q E s := by
  have hf : findObj K D od "__class__" = some (.bind (.builtin "getset_descriptor.__get__") (.builtin "object.__class__")) := findObj_dataO (by obtain ⟨cd, hc, _⟩ := any_some C.hd; rw [hc]; rfl) C.ha C.hn C.ht
  obtain ⟨hp, g, d, t, os⟩ := s
  have L0 := I.type (M := model prog w)
  have L1 := looks_findIn (M := model prog w) X C.hg
  have L2 := looks_findIn (M := model prog w) X C.hk
  have L3 := looks_find (M := model prog w) X I hf
  have sub : Looks (model prog w) hp (isInstance (.ref x) (.type "BaseException")) true := L0.andThen (looks_subIn X C.hs)
  have hx0 : (false && onTheHeap (Value.builtin "BaseException.__getattribute__")) = false := rfl
  have hx2 : (Value.builtin "BaseException.__getattribute__" == Value.builtin "object.__getattribute__") = false := by decide +kernel
  have hx1 : (onTheHeap (Value.ref D) && Value.builtin "BaseException.__getattribute__" == Value.builtin "object.__getattribute__") = false := by rw [hx2]; rfl
  unfold getAttr? getAttrBy? getAttrBy
  refine wpAny_bind (wpAny_mkText (wpAny_bind (wpAny_attempt (wpAny_holding (wpAny_bind (L0.at (wpAny_bind (L1.at ?_))))))))
  show wpAny _ _ (if (onTheHeap (Value.ref D) && Value.builtin "BaseException.__getattribute__" == Value.builtin "object.__getattribute__") = true then _ else _) _ _ _
  rw [hx1, if_neg Bool.false_ne_true]
  unfold getAttrByItsOwn hookBefore
  refine wpAny_bind ?_
  rw [if_pos (show onTheHeap (Value.ref D) = true from rfl)]
  refine L2.at ?_
  refine wpAny_bind (wpAny_attempt (wpAny_holding ?_))
  unfold callGetattribute
  rw [hx0, if_neg Bool.false_ne_true]
  unfold boundAndCalled
  rw [PySem.F.excAttr_ValueError.ga.bind (.ref x)]
  refine wpAny_bind (wpAny_pure ?_)
  show wpAny _ _ (call (.builtin "BaseException.__getattribute__") [.ref x, .str "__class__" t]) _ _ _
  refine wpAny_call (codeAny_call_builtin PySem.F.excAttr_ValueError.ga.plain PySem.F.entry_bexc_ga ?_)
  refine @check_slot (model prog w) _ _ ⟨hp, g, d, t + 1, os⟩ "BaseException.__getattribute__" "BaseException" "__getattribute__" (.ref x) [.str "__class__" t] [] _ (by decide +kernel) (by decide +kernel) sub (PySem.F.args_bexc_ga (.ref x) (.str "__class__" t)) ?_
  unfold Builtin.«object.__getattribute__»
  refine wpAny_bind (wpAny_of_eq (a := ((Value.ref x : Value), [Value.str "__class__" t])) (by first | rfl | (simp only [slotArgs]; rfl)) ?_)
  refine wpAny_bind (wpAny_pure (wpAny_bind (L0.at (wpAny_bind (L3.at ?_)))))
  show wpAny _ _ (holding [Value.builtin "object.__class__"] (call (.builtin "getset_descriptor.__get__") [.builtin "object.__class__", .ref x, .ref D]) >>= ret) _ _ _
  refine wpAny_bind (wpAny_holding (wpAny_call (class_get (s := ⟨hp, g, d, t + 1, os⟩) (ox := ox) (od := od) X I C.hm ?_)))
  refine wpAny_pure ?_
  show wpAny _ _ (handedOut (.ref D)) _ _ _
  rw [handedOut_of (v := .ref D) rfl]
  first
    | exact wpAny_pure (wpAny_pure h)
    | exact wpAny_pure h
    | exact wpAny_pure (wpAny_bind (wpAny_pure (wpAny_pure h)))
theorem kitx_excO (C : ExcC K D) : KitX K (.ref x) (.ref D) (fun h => ∃ od, InstAt h x ox D od) where
  ty := fun _ _ _ ⟨_, I⟩ => I.type
  it := fun _ _ X _ => by
    obtain ⟨cdD, hcD, _⟩ := any_some C.hd
    unfold clsIn at hcD
    split at hcD
    · rename_i c' d' cd' sl' ho
      intro A' Q' E' s' k q
      unfold isType loadHead
      exact wpAny_bind (wpAny_loadPart (k _ _ (X _ _ ho)) (wpAny_pure q))
    · cases hcD
  ne := fun h tp dd its n sl X htp => by
    obtain ⟨cdD, hcD, _⟩ := any_some C.hd
    refine Bool.eq_false_iff.mpr fun q => ?_
    have e : D = tp := Value.ref.inj (beq_iff_eq.mp q)
    subst e
    unfold clsIn at hcD
    split at hcD
    · rename_i c' d' cd' sl' ho
      have z := (X _ _ ho).symm.trans htp
      cases z
    · cases hcD
  ca := fun X ⟨_, I⟩ k => kin_classO C X I k
end
/-- isinstance(e, c), e the exception at p -/
theorem call_isP {X : Cx} {D : Addr} {p : Addr × Obj} {cls : Value} {d : Option Addr} (C : ExcC X.K D) (hp : p ∈ X.pn) (hc : cls = .ref D) (hz : Zc cls d p.2) (hf : ∃ vs, p.2.data = .fields vs) :
    CallR X (.builtin "isinstance") (fun xs H Q => (∀ dd, d = some dd → ∃ fs, H dd = some (.xd fs)) ∧ rIsE X.K D p.1 xs H Q) := by
  intro pins s σ H xs us Q I r h
  obtain ⟨hdd, c, cv, b, rfl, hcv, e, q⟩ := h
  cases r with
  | cons rx rr =>
    cases rr with
    | cons rt rr =>
      cases rr
      cases rx
      have ec := hcv _ rt
      subst ec
      obtain ⟨hget, _⟩ := I.pin p (List.mem_append.mpr (.inl hp))
      obtain ⟨vs, hv⟩ := hf
      have hn : PySem.W.notCls p.2 = true := by unfold PySem.W.notCls; rw [hv] <;> rfl
      have J : ∃ od, PySem.W.InstAt s.heap p.1 p.2 D od := by
        cases d with
        | none => exact ⟨none, hget, hz.1.trans hc, hn, by rw [hz.2]; trivial⟩
        | some dd =>
          obtain ⟨fs, ea⟩ := hdd dd rfl
          obtain ⟨mA, hns, hr⟩ := (show ObjOk X.prog X.w H s.heap dd (.xd fs) from I.hok dd _ ea)
          obtain ⟨od, ho, hl⟩ := lookIn_ns hns
          exact ⟨some od, hget, hz.1.trans hc, hn, by rw [hz.2]; exact ho⟩
      exact PySem.W.kia_one (kitx_excO C) I.kIn J e (fun z => nomatch z) fun tk => ⟨.bl b, H, I.kept (t' := tk) fun _ _ z => z, rfl, q⟩
end Kr

set_option Elab.async false
set_option linter.all false
set_option maxRecDepth 100000
set_option maxHeartbeats 4000000
/-! Part H: count and index of flat items; the end of a law whose def knows that no repr is under way; a def that calls what it got. -/
namespace Kr
open PySem PySem.Spec PyProof.Rows L2 LamX

section
variable {X : Cx}
/-- xs.count(y), flat items -/
def rCount (K : PySem.W.Frag) : V → List V → Hp → VK → Prop := fun x xs H Q => ∃ (a : Addr) (ys : List V) (y : V), x = V.ref a ∧ xs = [y] ∧ SqL K H a ys ∧ flatV y = true ∧ ys.all flatV = true ∧ Q (.int (ys.countP fun z => eqV z y : Nat)) H
theorem countP_rel {p : V → Bool} {q : Value → Bool} : ∀ {ys : List V} {us : List Value}, Vals ys us → (∀ z u, z ∈ ys → RelV z u → q u = p z) → us.countP q = ys.countP p := by
  intro ys us r h
  induction r with
  | nil => rfl
  | @cons z u zs us h1 t ih =>
    have e := h z u List.mem_cons_self h1
    rw [List.countP_cons, List.countP_cons, e, ih fun z' u' hz => h z' u' (List.mem_cons_of_mem _ hz)]
theorem mt_count : MtR X "list.count" (rCount X.K) := by
  intro pins s σ H x xs v us Q I rx rxs h
  obtain ⟨a, ys, y, rfl, rfl, hs, fy, fys, q⟩ := h
  cases rx
  obtain ⟨uy, rfl, ry⟩ := rxs.one
  obtain ⟨its, rv, ⟨⟨cls, dd, data, sl⟩, n, ho, hc, hdn, hd⟩, hlen⟩ := I.list hs
  simp only at hc hd
  subst hc hd
  refine call_meets PySem.F.slot_list_count ⟨_, ho, rfl⟩ PySem.F.entry_list_count (PySem.F.args_list_count_2 _ _)
    (SeqAt.list_countAt a its.toArray n dd sl uy (eqU y)) ⟨ho, fun u' hu' => mem_eqAt ry fy rv fys u' (by simpa using hu'), ?_⟩
  have ec : its.toArray.toList.countP (eqU y) = ys.countP fun z => eqV z y :=
    countP_rel rv fun z u hz r => eqU_of r (List.all_eq_true.mp fys z hz)
  refine ⟨.int (ys.countP fun z => eqV z y : Nat), H, I.tok _, ⟨s.toks, ?_⟩, q⟩
  show Value.int ((its.toArray.toList.countP (eqU y) : Nat) : Int) s.toks = _
  rw [ec]
end

/-! ### the end -/
/-- what is tracked at the start: the code tables, and the script where it is none of the written objects -/
def startH (K : PySem.W.Frag) (ts : List Addr) (a : Addr) (o : Obj) (xs : List V) : Hp := fun b => if b ∈ ts then some (.tbl #[]) else if b = a ∧ K.lookup a = none then some (.frz o (.lst xs)) else none
theorem startH_tab {K : PySem.W.Frag} {ts : List Addr} {a b : Addr} {o : Obj} {xs : List V} (h : b ∈ ts) : startH K ts a o xs b = some (.tbl #[]) := if_pos h
theorem startH_cases {K : PySem.W.Frag} {ts : List Addr} {a b : Addr} {o : Obj} {xs : List V} {u : HO} (h : startH K ts a o xs b = some u) : (b ∈ ts ∧ u = .tbl #[]) ∨ (b ∉ ts ∧ b = a ∧ K.lookup a = none ∧ u = .frz o (.lst xs)) := by
  unfold startH at h
  split at h
  · rename_i hb
    exact .inl ⟨hb, (Option.some.inj h).symm⟩
  · rename_i hb
    split at h
    · rename_i h2
      exact .inr ⟨hb, h2.1, h2.2, (Option.some.inj h).symm⟩
    · cases h
def LawG (l : PySem.W.OpenLaw) (w : World) (K : PySem.W.Frag) (k n : Nat) (x : Str) (mg : Str → Option Value) (fa : Addr) (h : Heap) : Prop :=
  ∃ (fd : FuncData) (cs : List (Addr × Addr)) (sp : Sp), (∀ p ∈ cs, h.get? p.2 = some { cls := .none, data := .fields #[] }) ∧ (∀ p ∈ cs, K.lookup p.2 = none) ∧ (∀ p ∈ cs, PySem.W.CodeHd h p.1 p.2) ∧ (∀ (s : Shared) (u : Value), BindsTo s fd ⟨[u], []⟩ [(x, u)]) ∧
    (∀ (H : Hp) (a : Addr) (ns : List Int), ns.length ≤ n → (∀ z ∈ ns, Builtin.Int.intBits z ≤ 1048576) → (∀ p ∈ cs, H p.2 = some (.tbl #[])) → SqL K H a (ns.map V.int) → sp [.ref a] H (fun v _ => v = .bl true) fun _ _ _ => False) ∧
    ∀ base : Heap, K.In base → base.Ns mainGlobals mg → (∀ p ∈ cs, TabB base mg p.1 p.2) → FnG l.prog w K mg base CX0 k fa fd [x] sp
theorem law_callG {l : PySem.W.OpenLaw} {w : World} {K : PySem.W.Frag} {mg mb : Str → Option Value} {k n : Nat} {fa a : Addr} {x : Str} {s₁ : Shared} {vs : List Value} {ns : List Int} (L : LawG l w K k n x mg fa s₁.heap) (hln : ns.length ≤ n) (hbits : ∀ z ∈ ns, Builtin.Int.intBits z ≤ 1048576)
    (KX : K.In s₁.heap) (hns : s₁.heap.Ns mainGlobals mg) (hb : s₁.heap.Ns builtinsNs mb) (hbb : ∀ x : Str, x ≠ "__name__" → mb x = bootBuiltins x) (hlim : s₁.heap.NoLimit) (hg : s₁.gens = #[])
    (hbm : ∃ (bm : Addr) (ob : Obj), mg "__builtins__" = some (.ref bm) ∧ bm ≠ builtinsNs ∧ s₁.heap.get? bm = some ob ∧ ob.cls = .type "module" ∧ ob.dict = some builtinsNs ∧ ob.data = .plain)
    (ha : s₁.heap.get? a = some { cls := .type "list", data := .seq vs.toArray }) (hi : IntsAre vs ns) (hl : ns.length ≤ sizeLine) (hr : Room k callerA) :
    codeAny (model l.prog w) callerA (.call (.ref fa) ⟨[.ref a], []⟩) (fun r s' => r = .ok (.ret (.bool true)) ∧ OldK s₁.heap s'.heap ∧ s'.os = s₁.os ∧ AllBare s'.gens) s₁ := by
  obtain ⟨fd, cs, sp, hT, nT, C, hbind, hsp, F⟩ := L
  have rv := vals_ints hi
  have lenV := hi.length
  generalize hts : cs.map (·.2) = ts
  have memT : ∀ p ∈ cs, p.2 ∈ ts := fun p hp => hts ▸ List.mem_map.mpr ⟨p, hp, rfl⟩
  have isT : ∀ b ∈ ts, ∃ p ∈ cs, p.2 = b := fun b hb => List.mem_map.mp (hts ▸ hb)
  have getT : ∀ b ∈ ts, s₁.heap.get? b = some { cls := .none, data := .fields #[] } := fun b hb => by
    obtain ⟨p, hp, e⟩ := isT b hb
    exact e ▸ hT p hp
  have aT : a ∉ ts := fun z => by
    have e := (getT a z).symm.trans ha
    have e2 : Data.fields #[] = Data.seq vs.toArray _ := congrArg Obj.data (Option.some.inj e)
    cases e2
  generalize hH : startH K ts a { cls := .type "list", data := .seq vs.toArray } (ns.map V.int) = H
  have cas : ∀ {b : Addr} {u : HO}, H b = some u → (b ∈ ts ∧ u = .tbl #[]) ∨ (b ∉ ts ∧ b = a ∧ K.lookup a = none ∧ u = .frz { cls := .type "list", data := .seq vs.toArray } (.lst (ns.map V.int))) := fun {b u} e => startH_cases (hH ▸ e)
  have tabH : ∀ b ∈ ts, H b = some (.tbl #[]) := fun b hb => by rw [← hH]; exact startH_tab hb
  -- what stands in the heap with other data than a list's or an empty table's is hidden from nobody
  have plainOf : ∀ {b : Addr} {o : Obj}, s₁.heap.get? b = some o → (∀ vs n, o.data ≠ .seq vs n) → o.data ≠ .fields #[] → H b = none := fun {b o} e h1 h2 => by
    cases q : H b with
    | none => rfl
    | some u =>
      rcases cas q with ⟨hb, _⟩ | ⟨_, hb, _⟩
      · rw [getT b hb] at e
        cases e
        exact (h2 rfl).elim
      · rw [hb, ha] at e
        cases e
        exact (h1 _ _ rfl).elim
  have seen : ∀ {b : Addr} {o : Obj}, s₁.heap.get? b = some o → (∀ vs n, o.data ≠ .seq vs n) → o.data ≠ .fields #[] → (hidT s₁.heap H).get? b = some o := fun e h1 h2 => hidT_get e (plainOf e h1 h2)
  have nsK : ∀ {b : Addr} {m : Str → Option Value}, s₁.heap.Ns b m → (hidT s₁.heap H).Ns b m := fun {b m} ⟨o, es, ep, e, d, r⟩ => ⟨o, es, ep, seen e (fun vs n z => by rw [d] at z; cases z) (fun z => by rw [d] at z; cases z), d, r⟩
  have hKb : K.In (hidT s₁.heap H) := fun b o e => hidT_get (KX b o e) (by
    cases q : H b with
    | none => rfl
    | some u =>
      rcases cas q with ⟨hb, _⟩ | ⟨_, hb, hk, _⟩
      · obtain ⟨p, hp, ep⟩ := isT b hb
        rw [← ep, nT p hp] at e
        cases e
      · rw [hb, hk] at e
        cases e)
  have hM : L2.Mod K mg (hidT s₁.heap H) := ⟨hKb, nsK hns, ⟨mb, nsK hb, hbb⟩, let ⟨mc, h1, h2⟩ := hlim; ⟨mc, nsK h1, h2⟩⟩
  have TB : ∀ p ∈ cs, TabB (hidT s₁.heap H) mg p.1 p.2 := fun p hp => by
    refine ⟨?_, ?_, fun z => ?_⟩
    · obtain ⟨o, us, file, tf, flags, tg, inF, text, tt, e1, r1, r2, r3, r⟩ := C p hp
      exact ⟨o, us, file, tf, flags, tg, inF, text, tt, seen e1 (fun vs n z => by rw [r2] at z; cases z) (fun z => by
        rw [r2] at z
        cases z
        simp at r3), r1, r2, r3, r⟩
    · obtain ⟨bm, ob, b1, b2, b3, b4, b5, b6⟩ := hbm
      refine ⟨bm, ob, b1, b2, fun q => ?_, fun q => ?_, seen b3 (fun vs n z => by rw [b6] at z; cases z) (fun z => by rw [b6] at z; cases z), b4, b5, b6⟩
      · obtain ⟨o, es, ep, e, hd, _⟩ := hns
        rw [q, e] at b3
        cases b3
        rw [hd] at b6
        cases b6
      · rw [q, hT p hp] at b3
        cases b3
        cases b6
    · obtain ⟨o, es, ep, e, hd, _⟩ := hns
      rw [z, hT p hp] at e
      cases e
      cases hd
  have hok : HOk l.prog w H s₁.heap := fun b u e => by
    rcases cas e with ⟨hb, eu⟩ | ⟨_, hb, _, eu⟩
    · rw [eu]
      exact getT b hb
    · rw [eu, hb]
      exact ⟨ha, by rw [List.length_map]; exact hl, vs, _, rv, ha⟩
  have e0 : Env0 l.prog w K mg (hidT s₁.heap H) callerA [] s₁ H := ⟨rfl, hM, fun b o e => of_hidT e, Nat.le_of_eq (hidT_size _ _), trivial, fun b hb => absurd (show b ∈ ([] : List Addr) from hb) (by simp), hok, .of_eq hg⟩
  have hS : SqL K H a (ns.map V.int) := by
    cases hk : K.lookup a with
    | none =>
      refine .inl (.inr ⟨{ cls := .type "list", data := .seq vs.toArray }, ?_⟩)
      rw [← hH]
      unfold startH
      rw [if_neg aT, if_pos ⟨rfl, hk⟩]
    | some o =>
      have e := KX a o hk
      rw [ha] at e
      cases e
      exact .inr ⟨_, vs.toArray, _, hk, rfl, rfl, rfl, by rw [List.size_toArray, lenV]; exact hl, by simpa using rv⟩
  refine codeAny_mono ((F _ hKb (nsK hns) TB).run callerA [] s₁ H ⟨[.ref a], []⟩ [.ref a] [.ref a] _ _ rfl hr e0 (hbind s₁ (.ref a)) (.cons rfl .nil) (hsp H a ns hln hbits (fun p hp => tabH _ (memT p hp)) hS)) fun r s' h => ?_
  rcases r with e | (_ | _ | _ | u)
  · exact (show False from h).elim
  · exact False.elim h
  · exact False.elim h
  · exact False.elim h
  · obtain ⟨v, H', os, bare, un, hok', r', q⟩ := h
    have q' : v = .bl true := q
    subst q'
    obtain rfl : u = Value.bool true := r'
    have grown : ∀ b ∈ ts, ∃ more : Array Value, s'.heap.get? b = some { cls := .none, data := .fields more } := fun b hb => by
      obtain ⟨more, z⟩ := un.tbls b #[] (tabH b hb)
      exact ⟨_, hok' b _ z⟩
    have key : ∀ b o, b ∉ ts → s₁.heap.get? b = some o → s'.heap.get? b = some o := fun b o nb e => by
      cases q : H b with
      | none => exact un.keep b o e q (by intro z; exact absurd (show b ∈ ([] : List Addr) from z) (by simp)) (by simp)
      | some u =>
        rcases cas q with ⟨hb, _⟩ | ⟨_, _, _, eu⟩
        · exact absurd hb nb
        · rw [eu] at q
          have e1 := (hok b _ q).1
          have e2 := (hok' b _ (un.frzs b _ _ q)).1
          rw [e] at e1
          cases e1
          exact e2
    refine ⟨rfl, ⟨fun b o e => ?_, fun b o e => ?_⟩, os, bare⟩
    · by_cases hb : b ∈ ts
      · obtain ⟨p, hp, ep⟩ := isT b hb
        obtain ⟨more, hm⟩ := grown b hb
        rw [getT b hb] at e
        cases e
        exact .inr (.inl ⟨by rw [← ep]; exact ((C p hp).tab (hT p hp)).isCodeTable, rfl, #[], more, rfl, by rw [Array.empty_append]; exact hm⟩)
      · exact .inl (key b o hb e)
    · by_cases hb : b ∈ ts
      · obtain ⟨more, hm⟩ := grown b hb
        exact ⟨_, hm⟩
      · exact ⟨o, key b o hb e⟩
theorem walk_ofG {l : PySem.W.OpenLaw} {n k : Nat} {q : Program} {loose : List Str} {XP : (Str → Option Value) → Heap → Prop} {YP : World → Heap → Prop} {d : DefRec} {x : Str}
    (hn : l.most = some n) (hn2 : n ≤ sizeLine) (hdf : d.params.defaults = []) (hr : Room k callerA)
    (F : ∀ (w : World) (mg : Str → Option Value) (fa : Addr) (h : Heap), YP w h → h.Ns mainGlobals mg → mg d.name = some (.ref fa) → ∃ K : PySem.W.Frag, K.In h ∧ LawG l w K k n x mg fa h) :
    PySem.W.WalkO q loose XP YP l.row.toRowW d [] (fun f vs => PySem.call f vs) := by
  refine Att.attach_callB hn hdf fun w s₀ s₁ mg mb fa o pm cd doc a vs ns G Y ho hd hcd hmg hobj hints hlen hbits hg => ?_
  obtain ⟨K, KX, L⟩ := F w mg fa _ Y G.T.g hmg
  exact law_callG L hlen hbits KX G.T.g G.T.b G.T.builtins G.T.nolimit hg G.T.bmain hobj hints (Nat.le_trans hlen hn2) hr
end Kr

set_option Elab.async false
set_option linter.all false
set_option maxRecDepth 100000
set_option maxHeartbeats 4000000
/-! The text's places, and what the head gives of names. -/
namespace Kr
open PySem PySem.Spec PyProof.Rows L2
def top (i : Nat) : Stmt := PySem.Challenge.pw_keptrests_k60_whole_desks_taken_back.main.body.getD i (.Pass ⟨0, 0, 0, 0⟩)
abbrev s_wall : Stmt := top 0
abbrev s_InvalidNumber_init : Stmt := inClass (top 3) 0
abbrev s_InvalidName_init : Stmt := inClass (top 4) 0
abbrev s_InvalidIndex_init : Stmt := inClass (top 5) 0
abbrev s_InvalidPromise_init : Stmt := inClass (top 6) 0
abbrev s_InvalidCommand_init : Stmt := inClass (top 7) 0
abbrev s_InvalidFacts_init : Stmt := inClass (top 8) 0
abbrev s_InvalidValues_init : Stmt := inClass (top 9) 0
abbrev s_InvalidPoints_init : Stmt := inClass (top 10) 0
abbrev s_UnknownName_init : Stmt := inClass (top 12) 0
abbrev s_InUse_init : Stmt := inClass (top 13) 0
abbrev s_NoMachine_init : Stmt := inClass (top 15) 0
abbrev s_TooMany_init : Stmt := inClass (top 16) 0
abbrev s_Broken_init : Stmt := inClass (top 18) 0
abbrev s_gcd : Stmt := top 21
abbrev s_lcm : Stmt := top 22
abbrev s_rest_by : Stmt := top 23
abbrev s_agree : Stmt := top 24
abbrev s_inverse : Stmt := top 25
abbrev s_met : Stmt := top 26
abbrev s_is_integer : Stmt := top 30
abbrev s_is_between : Stmt := top 31
abbrev s_is_name : Stmt := top 32
abbrev s_are_integers : Stmt := top 33
abbrev s_is_fact : Stmt := top 35
abbrev s_check_facts : Stmt := top 36
abbrev s_do_quarrel : Stmt := top 37
abbrev s_all_quarrels : Stmt := top 38
abbrev s_known_by : Stmt := top 39
abbrev s_is_sure : Stmt := top 40
abbrev s_unsure_ones : Stmt := top 42
abbrev s_is_promise : Stmt := top 45
abbrev s_names_in : Stmt := top 46
abbrev s_truth_of : Stmt := top 47
abbrev s_check_promise : Stmt := top 48
abbrev s_Desk_init : Stmt := inClass (top 49) 0
abbrev s_Desk_names : Stmt := inClass (top 49) 1
abbrev s_Desk_promises : Stmt := inClass (top 49) 2
abbrev s_Desk_changes : Stmt := inClass (top 49) 3
abbrev s_Desk_contains : Stmt := inClass (top 49) 4
abbrev s_Desk_iter : Stmt := inClass (top 49) 5
abbrev s_Desk_len : Stmt := inClass (top 49) 6
abbrev s_Desk_bool : Stmt := inClass (top 49) 7
abbrev s_Desk_getitem : Stmt := inClass (top 49) 8
abbrev s_Desk_setitem : Stmt := inClass (top 49) 9
abbrev s_Desk_become : Stmt := inClass (top 49) 10
abbrev s_Desk_remove : Stmt := inClass (top 49) 11
abbrev s_Desk_promise : Stmt := inClass (top 49) 12
abbrev s_Desk_lift : Stmt := inClass (top 49) 13
abbrev s_Desk_undo : Stmt := inClass (top 49) 14
abbrev s_Desk_trial : Stmt := inClass (top 49) 15
abbrev s_Desk_tried : Stmt := inClass (top 49) 16
abbrev s_l_vial : Stmt := top 51
abbrev s_l_drop : Stmt := top 52
abbrev s_l_any : Stmt := top 53
abbrev s_l_mixed : Stmt := top 54
abbrev s_l_words : Stmt := top 55
abbrev s_l_shared : Stmt := top 56
abbrev s_l_maps : Stmt := top 57
abbrev s_l_keeps_fact : Stmt := top 58
abbrev s_l_fitting : Stmt := top 59
abbrev s_l_seen : Stmt := top 60
abbrev s_l_is_sure : Stmt := top 61
abbrev s_l_pair : Stmt := top 62
abbrev s_l_fact : Stmt := top 63
abbrev s_l_heap : Stmt := top 64
abbrev s_l_broken : Stmt := top 65
abbrev s_l_vow : Stmt := top 66
abbrev s_l_true_vow : Stmt := top 67
abbrev s_l_names_of : Stmt := top 68
abbrev s_l_sort : Stmt := top 69
abbrev s_l_told : Stmt := top 70
abbrev s_l_sight : Stmt := top 71
abbrev s_l_due_sight : Stmt := top 72
abbrev s_l_put : Stmt := top 73
abbrev s_l_vowed : Stmt := top 74
abbrev s_l_removed : Stmt := top 75
abbrev s_l_lifted : Stmt := top 76
abbrev s_l_job : Stmt := top 77
abbrev s_l_due : Stmt := top 78
abbrev s_l_do : Stmt := top 79
abbrev s_l_moved : Stmt := top 80
abbrev s_l_right : Stmt := top 81
abbrev s_law : Stmt := top 82

/-- the built-in names that the module leaves alone -/
structure Fre (mg : Str → Option Value) : Prop where
  len_ : mg "len" = none
  abs_ : mg "abs" = none
  isinstance : mg "isinstance" = none
  all_ : mg "all" = none
  range_ : mg "range" = none
  enumerate : mg "enumerate" = none
  sorted : mg "sorted" = none
  tuple_ : mg "tuple" = none
  str_ : mg "str" = none
  int_ : mg "int" = none
  bool_ : mg "bool" = none
  list_ : mg "list" = none
  dict_ : mg "dict" = none
  divmod : mg "divmod" = none
  max_ : mg "max" = none
  min_ : mg "min" = none
  repr_ : mg "repr" = none
  ValueError : mg "ValueError" = none
  LookupError : mg "LookupError" = none
  ArithmeticError : mg "ArithmeticError" = none
  TypeError : mg "TypeError" = none

/-- a def of the module: where it stands -/
structure DefIn (K : PySem.W.Frag) (mg : Str → Option Value) (x : Str) (st : Stmt) : Prop where
  m : mg x = some (.ref (He.ga K x))
  kp : PySem.W.keepIn K (.ref (He.ga K x)) = true
  fu : ∃ fd, L2.Fun K x x st (He.ga K x) fd
section
variable {P : Program} {w : World} {K : PySem.W.Frag} {mg : Str → Option Value} {base : Heap} {x : Str} {st : Stmt} {N ps : List Str} {k : Nat} {sp : Sp}
/-- a def that lets no exception out -/
theorem DefIn.ok (D : DefIn K mg x st) (S : FnScope N ps (defScope st)) (len : ∀ vs H Q E, sp vs H Q E → vs.length = ps.length)
    (hb : ∀ (kV doc pm : Value) (an : Option Addr) (cdv ct : Value) (us : List Value), us.length = ps.length → bindArgs (PySem.W.fnOf x x (defArgs st) (defBody st) (defScope st) .none kV doc pm an cdv ct) ⟨us, []⟩ = pure (ps.zip us))
    (hbody : ∀ (cdv : Value) (A : Around) (outer : List Env) (s : Shared) (H : Hp) (vs : List V) (Q : VK) (E : XK), Room k (A.deeper (envOfC x (defScope st) s.heap.objs.size (He.ga K x) cdv)) → sp vs H Q E →
      ∃ t, PSs (cxOf CX0 P w K mg base N x (defScope st) (He.ga K x) cdv A outer s H E).nox (defBody st) t ∧ t { nx := fun _ H' => Q .non H', rt := Q } (L2.start N vs) H) : DOk P w K mg base CX0 (k + 1) x ps sp := by
  obtain ⟨fd, F⟩ := D.fu
  exact ⟨D.m, D.kp, fd, F.ok S len hbody, F.binds hb⟩
/-- a def that may let one out -/
theorem DefIn.okX (D : DefIn K mg x st) (S : FnScope N ps (defScope st)) (len : ∀ vs H Q E, sp vs H Q E → vs.length = ps.length)
    (hb : ∀ (kV doc pm : Value) (an : Option Addr) (cdv ct : Value) (us : List Value), us.length = ps.length → bindArgs (PySem.W.fnOf x x (defArgs st) (defBody st) (defScope st) .none kV doc pm an cdv ct) ⟨us, []⟩ = pure (ps.zip us))
    (hbody : ∀ (cdv : Value) (A : Around) (outer : List Env) (s : Shared) (H : Hp) (vs : List V) (Q : VK) (E : XK), Room k (A.deeper (envOfC x (defScope st) s.heap.objs.size (He.ga K x) cdv)) → sp vs H Q E →
      ∃ t, PSs (cxOf (L2.CX P w) P w K mg base N x (defScope st) (He.ga K x) cdv A outer s H E) (defBody st) t ∧ t { nx := fun _ H' => Q .non H', rt := Q } (L2.start N vs) H) : DOk P w K mg base (L2.CX P w) (k + 1) x ps sp := by
  obtain ⟨fd, F⟩ := D.fu
  exact ⟨D.m, D.kp, fd, F.okX S len hbody, F.binds hb⟩
/-- one that knows that no repr is under way -/
theorem DefIn.okG (D : DefIn K mg x st) (S : FnScope N ps (defScope st)) (len : ∀ vs H Q E, sp vs H Q E → vs.length = ps.length)
    (hb : ∀ (kV doc pm : Value) (an : Option Addr) (cdv ct : Value) (us : List Value), us.length = ps.length → bindArgs (PySem.W.fnOf x x (defArgs st) (defBody st) (defScope st) .none kV doc pm an cdv ct) ⟨us, []⟩ = pure (ps.zip us))
    (hbody : ∀ (cdv : Value) (A : Around) (outer : List Env) (s : Shared) (H : Hp) (vs : List V) (Q : VK) (E : XK), PySem.W.codeIn K cdv x = true → A.guards = some [] → Room k (A.deeper (envOfC x (defScope st) s.heap.objs.size (He.ga K x) cdv)) → sp vs H Q E →
      ∃ t, PSs (cxOf CX0 P w K mg base N x (defScope st) (He.ga K x) cdv A outer s H E).nox (defBody st) t ∧ t { nx := fun _ H' => Q .non H', rt := Q } (L2.start N vs) H) : GOk P w K mg base CX0 (k + 1) x ps sp := by
  obtain ⟨fd, F⟩ := D.fu
  refine ⟨D.m, D.kp, fd, Kr.Fun.okG F S len (fun cdv A outer s H vs Q E hc _ hg hr h => hbody cdv A outer s H vs Q E hc hg hr h), F.binds hb⟩
end
end Kr

set_option Elab.async false
set_option linter.all false
set_option maxRecDepth 100000
set_option maxHeartbeats 2000000
/-! The mathematics: facts, what they say of one place, maps that keep rests. No program here. -/
namespace Kr

/-! ### divisors of twelve -/
def D12 (b : Int) : Prop := 0 < b ∧ b ∣ 12
theorem D12.le {b : Int} (h : D12 b) : b ≤ 12 := Int.le_of_dvd (by decide) h.2
theorem D12.mem {b : Int} (h : D12 b) : b = 1 ∨ b = 2 ∨ b = 3 ∨ b = 4 ∨ b = 6 ∨ b = 12 := by
  obtain ⟨h1, k, hk⟩ := h
  have h2 : b ≤ 12 := D12.le ⟨h1, k, hk⟩
  have hb : b = 1 ∨ b = 2 ∨ b = 3 ∨ b = 4 ∨ b = 5 ∨ b = 6 ∨ b = 7 ∨ b = 8 ∨ b = 9 ∨ b = 10 ∨ b = 11 ∨ b = 12 := by omega
  rcases hb with rfl | rfl | rfl | rfl | rfl | rfl | rfl | rfl | rfl | rfl | rfl | rfl <;> omega
theorem D12.of_dvd {a b : Int} (ha : 0 < a) (h : a ∣ b) (hb : D12 b) : D12 a := ⟨ha, Int.dvd_trans h hb.2⟩
theorem D12.one : D12 1 := ⟨by decide, by decide⟩
abbrev ds : List Nat := [1, 2, 3, 4, 6, 12]
theorem D12.nat {b : Int} (h : D12 b) : ∃ n : Nat, n ∈ ds ∧ b = n := by
  rcases h.mem with rfl | rfl | rfl | rfl | rfl | rfl
  · exact ⟨1, by decide, rfl⟩
  · exact ⟨2, by decide, rfl⟩
  · exact ⟨3, by decide, rfl⟩
  · exact ⟨4, by decide, rfl⟩
  · exact ⟨6, by decide, rfl⟩
  · exact ⟨12, by decide, rfl⟩
theorem D12.lcm {a b : Int} (ha : D12 a) (hb : D12 b) : D12 (Int.lcm a b) := by
  refine ⟨?_, ?_⟩
  · obtain ⟨m, hm, rfl⟩ := ha.nat
    obtain ⟨n, hn, rfl⟩ := hb.nat
    have : 0 < Nat.lcm m n := Nat.lcm_pos (by have := ha.1; omega) (by have := hb.1; omega)
    show (0 : Int) < ((Nat.lcm m n : Nat) : Int)
    omega
  · exact Int.coe_lcm_dvd ha.2 hb.2
theorem D12.gcd {a b : Int} (ha : D12 a) : D12 (Int.gcd a b) := by
  refine D12.of_dvd ?_ (Int.gcd_dvd_left a b) ha
  have : Int.gcd a b ≠ 0 := fun h => by
    have := (Int.gcd_eq_zero_iff.mp h).1
    have := ha.1
    omega
  omega

/-! ### two rests met -/
/-- the extended division, with a bound on its turns -/
def invL : Nat → Int → Int → Int → Int → Option Int
  | 0, _, _, _, _ => none
  | n + 1, one, other, first, second => if 0 < other then invL n other (one - one / other * other) second (first - one / other * second) else some first
def metC (b m r s : Int) : Option Int := do
  let sh : Int := Int.gcd b m
  let f ← invL 20 (m / sh) (b / sh % (m / sh)) 0 1
  some ((r + b * ((s - r) / sh * (f % (m / sh)) % (m / sh))) % (Int.lcm b m))
/-- the number below the least common multiple with both rests -/
def metZ (b m r s : Int) : Int := (metC b m r s).getD 0
def metOk (b m : Nat) (r s : Nat) : Bool := !decide (((s : Int) - r) % (Int.gcd b m) = 0) || ((metC b m r s).isSome && decide (0 ≤ metZ b m r s) && decide (metZ b m r s < Int.lcm b m) && decide ((metZ b m r s - r) % b = 0) && decide ((metZ b m r s - s) % m = 0))
theorem metOk_all : (ds.all fun b => ds.all fun m => (List.range b).all fun r => (List.range m).all fun s => metOk b m r s) = true := by decide +kernel
theorem met_fin {b m r s : Int} (hb : D12 b) (hm : D12 m) (r0 : 0 ≤ r) (r1 : r < b) (s0 : 0 ≤ s) (s1 : s < m) (h : (Int.gcd b m : Int) ∣ s - r) :
    metC b m r s = some (metZ b m r s) ∧ 0 ≤ metZ b m r s ∧ metZ b m r s < Int.lcm b m ∧ b ∣ metZ b m r s - r ∧ m ∣ metZ b m r s - s := by
  obtain ⟨b', hb', rfl⟩ := hb.nat
  obtain ⟨m', hm', rfl⟩ := hm.nat
  obtain ⟨r', rfl⟩ := Int.eq_ofNat_of_zero_le r0
  obtain ⟨s', rfl⟩ := Int.eq_ofNat_of_zero_le s0
  have a1 := List.all_eq_true.mp metOk_all b' hb'
  have a2 := List.all_eq_true.mp a1 m' hm'
  have a3 := List.all_eq_true.mp a2 r' (List.mem_range.mpr (by omega))
  have a4 := List.all_eq_true.mp a3 s' (List.mem_range.mpr (by omega))
  unfold metOk at a4
  rw [Bool.or_eq_true] at a4
  rcases a4 with a4 | a4
  · have := Int.dvd_iff_emod_eq_zero.mp h
    have this' : ((s' : Int) - r') % ((Nat.gcd b' m' : Nat) : Int) = 0 := this
    rw [Bool.not_eq_true', decide_eq_false_iff_not] at a4
    exact absurd this' a4
  · simp only [Bool.and_eq_true, decide_eq_true_eq] at a4
    obtain ⟨⟨⟨⟨h1, h2⟩, h3⟩, h4⟩, h5⟩ := a4
    refine ⟨?_, h2, h3, Int.dvd_iff_emod_eq_zero.mpr h4, Int.dvd_iff_emod_eq_zero.mpr h5⟩
    unfold metZ
    cases e : metC (b' : Int) (m' : Int) (r' : Int) (s' : Int) with
    | none =>
      rw [e] at h1
      cases h1
    | some v => rfl
/-- how the number is come by -/
theorem met_calc {b m r t : Int} (hb : D12 b) (hm : D12 m) (r0 : 0 ≤ r) (r1 : r < b) (t0 : 0 ≤ t) (t1 : t < m) (h : (Int.gcd b m : Int) ∣ t - r) :
    ∃ f : Int, 1 ≤ m / (Int.gcd b m) ∧ m / (Int.gcd b m) ≤ 12 ∧ invL 20 (m / (Int.gcd b m)) (b / (Int.gcd b m) % (m / (Int.gcd b m))) 0 1 = some f ∧
      (r + b * ((t - r) / (Int.gcd b m) * (f % (m / (Int.gcd b m))) % (m / (Int.gcd b m)))) % (Int.lcm b m) = metZ b m r t := by
  obtain ⟨mc, _⟩ := met_fin hb hm r0 r1 t0 t1 h
  have m0 := hm.1
  have m1 := hm.le
  have g0 := (hb.gcd (b := m)).1
  have gd : (Int.gcd b m : Int) ∣ m := Int.gcd_dvd_right _ _
  have e0 : 0 < m / (Int.gcd b m : Int) := Int.ediv_pos_of_pos_of_dvd m0 (Int.le_of_lt g0) gd
  have e1 := Int.ediv_le_self (Int.gcd b m : Int) (show 0 ≤ m by omega)
  have mc' : (invL 20 (m / (Int.gcd b m)) (b / (Int.gcd b m) % (m / (Int.gcd b m))) 0 1).bind (fun f => some ((r + b * ((t - r) / (Int.gcd b m) * (f % (m / (Int.gcd b m))) % (m / (Int.gcd b m)))) % (Int.lcm b m))) = some (metZ b m r t) := mc
  cases hf : invL 20 (m / (Int.gcd b m : Int)) (b / (Int.gcd b m) % (m / (Int.gcd b m))) 0 1 with
  | none =>
    rw [hf] at mc'
    cases mc'
  | some f =>
    rw [hf] at mc'
    exact ⟨f, by omega, by omega, rfl, Option.some.inj mc'⟩
def distOk (a b c : Nat) : Bool := decide (Nat.gcd (Nat.lcm a b) c ∣ Nat.lcm (Nat.gcd a c) (Nat.gcd b c))
theorem distOk_all : (ds.all fun a => ds.all fun b => ds.all fun c => distOk a b c) = true := by decide +kernel
theorem dist {a b c z : Int} (ha : D12 a) (hb : D12 b) (hc : D12 c) (h1 : (Int.gcd a c : Int) ∣ z) (h2 : (Int.gcd b c : Int) ∣ z) : (Int.gcd (Int.lcm a b) c : Int) ∣ z := by
  obtain ⟨a', ha', rfl⟩ := ha.nat
  obtain ⟨b', hb', rfl⟩ := hb.nat
  obtain ⟨c', hc', rfl⟩ := hc.nat
  have d := of_decide_eq_true (List.all_eq_true.mp (List.all_eq_true.mp (List.all_eq_true.mp distOk_all a' ha') b' hb') c' hc')
  have d' : ((Nat.gcd (Nat.lcm a' b') c' : Nat) : Int) ∣ ((Nat.lcm (Nat.gcd a' c') (Nat.gcd b' c') : Nat) : Int) := Int.natCast_dvd_natCast.mpr d
  exact Int.dvd_trans d' (Int.coe_lcm_dvd h1 h2)

/-! ### facts -/
structure Fct where
  s : Int
  l : Int
  p : Int
deriving DecidableEq, Repr
/-- whether two facts quarrel -/
def quar (f g : Fct) : Bool := !decide ((Int.gcd (Int.gcd f.p g.p) (f.s - g.s) : Int) ∣ f.l - g.l)
def Comp (F : List Fct) : Prop := F.Pairwise fun f g => quar f g = false
theorem quar_no {f g : Fct} : quar f g = false ↔ (Int.gcd (Int.gcd f.p g.p) (f.s - g.s) : Int) ∣ f.l - g.l := by
  unfold quar
  simp
/-- the part of a fact that a place feels -/
def cof (f : Fct) (x : Int) : Int := Int.gcd f.p (x - f.s)
theorem cof_p (f : Fct) (x : Int) : cof f x ∣ f.p := Int.gcd_dvd_left _ _
theorem cof_s (f : Fct) (x : Int) : cof f x ∣ x - f.s := Int.gcd_dvd_right _ _
theorem cof_d {f : Fct} (h : D12 f.p) (x : Int) : D12 (cof f x) := h.gcd
def knownStep (x : Int) (a : Int × Int) (f : Fct) : Int × Int := (metZ a.2 (cof f x) a.1 (f.l % cof f x), Int.lcm a.2 (cof f x))
def knownOf (F : List Fct) (x : Int) : Int × Int := F.foldl (knownStep x) (0, 1)
/-- what is so of what is known -/
structure KI (F : List Fct) (x : Int) (a : Int × Int) : Prop where
  d : D12 a.2
  lo : 0 ≤ a.1
  hi : a.1 < a.2
  has : ∀ f ∈ F, cof f x ∣ a.1 - f.l
  up : ∀ f ∈ F, cof f x ∣ a.2
  least : ∀ N : Int, (∀ f ∈ F, cof f x ∣ N) → a.2 ∣ N
  open_ : ∀ c l : Int, D12 c → (∀ f ∈ F, (Int.gcd (cof f x) c : Int) ∣ f.l - l) → (Int.gcd a.2 c : Int) ∣ a.1 - l
theorem KI.nil (x : Int) : KI [] x (0, 1) :=
  ⟨D12.one, by decide, by decide, fun f h => absurd h (by simp), fun f h => absurd h (by simp), fun N _ => Int.one_dvd N, fun c l _ _ => by
    show (Int.gcd 1 c : Int) ∣ _
    rw [Int.one_gcd]
    exact Int.one_dvd _⟩
theorem Comp.snoc {F : List Fct} {g : Fct} : Comp (F ++ [g]) ↔ Comp F ∧ ∀ f ∈ F, quar f g = false := by
  unfold Comp
  rw [List.pairwise_append]
  simp
theorem dvd_move {d a b c : Int} (h : d ∣ a - b) (h2 : d ∣ b - c) : d ∣ a - c := by
  have := Int.dvd_add h h2
  have e : a - b + (b - c) = a - c := by omega
  rw [e] at this
  exact this
theorem dvd_swap {d a b : Int} (h : d ∣ a - b) : d ∣ b - a := by
  have := Int.dvd_neg.mpr h
  have e : -(a - b) = b - a := by omega
  rw [e] at this
  exact this
/-- two facts that do not quarrel agree at a place by what both feel -/
theorem agree_at {f g : Fct} (h : quar f g = false) (x : Int) {d : Int} (h1 : d ∣ cof f x) (h2 : d ∣ cof g x) : d ∣ f.l - g.l := by
  refine Int.dvd_trans ?_ (quar_no.mp h)
  refine Int.dvd_coe_gcd (Int.dvd_coe_gcd (Int.dvd_trans h1 (cof_p f x)) (Int.dvd_trans h2 (cof_p g x))) ?_
  have a := Int.dvd_trans h1 (cof_s f x)
  have b := Int.dvd_trans h2 (cof_s g x)
  have := Int.dvd_sub b a
  have e : x - g.s - (x - f.s) = f.s - g.s := by omega
  rw [e] at this
  exact this
/-- what met asks -/
theorem KI.meets {F : List Fct} {x : Int} {a : Int × Int} {g : Fct} (k : KI F x a) (hg : D12 g.p) (hq : ∀ f ∈ F, quar f g = false) : (Int.gcd a.2 (cof g x) : Int) ∣ g.l % cof g x - a.1 := by
  have h := k.open_ (cof g x) g.l (cof_d hg x) fun f hf => agree_at (hq f hf) x (Int.gcd_dvd_left _ _) (Int.gcd_dvd_right _ _)
  refine dvd_move ?_ (dvd_swap h)
  refine Int.dvd_trans (Int.gcd_dvd_right _ _) (dvd_swap ?_)
  exact Int.dvd_self_sub_emod
theorem KI.step {F : List Fct} {x : Int} {a : Int × Int} {g : Fct} (k : KI F x a) (hg : D12 g.p) (hq : ∀ f ∈ F, quar f g = false) : KI (F ++ [g]) x (knownStep x a g) := by
  have hc := cof_d hg x
  obtain ⟨_, m0, m1, m2, m3⟩ := met_fin k.d hc k.lo k.hi (Int.emod_nonneg _ (by have := hc.1; omega)) (Int.emod_lt_of_pos _ hc.1) (k.meets hg hq)
  have m4 : cof g x ∣ (knownStep x a g).1 - g.l := dvd_move m3 (dvd_swap Int.dvd_self_sub_emod)
  refine ⟨k.d.lcm hc, m0, m1, fun f hf => ?_, fun f hf => ?_, fun N h => ?_, fun c l hd h => ?_⟩
  · rcases List.mem_append.mp hf with hf | hf
    · exact dvd_move (Int.dvd_trans (k.up f hf) m2) (k.has f hf)
    · rw [List.mem_singleton.mp hf]
      exact m4
  · rcases List.mem_append.mp hf with hf | hf
    · exact Int.dvd_trans (k.up f hf) (Int.dvd_lcm_left _ _)
    · rw [List.mem_singleton.mp hf]
      exact Int.dvd_lcm_right _ _
  · exact Int.coe_lcm_dvd (k.least N fun f hf => h f (List.mem_append_left _ hf)) (h g (by simp))
  · have h1 := k.open_ c l hd fun f hf => h f (List.mem_append_left _ hf)
    have h2 := h g (by simp)
    refine dist k.d hc hd (dvd_move (Int.dvd_trans (Int.gcd_dvd_left _ _) m2) h1) (dvd_move (Int.dvd_trans (Int.gcd_dvd_left _ _) m4) h2)
def Parts (F : List Fct) : Prop := ∀ f ∈ F, D12 f.p
theorem known_ki {x : Int} : ∀ (G F : List Fct) (a : Int × Int), KI F x a → Parts G → Comp (F ++ G) → KI (F ++ G) x (G.foldl (knownStep x) a)
  | [], F, a, k, _, _ => by simpa using k
  | g :: G, F, a, k, hp, hc => by
    have e : F ++ g :: G = (F ++ [g]) ++ G := by simp
    rw [e] at hc ⊢
    have hq : ∀ f ∈ F, quar f g = false := (Comp.snoc.mp (List.Pairwise.sublist (List.sublist_append_left _ _) hc)).2
    exact known_ki G (F ++ [g]) _ (k.step (hp g (by simp)) hq) (fun f hf => hp f (by simp [hf])) hc
theorem known_of {F : List Fct} (hp : Parts F) (hc : Comp F) (x : Int) : KI F x (knownOf F x) := by
  exact known_ki F [] (0, 1) (KI.nil x) hp hc

/-! ### maps -/
def okV (n : Nat) (h : List Int) (x : Nat) (v : Int) : Bool := (List.range x).all fun y => decide ((v - h.getD y 0) % (Int.gcd n ((x : Int) - y) : Int) = 0)
def mapsUp (n : Nat) : Nat → List (List Int)
  | 0 => [[]]
  | x + 1 => (mapsUp n x).flatMap fun h => (((List.range n).map fun v : Nat => (v : Int)).filter (okV n h x)).map fun v => h ++ [v]
def maps (n : Nat) : List (List Int) := mapsUp n n
def Base (n : Nat) : Prop := n = 2 ∨ n = 3 ∨ n = 4 ∨ n = 6
theorem Base.d {n : Nat} (h : Base n) : D12 n := by
  rcases h with rfl | rfl | rfl | rfl <;> exact ⟨by decide, by decide⟩
theorem Base.pos {n : Nat} (h : Base n) : 0 < n := by
  rcases h with rfl | rfl | rfl | rfl <;> decide
/-- the value of a map at any place -/
def valAt (m : List Int) (x : Int) : Int := m.getD (x % (m.length : Int)).toNat 0
structure IsMap (n : Nat) (m : List Int) : Prop where
  len : m.length = n
  lo : ∀ x, x < n → 0 ≤ m.getD x 0
  hi : ∀ x, x < n → m.getD x 0 < n
  keeps : ∀ y x, y < x → x < n → (Int.gcd n ((x : Int) - y) : Int) ∣ m.getD x 0 - m.getD y 0
def isMapB (n : Nat) (m : List Int) : Bool := decide (m.length = n) && ((List.range n).all fun x => decide (0 ≤ m.getD x 0) && decide (m.getD x 0 < n) && (List.range x).all fun y => decide ((m.getD x 0 - m.getD y 0) % (Int.gcd n ((x : Int) - y) : Int) = 0))
theorem isMapB_ok {n : Nat} {m : List Int} (h : isMapB n m = true) : IsMap n m := by
  unfold isMapB at h
  simp only [Bool.and_eq_true, decide_eq_true_eq, List.all_eq_true, List.mem_range] at h
  obtain ⟨h1, h2⟩ := h
  exact ⟨h1, fun x hx => (h2 x hx).1.1, fun x hx => (h2 x hx).1.2, fun y x hy hx => Int.dvd_iff_emod_eq_zero.mpr ((h2 x hx).2 y hy)⟩
theorem maps_is {n : Nat} (hn : Base n) {m : List Int} (h : m ∈ maps n) : IsMap n m := by
  refine isMapB_ok ?_
  rcases hn with rfl | rfl | rfl | rfl
  · exact List.all_eq_true.mp (show (maps 2).all (isMapB 2) = true by decide +kernel) m h
  · exact List.all_eq_true.mp (show (maps 3).all (isMapB 3) = true by decide +kernel) m h
  · exact List.all_eq_true.mp (show (maps 4).all (isMapB 4) = true by decide +kernel) m h
  · exact List.all_eq_true.mp (show (maps 6).all (isMapB 6) = true by decide +kernel) m h
theorem IsMap.at {n : Nat} (hn : Base n) {m : List Int} (h : IsMap n m) (x : Int) : 0 ≤ valAt m x ∧ valAt m x < n := by
  unfold valAt
  rw [h.len]
  have hp := hn.pos
  have h1 := Int.emod_nonneg x (show (n : Int) ≠ 0 by omega)
  have h2 := Int.emod_lt_of_pos x (show (0 : Int) < n by omega)
  exact ⟨h.lo _ (by omega), h.hi _ (by omega)⟩
theorem IsMap.per {n : Nat} (hn : Base n) {m : List Int} (h : IsMap n m) (x y : Int) {d : Int} (d1 : d ∣ n) (d2 : d ∣ x - y) : d ∣ valAt m x - valAt m y := by
  unfold valAt
  rw [h.len]
  have hp := hn.pos
  have x1 := Int.emod_nonneg x (show (n : Int) ≠ 0 by omega)
  have x2 := Int.emod_lt_of_pos x (show (0 : Int) < n by omega)
  have y1 := Int.emod_nonneg y (show (n : Int) ≠ 0 by omega)
  have y2 := Int.emod_lt_of_pos y (show (0 : Int) < n by omega)
  have e : d ∣ x % n - y % n := by
    have a : d ∣ x - x % n := Int.dvd_trans d1 Int.dvd_self_sub_emod
    have b : d ∣ y - y % n := Int.dvd_trans d1 Int.dvd_self_sub_emod
    exact dvd_move (dvd_swap a) (dvd_move d2 b)
  rcases Nat.lt_trichotomy (x % (n : Int)).toNat (y % (n : Int)).toNat with q | q | q
  · refine dvd_swap (Int.dvd_trans (Int.dvd_coe_gcd d1 ?_) (h.keeps _ _ q (by omega)))
    have e1 : (((y % (n : Int)).toNat : Nat) : Int) = y % n := by omega
    have e2 : (((x % (n : Int)).toNat : Nat) : Int) = x % n := by omega
    rw [e1, e2]
    exact dvd_swap e
  · rw [q, Int.sub_self]
    exact Int.dvd_zero _
  · refine Int.dvd_trans (Int.dvd_coe_gcd d1 ?_) (h.keeps _ _ q (by omega))
    have e1 : (((y % (n : Int)).toNat : Nat) : Int) = y % n := by omega
    have e2 : (((x % (n : Int)).toNat : Nat) : Int) = x % n := by omega
    rw [e1, e2]
    exact e
/-- whether a map has a fact -/
def fits1 (m : List Int) (f : Fct) : Bool := decide ((valAt m f.s - f.l) % f.p = 0)
def fitsAll (F : List Fct) (m : List Int) : Bool := F.all (fits1 m)
theorem fits1_iff {m : List Int} {f : Fct} : fits1 m f = true ↔ f.p ∣ valAt m f.s - f.l := by
  unfold fits1
  rw [decide_eq_true_eq, Int.dvd_iff_emod_eq_zero]
def By (n : Nat) (F : List Fct) : Prop := ∀ f ∈ F, 0 < f.p ∧ f.p ∣ (n : Int)
theorem By.parts {n : Nat} {F : List Fct} (hn : Base n) (h : By n F) : Parts F := fun f hf => D12.of_dvd (h f hf).1 (h f hf).2 hn.d
/-- facts that a map has do not quarrel -/
theorem fits_comp {n : Nat} (hn : Base n) {m : List Int} (hm : IsMap n m) {F : List Fct} (hb : By n F) (h : fitsAll F m = true) : Comp F := by
  refine List.Pairwise.imp_of_mem (R := fun _ _ => True) (fun {f g} hf hg _ => ?_) (List.pairwise_of_forall (fun _ _ => True.intro))
  have h1 := fits1_iff.mp (List.all_eq_true.mp h f hf)
  have h2 := fits1_iff.mp (List.all_eq_true.mp h g hg)
  refine quar_no.mpr ?_
  have d1 : (Int.gcd (Int.gcd f.p g.p) (f.s - g.s) : Int) ∣ f.p := Int.dvd_trans (Int.gcd_dvd_left _ _) (Int.gcd_dvd_left _ _)
  have d2 : (Int.gcd (Int.gcd f.p g.p) (f.s - g.s) : Int) ∣ g.p := Int.dvd_trans (Int.gcd_dvd_left _ _) (Int.gcd_dvd_right _ _)
  have d3 := hm.per hn f.s g.s (Int.dvd_trans d1 (hb f hf).2) (Int.gcd_dvd_right _ _)
  exact dvd_move (dvd_swap (Int.dvd_trans d1 h1)) (dvd_move d3 (Int.dvd_trans d2 h2))
def factsOf (n : Nat) (h : List Int) : List Fct := (List.range h.length).map fun y : Nat => (⟨(y : Int), h.getD y 0, (n : Int)⟩ : Fct)
theorem factsOf_snoc (n : Nat) (h : List Int) (v : Int) : factsOf n (h ++ [v]) = factsOf n h ++ [⟨h.length, v, n⟩] := by
  unfold factsOf
  rw [List.length_append, List.length_singleton, List.range_succ, List.map_append]
  congr 1
  · refine List.map_congr_left fun y hy => ?_
    have hy' := List.mem_range.mp hy
    have e : (h ++ [v]).getD y 0 = h.getD y 0 := by
      rw [List.getD_eq_getElem?_getD, List.getD_eq_getElem?_getD, List.getElem?_append_left hy']
    rw [e]
  · simp [List.getD_eq_getElem?_getD]
theorem mem_factsOf {n : Nat} {h : List Int} {y : Nat} (hy : y < h.length) : (⟨y, h.getD y 0, n⟩ : Fct) ∈ factsOf n h := List.mem_map.mpr ⟨y, List.mem_range.mpr hy, rfl⟩
theorem quar_swap {f g : Fct} (h : (Int.gcd (Int.gcd f.p g.p) (f.s - g.s) : Int) ∣ g.l - f.l) : quar f g = false := quar_no.mpr (dvd_swap h)
/-- facts that do not quarrel are those of some map: place by place -/
theorem build {n : Nat} (hn : Base n) {F : List Fct} (hb : By n F) (hc : Comp F) : ∀ x, x ≤ n → ∃ h, h ∈ mapsUp n x ∧ h.length = x ∧ Comp (F ++ factsOf n h)
  | 0, _ => ⟨[], by simp [mapsUp], rfl, by simpa [factsOf] using hc⟩
  | x + 1, hx => by
    obtain ⟨h, hm, hl, hch⟩ := build hn hb hc x (by omega)
    have hpL : ∀ f ∈ F ++ factsOf n h, 0 < f.p ∧ f.p ∣ (n : Int) := fun f hf => by
      rcases List.mem_append.mp hf with hf | hf
      · exact hb f hf
      · obtain ⟨y, _, rfl⟩ := List.mem_map.mp hf
        exact ⟨by have := hn.pos; show (0 : Int) < n; omega, Int.dvd_refl _⟩
    have k := known_of (By.parts hn hpL) hch x
    have hM : (knownOf (F ++ factsOf n h) x).2 ∣ (n : Int) := k.least n fun f hf => Int.dvd_trans (cof_p f x) (hpL f hf).2
    have hMn : (knownOf (F ++ factsOf n h) x).2 ≤ n := Int.le_of_dvd (by have := hn.pos; omega) hM
    generalize hz : (knownOf (F ++ factsOf n h) x).1 = z at *
    have z0 : 0 ≤ z := hz ▸ k.lo
    have z1 : z < n := by
      have := k.hi
      omega
    have khas : ∀ f ∈ F ++ factsOf n h, cof f x ∣ z - f.l := fun f hf => hz ▸ k.has f hf
    refine ⟨h ++ [z], ?_, by simp [hl], ?_⟩
    · show h ++ [z] ∈ (mapsUp n x).flatMap _
      refine List.mem_flatMap.mpr ⟨h, hm, List.mem_map.mpr ⟨z, List.mem_filter.mpr ⟨?_, ?_⟩, rfl⟩⟩
      · exact List.mem_map.mpr ⟨z.toNat, List.mem_range.mpr (by omega), by omega⟩
      · unfold okV
        refine List.all_eq_true.mpr fun y hy => decide_eq_true ?_
        have hy' := List.mem_range.mp hy
        exact Int.dvd_iff_emod_eq_zero.mp (khas _ (List.mem_append_right _ (mem_factsOf (by omega))))
    · rw [factsOf_snoc, ← List.append_assoc, Comp.snoc]
      refine ⟨hch, fun f hf => quar_swap ?_⟩
      refine Int.dvd_trans ?_ (khas f hf)
      refine Int.dvd_coe_gcd (Int.dvd_trans (Int.gcd_dvd_left _ _) (Int.gcd_dvd_left _ _)) ?_
      have d := Int.gcd_dvd_right (Int.gcd f.p n : Int) (f.s - (h.length : Int))
      rw [hl] at d ⊢
      exact dvd_swap d
theorem comp_fits {n : Nat} (hn : Base n) {F : List Fct} (hb : By n F) (hc : Comp F) : ∃ m ∈ maps n, fitsAll F m = true := by
  obtain ⟨m, hm, hl, hch⟩ := build hn hb hc n (Nat.le_refl n)
  refine ⟨m, hm, List.all_eq_true.mpr fun f hf => fits1_iff.mpr ?_⟩
  have hp := hn.pos
  have y1 := Int.emod_nonneg f.s (show (n : Int) ≠ 0 by omega)
  have y2 := Int.emod_lt_of_pos f.s (show (0 : Int) < n by omega)
  have hq := (List.pairwise_append.mp hch).2.2 f hf _ (mem_factsOf (n := n) (h := m) (y := (f.s % (n : Int)).toNat) (by omega))
  have d := quar_no.mp hq
  unfold valAt
  rw [hl]
  refine dvd_swap (Int.dvd_trans (Int.dvd_coe_gcd (Int.dvd_coe_gcd (Int.dvd_refl _) (hb f hf).2) ?_) d)
  have e1 : (((f.s % (n : Int)).toNat : Nat) : Int) = f.s % n := by omega
  show f.p ∣ f.s - _
  rw [e1]
  exact Int.dvd_trans (hb f hf).2 Int.dvd_self_sub_emod
/-- the maps that have all facts -/
def fitting (n : Nat) (F : List Fct) : List (List Int) := (maps n).filter (fitsAll F)
theorem fitting_nil {n : Nat} (hn : Base n) {F : List Fct} (hb : By n F) : fitting n F = [] ↔ ¬ Comp F := by
  constructor
  · intro h hc
    obtain ⟨m, hm, hf⟩ := comp_fits hn hb hc
    have : m ∈ fitting n F := List.mem_filter.mpr ⟨hm, hf⟩
    rw [h] at this
    cases this
  · intro h
    refine List.filter_eq_nil_iff.mpr fun m hm hf => h ?_
    exact fits_comp hn (maps_is hn hm) hb hf
/-! ### what all maps that fit have at a place -/
theorem vals_iff {n : Nat} (hn : Base n) {F : List Fct} (hb : By n F) (hc : Comp F) (x v : Int) : v ∈ (fitting n F).map (valAt · x) ↔ (0 ≤ v ∧ v < n ∧ (knownOf F x).2 ∣ v - (knownOf F x).1) := by
  have k := known_of (By.parts hn hb) hc x
  constructor
  · intro h
    obtain ⟨m, hm, rfl⟩ := List.mem_map.mp h
    obtain ⟨h1, h2⟩ := List.mem_filter.mp hm
    have im := maps_is hn h1
    obtain ⟨a, b⟩ := im.at hn x
    refine ⟨a, b, ?_⟩
    refine k.least _ fun f hf => ?_
    have hf1 := fits1_iff.mp (List.all_eq_true.mp h2 f hf)
    have d1 := im.per hn x f.s (Int.dvd_trans (cof_p f x) (hb f hf).2) (cof_s f x)
    exact dvd_move d1 (dvd_move (Int.dvd_trans (cof_p f x) hf1) (dvd_swap (k.has f hf)))
  · rintro ⟨v0, v1, hd⟩
    have hb' : By n (F ++ [⟨x, v, n⟩]) := fun f hf => by
      rcases List.mem_append.mp hf with hf | hf
      · exact hb f hf
      · rw [List.mem_singleton.mp hf]
        exact ⟨by have := hn.pos; show (0 : Int) < n; omega, Int.dvd_refl _⟩
    have hc' : Comp (F ++ [⟨x, v, n⟩]) := by
      rw [Comp.snoc]
      refine ⟨hc, fun f hf => quar_swap ?_⟩
      have d0 : cof f x ∣ v - f.l := dvd_move (Int.dvd_trans (k.up f hf) hd) (k.has f hf)
      refine Int.dvd_trans ?_ d0
      exact Int.dvd_coe_gcd (Int.dvd_trans (Int.gcd_dvd_left _ _) (Int.gcd_dvd_left _ _)) (dvd_swap (Int.gcd_dvd_right _ _))
    obtain ⟨m, hm, hf⟩ := comp_fits hn hb' hc'
    have hall := List.all_eq_true.mp hf
    refine List.mem_map.mpr ⟨m, List.mem_filter.mpr ⟨hm, List.all_eq_true.mpr fun f hf' => hall f (List.mem_append_left _ hf')⟩, ?_⟩
    have hx := fits1_iff.mp (hall ⟨x, v, n⟩ (by simp))
    obtain ⟨a, b⟩ := (maps_is hn hm).at hn x
    have hx' : (n : Int) ∣ valAt m x - v := hx
    obtain ⟨q, hq⟩ := hx'
    have hp := hn.pos
    have q0 : q = 0 := by
      rcases Int.lt_trichotomy q 0 with h | h | h
      · have : (n : Int) * q ≤ -n := by
          have := Int.mul_le_mul_of_nonneg_left (show q ≤ -1 by omega) (show (0 : Int) ≤ n by omega)
          omega
        omega
      · exact h
      · have : (n : Int) ≤ n * q := by
          have := Int.mul_le_mul_of_nonneg_left (show 1 ≤ q by omega) (show (0 : Int) ≤ n by omega)
          omega
        omega
    rw [q0, Int.mul_zero] at hq
    omega
/-- the part that the law works out: the greatest common divisor of the size and of all differences -/
def partOf (n : Nat) (vs : List Int) : Int := vs.foldl (fun a v => (Int.gcd a (v - vs.getD 0 0) : Int)) n
theorem foldl_gcd_dvd (c : Int) : ∀ (vs : List Int) (a d : Int), d ∣ a → (∀ v ∈ vs, d ∣ v - c) → d ∣ vs.foldl (fun a v => (Int.gcd a (v - c) : Int)) a
  | [], a, d, h, _ => h
  | v :: vs, a, d, h, hv => foldl_gcd_dvd c vs _ d (Int.dvd_coe_gcd h (hv v (by simp))) fun u hu => hv u (by simp [hu])
theorem foldl_gcd_div (c : Int) : ∀ (vs : List Int) (a : Int), vs.foldl (fun a v => (Int.gcd a (v - c) : Int)) a ∣ a ∧ ∀ v ∈ vs, vs.foldl (fun a v => (Int.gcd a (v - c) : Int)) a ∣ v - c
  | [], a => ⟨Int.dvd_refl _, fun v h => absurd h (by simp)⟩
  | v :: vs, a => by
    obtain ⟨h1, h2⟩ := foldl_gcd_div c vs (Int.gcd a (v - c) : Int)
    refine ⟨Int.dvd_trans h1 (Int.gcd_dvd_left _ _), fun u hu => ?_⟩
    rcases List.mem_cons.mp hu with rfl | hu
    · exact Int.dvd_trans h1 (Int.gcd_dvd_right _ _)
    · exact h2 u hu
theorem foldl_gcd_nonneg (c : Int) : ∀ (vs : List Int) (a : Int), 0 ≤ a → 0 ≤ vs.foldl (fun a v => (Int.gcd a (v - c) : Int)) a
  | [], a, h => h
  | v :: vs, a, h => foldl_gcd_nonneg c vs _ (Int.natCast_nonneg _)
theorem seen_eq {n : Nat} (hn : Base n) {F : List Fct} (hb : By n F) (hc : Comp F) (x : Int) :
    fitting n F ≠ [] ∧ partOf n ((fitting n F).map (valAt · x)) = (knownOf F x).2 ∧ ((fitting n F).map (valAt · x)).getD 0 0 % (knownOf F x).2 = (knownOf F x).1 := by
  have hne : fitting n F ≠ [] := fun e => (fitting_nil hn hb).mp e hc
  have k := known_of (By.parts hn hb) hc x
  have hv := vals_iff hn hb hc x
  have hM : (knownOf F x).2 ∣ (n : Int) := k.least n fun f hf => Int.dvd_trans (cof_p f x) (hb f hf).2
  have klo := k.lo
  have khi := k.hi
  have kd := k.d.1
  clear k
  generalize hvs : (fitting n F).map (valAt · x) = vs at *
  generalize (knownOf F x).1 = z at *
  generalize hMe : (knownOf F x).2 = M at *
  have M0 : 0 < M := kd
  cases vs with
  | nil => exact absurd (List.map_eq_nil_iff.mp hvs) hne
  | cons v0 vs =>
    have h0 := (hv v0).mp (by simp)
    refine ⟨hne, ?_, ?_⟩
    · unfold partOf
      show (v0 :: vs).foldl (fun a v => (Int.gcd a (v - v0) : Int)) n = M
      obtain ⟨g1, g2⟩ := foldl_gcd_div v0 (v0 :: vs) n
      have g3 := foldl_gcd_nonneg v0 (v0 :: vs) n (Int.natCast_nonneg _)
      have g4 := foldl_gcd_dvd v0 (v0 :: vs) n M hM fun v hm => dvd_move ((hv v).mp hm).2.2 (dvd_swap h0.2.2)
      generalize (v0 :: vs).foldl (fun a v => (Int.gcd a (v - v0) : Int)) n = g at *
      refine Int.dvd_antisymm g3 (Int.le_of_lt M0) ?_ g4
      obtain ⟨q, hq⟩ := hM
      have hp := hn.pos
      have q1 : 1 ≤ q := by
        rcases (show q < 1 ∨ 1 ≤ q by omega) with h | h
        · have := Int.mul_le_mul_of_nonneg_left (show q ≤ 0 by omega) (Int.le_of_lt M0)
          omega
        · exact h
      rcases (show q < 2 ∨ 2 ≤ q by omega) with h | h
      · have : q = 1 := by omega
        rw [this, Int.mul_one] at hq
        rw [← hq]
        exact g1
      · have h2 : 2 * M ≤ n := by
          have := Int.mul_le_mul_of_nonneg_left h (Int.le_of_lt M0)
          omega
        by_cases hup : v0 + M < n
        · have := g2 (v0 + M) ((hv (v0 + M)).mpr ⟨by omega, hup, by
            have e : v0 + M - z = M + (v0 - z) := by omega
            rw [e]
            exact Int.dvd_add (Int.dvd_refl M) h0.2.2⟩)
          have e : v0 + M - v0 = M := by omega
          rw [e] at this
          exact this
        · have := g2 (v0 - M) ((hv (v0 - M)).mpr ⟨by omega, by omega, by
            have e : v0 - M - z = (v0 - z) - M := by omega
            rw [e]
            exact Int.dvd_sub h0.2.2 (Int.dvd_refl M)⟩)
          have e : v0 - M - v0 = -M := by omega
          rw [e] at this
          exact Int.dvd_neg.mp this
    · show v0 % M = z
      have e := Int.emod_eq_emod_iff_emod_sub_eq_zero.mpr (Int.dvd_iff_emod_eq_zero.mp h0.2.2)
      rw [e]
      exact Int.emod_eq_of_lt klo khi
end Kr

set_option Elab.async false
set_option linter.all false
set_option maxRecDepth 100000
set_option maxHeartbeats 4000000
namespace Kr
open PySem PySem.Spec PyProof.Rows L2
theorem same_upd {H : Hp} {p : Addr} {o : HO} (h : H p = none) : Same H (upd H p o) := fun b x e => by
  rw [upd_ne (ne_of_none e h)]
  exact e
theorem qint {Q : VK} {a b : Int} {H : Hp} (e : a = b) (q : Q (.int b) H) : Q (.int a) H := by rw [e]; exact q
theorem ifT {c : Bool} {A B : Prop} (h : c = true) (x : A) : if c = true then A else B := by rw [if_pos h]; exact x
theorem ifF {c : Bool} {A B : Prop} (h : c = false) (x : B) : if c = true then A else B := by rw [h, if_neg Bool.false_ne_true]; exact x
theorem vint_ne {a b : Int} (h : a ≠ b) : decide (V.int a = V.int b) = false := decide_eq_false fun e => h (V.int.inj e)
theorem vint_eq {a b : Int} : decide (V.int a = V.int b) = decide (a = b) := by
  by_cases h : a = b
  · rw [h]; simp
  · rw [vint_ne h, decide_eq_false h]
section
variable {P : Program} {w : World} {K : PySem.W.Frag} {mg : Str → Option Value} {base : Heap}
theorem sc_gcd : FnScope ["one", "other"] ["one", "other"] (defScope s_gcd) := ⟨rfl, rfl, rfl, by decide +kernel, rfl, by decide +kernel, by decide +kernel⟩
/-- two ints, their gcd -/
def spGcd : Sp := fun vs H Q _ => ∃ a b : Int, vs = [.int a, .int b] ∧ Q (.int (Int.gcd a b)) H
theorem abs_eq (a : Int) : (if a < 0 then -a else a) = (a.natAbs : Int) := by
  split <;> omega
theorem gcd_abs (a b : Int) : Int.gcd (a.natAbs : Int) (b.natAbs : Int) = Int.gcd a b := rfl
theorem gcd_turn {a b : Int} (ha : 0 ≤ a) (hb : 0 < b) : Int.gcd b (a.fmod b) = Int.gcd a b := by
  rw [Int.fmod_eq_emod_of_nonneg a (Int.le_of_lt hb)]
  obtain ⟨m, rfl⟩ := Int.eq_ofNat_of_zero_le ha
  obtain ⟨n, rfl⟩ := Int.eq_ofNat_of_zero_le (Int.le_of_lt hb)
  show Nat.gcd n (m % n) = Nat.gcd m n
  rw [Nat.gcd_comm n (m % n), ← Nat.gcd_rec n m, Nat.gcd_comm]
theorem gcd_end {a b : Int} (ha : 0 ≤ a) (hb : 0 ≤ b) (h : ¬ 0 < b) : (Int.gcd a b : Int) = a := by
  have e : b = 0 := by omega
  rw [e, Int.gcd_zero]
  omega
theorem fmod_pos {a b : Int} (hb : 0 < b) : a.fmod b = a % b := Int.fmod_eq_emod_of_nonneg a (Int.le_of_lt hb)
theorem fmod_bd {a b : Int} (hb : 0 < b) : 0 ≤ a.fmod b ∧ a.fmod b < b := by
  rw [fmod_pos hb]
  exact ⟨Int.emod_nonneg _ (by omega), Int.emod_lt_of_pos _ hb⟩
theorem gcd_ok (D : DefIn K mg "gcd" s_gcd) (T : Fre mg) : DOk P w K mg base CX0 1 "gcd" ["one", "other"] spGcd := by
  refine D.ok sc_gcd (fun vs H Q E h => ?_) (fun _ _ _ _ _ _ us hl => match us, hl with | [_, _], _ => rfl) (fun cdv A outer s H vs Q E hr h => ?_)
  · obtain ⟨a, b, rfl, _⟩ := h
    rfl
  · obtain ⟨a, b, rfl, q⟩ := h
    refine ⟨_, pss_cons (ps_par (i := 0) (j := 1) rfl sc_gcd.nd rfl rfl (by decide) rfl rfl (pa_cons (pe_callB call_abs (by rfl) T.abs_ (by decide +kernel) (pa_cons (pv 0) pa_nil)) (pa_cons (pe_callB call_abs (by rfl) T.abs_ (by decide +kernel) (pa_cons (pv 1) pa_nil)) pa_nil)) (by rfl))
      (pss_cons (ps_while PassesOwn.never (pt_cmpR op_gt (pv 1) pe_int (nomark _))
        (pss_one (ps_par (i := 0) (j := 1) rfl sc_gcd.nd rfl rfl (by decide) rfl rfl (pa_cons (pv 1) (pa_cons (pe_op op_modN (pv 0) (pv 1)) pa_nil)) (by rfl))))
      (pss_one (ps_ret (pv 0)))), ?_⟩
    refine ⟨_, rfl, a, rfl, _, rfl, b, rfl, _, _, rfl, ?_⟩
    refine while_by (fun σ H1 => H1 = H ∧ ∃ x y : Int, σ = [some (.int x), some (.int y)] ∧ 0 ≤ x ∧ 0 ≤ y ∧ Int.gcd x y = Int.gcd a b) (fun σ _ => match σ with | [_, some (.int y)] => y.natAbs | _ => 0) ?_ ?_ ?_
    · refine ⟨rfl, _, _, rfl, ?_, ?_, ?_⟩
      · rw [abs_eq]; omega
      · rw [abs_eq]; omega
      · rw [abs_eq, abs_eq]; rfl
    · rintro σ H1 ⟨rfl, x, y, rfl, hx, hy, hg⟩
      refine ⟨_, rfl, _, _, rfl, rfl, _, rfl, ?_⟩
      refine ite2 (fun hb => ?_) fun hb => ?_
      · have hb' : 0 < y := by simpa using hb
        refine ⟨.int y, rfl, .int x, rfl, .int y, rfl, x, y, rfl, rfl, by omega, _, _, rfl, ?_⟩
        obtain ⟨m1, m2⟩ := fmod_bd (a := x) hb'
        refine ⟨⟨rfl, y, x.fmod y, rfl, hy, m1, (gcd_turn hx hb').trans hg⟩, ?_⟩
        show (x.fmod y).natAbs < y.natAbs
        omega
      · have hb' : ¬ 0 < y := by simpa using hb
        refine ⟨.int x, rfl, ?_⟩
        rw [← gcd_end hx hy hb', hg]
        exact q
    · rintro σ H Q Q' hq ⟨v, hv, i, j, e1, e2, k, e3, q⟩
      exact ⟨v, hv, i, j, e1, e2, k, e3, hq _ _ q⟩
theorem sc_shared : FnScope ["_law_a", "_law_b"] ["_law_a", "_law_b"] (defScope s_l_shared) := ⟨rfl, rfl, rfl, by decide +kernel, rfl, by decide +kernel, by decide +kernel⟩
theorem shared_ok (D : DefIn K mg "_law_shared" s_l_shared) (T : Fre mg) : DOk P w K mg base CX0 1 "_law_shared" ["_law_a", "_law_b"] spGcd := by
  refine D.ok sc_shared (fun vs H Q E h => ?_) (fun _ _ _ _ _ _ us hl => match us, hl with | [_, _], _ => rfl) (fun cdv A outer s H vs Q E hr h => ?_)
  · obtain ⟨a, b, rfl, _⟩ := h
    rfl
  · obtain ⟨a, b, rfl, q⟩ := h
    refine ⟨_, pss_cons (ps_par (i := 0) (j := 1) rfl sc_shared.nd rfl rfl (by decide) rfl rfl (pa_cons (pe_callB call_abs (by rfl) T.abs_ (by decide +kernel) (pa_cons (pv 0) pa_nil)) (pa_cons (pe_callB call_abs (by rfl) T.abs_ (by decide +kernel) (pa_cons (pv 1) pa_nil)) pa_nil)) (by rfl))
      (pss_cons (ps_while PassesOwn.never (pt_cmpR op_gt (pv 1) pe_int (nomark _))
        (pss_one (ps_par (i := 0) (j := 1) rfl sc_shared.nd rfl rfl (by decide) rfl rfl (pa_cons (pv 1) (pa_cons (pe_op op_modN (pe_callTy call_int1 (by rfl) T.int_ (by decide +kernel) (pa_cons (pv 0) pa_nil)) (pv 1)) pa_nil)) (by rfl))))
      (pss_one (ps_ret (pv 0)))), ?_⟩
    refine ⟨_, rfl, a, rfl, _, rfl, b, rfl, _, _, rfl, ?_⟩
    refine while_by (fun σ H1 => H1 = H ∧ ∃ x y : Int, σ = [some (.int x), some (.int y)] ∧ 0 ≤ x ∧ 0 ≤ y ∧ Int.gcd x y = Int.gcd a b) (fun σ _ => match σ with | [_, some (.int y)] => y.natAbs | _ => 0) ?_ ?_ ?_
    · refine ⟨rfl, _, _, rfl, ?_, ?_, ?_⟩
      · rw [abs_eq]; omega
      · rw [abs_eq]; omega
      · rw [abs_eq, abs_eq]; rfl
    · rintro σ H1 ⟨rfl, x, y, rfl, hx, hy, hg⟩
      refine ⟨_, rfl, _, _, rfl, rfl, _, rfl, ?_⟩
      refine ite2 (fun hb => ?_) fun hb => ?_
      · have hb' : 0 < y := by simpa using hb
        refine ⟨.int y, rfl, .int x, rfl, .inl ⟨x, rfl, .int y, rfl, x, y, rfl, rfl, by omega, _, _, rfl, ?_⟩⟩
        obtain ⟨m1, m2⟩ := fmod_bd (a := x) hb'
        refine ⟨⟨rfl, y, x.fmod y, rfl, hy, m1, (gcd_turn hx hb').trans hg⟩, ?_⟩
        show (x.fmod y).natAbs < y.natAbs
        omega
      · have hb' : ¬ 0 < y := by simpa using hb
        refine ⟨.int x, rfl, ?_⟩
        rw [← gcd_end hx hy hb', hg]
        exact q
    · rintro σ H Q Q' hq ⟨v, hv, i, j, e1, e2, k, e3, q⟩
      exact ⟨v, hv, i, j, e1, e2, k, e3, hq _ _ q⟩
theorem sc_lcm : FnScope ["one", "other"] ["one", "other"] (defScope s_lcm) := ⟨rfl, rfl, rfl, by decide +kernel, rfl, by decide +kernel, by decide +kernel⟩
def spLcm : Sp := fun vs H Q _ => ∃ a b : Int, vs = [.int a, .int b] ∧ D12 a ∧ D12 b ∧ Q (.int (Int.lcm a b)) H
theorem lcm_eq {a b : Int} (ha : D12 a) (hb : D12 b) : a / (Int.gcd a b) * b = Int.lcm a b := by
  obtain ⟨m, hm, rfl⟩ := ha.nat
  obtain ⟨n, hn, rfl⟩ := hb.nat
  show ((m : Int) / ((Nat.gcd m n : Nat) : Int)) * (n : Int) = ((m * n / Nat.gcd m n : Nat) : Int)
  rw [Nat.mul_comm m n, Nat.mul_div_assoc n (Nat.gcd_dvd_left m n), Nat.mul_comm n]
  simp
theorem lcm_ok (D : DefIn K mg "lcm" s_lcm) (T : Fre mg) (D_gcd : DOk P w K mg base CX0 1 "gcd" ["one", "other"] spGcd) : DOk P w K mg base CX0 2 "lcm" ["one", "other"] spLcm := by
  refine D.ok sc_lcm (fun vs H Q E h => ?_) (fun _ _ _ _ _ _ us hl => match us, hl with | [_, _], _ => rfl) (fun cdv A outer s H vs Q E hr h => ?_)
  · obtain ⟨a, b, rfl, _⟩ := h
    rfl
  · obtain ⟨a, b, rfl, ha, hb, q⟩ := h
    refine ⟨_, (pss_one (ps_ret (pe_ifExp (PW.pt (pw_or (pt_cmpR op_eq (pv 0) pe_int (nomark _)) (pw_or1 (pt_cmpR op_eq (pv 1) pe_int (nomark _))))) pe_int (pe_op op_mul (pe_op op_fdivN (pe_callB call_abs (by rfl) T.abs_ (by decide +kernel) (pa_cons (pv 0) pa_nil)) (pe_fn D_gcd hr (pa_cons (pv 0) (pa_cons (pv 1) pa_nil)))) (pe_callB call_abs (by rfl) T.abs_ (by decide +kernel) (pa_cons (pv 1) pa_nil)))))), ?_⟩
    have ha1 := ha.1
    have hb1 := hb.1
    have hg := (ha.gcd (b := b)).1
    have hg2 := (ha.gcd (b := b)).le
    have hl := ha.le
    refine ⟨.int a, rfl, rfl, _, rfl, ?_⟩
    refine ifF (vint_ne (by omega)) ⟨.int b, rfl, rfl, _, rfl, ?_⟩
    refine ifF (vint_ne (by omega)) ⟨.int a, rfl, a, rfl, .int a, rfl, .int b, rfl, a, b, rfl, _, _, rfl, rfl, ⟨by omega, by omega⟩, .int b, rfl, b, rfl, _, _, rfl, rfl, ?_, ?_⟩
    · have hl2 := hb.le
      refine .inr ⟨?_, ?_⟩ <;> rw [abs_eq] <;> omega
    · have e : (if a < 0 then -a else a).fdiv ((Int.gcd a b : Nat) : Int) * (if b < 0 then -b else b) = (Int.lcm a b : Int) := by
        rw [if_neg (by omega), if_neg (by omega), Int.fdiv_eq_ediv_of_nonneg _ (by omega)]
        exact lcm_eq ha hb
      exact qint e q
/-- the rest by a base from 0 on -/
def restBy (z b : Int) : Int := if b = 0 then z else z % b
theorem restBy_zero {z b : Int} : decide (restBy z b = 0) = decide (b ∣ z) := by
  unfold restBy
  by_cases h : b = 0
  · rw [if_pos h, h]
    by_cases hz : z = 0
    · rw [hz]; simp
    · rw [decide_eq_false hz, decide_eq_false fun q => hz (Int.zero_dvd.mp q)]
  · rw [if_neg h]
    by_cases hz : z % b = 0
    · rw [decide_eq_true hz, decide_eq_true (Int.dvd_iff_emod_eq_zero.mpr hz)]
    · rw [decide_eq_false hz, decide_eq_false fun q => hz (Int.dvd_iff_emod_eq_zero.mp q)]
def spRestBy : Sp := fun vs H Q _ => ∃ z b : Int, vs = [.int z, .int b] ∧ 0 ≤ b ∧ Q (.int (restBy z b)) H
theorem sc_rest_by : FnScope ["number", "base"] ["number", "base"] (defScope s_rest_by) := ⟨rfl, rfl, rfl, by decide +kernel, rfl, by decide +kernel, by decide +kernel⟩
theorem rest_by_ok (D : DefIn K mg "rest_by" s_rest_by) : DOk P w K mg base CX0 1 "rest_by" ["number", "base"] spRestBy := by
  refine D.ok sc_rest_by (fun vs H Q E h => ?_) (fun _ _ _ _ _ _ us hl => match us, hl with | [_, _], _ => rfl) (fun cdv A outer s H vs Q E hr h => ?_)
  · obtain ⟨a, b, rfl, _⟩ := h
    rfl
  · obtain ⟨z, b, rfl, hb, q⟩ := h
    refine ⟨_, (pss_one (ps_ret (pe_ifExp (pt_cmpR op_eq (pv 1) pe_int (nomark _)) (pv 0) (pe_op op_modN (pv 0) (pv 1))))), ?_⟩
    refine ⟨.int b, rfl, rfl, _, rfl, ?_⟩
    by_cases h0 : b = 0
    · refine ifT (by rw [h0]; simp) ⟨.int z, rfl, ?_⟩
      unfold restBy at q
      rw [if_pos h0] at q
      exact q
    · refine ifF (vint_ne h0) ⟨.int z, rfl, .int b, rfl, z, b, rfl, rfl, h0, ?_⟩
      unfold restBy at q
      rw [if_neg h0] at q
      show Q (.int (z.fmod b)) H
      rw [fmod_pos (by omega)]
      exact q
def spAgree : Sp := fun vs H Q _ => ∃ x y b : Int, vs = [.int x, .int y, .int b] ∧ 0 ≤ b ∧ Q (.bl (decide (b ∣ x - y))) H
theorem sc_agree : FnScope ["one", "other", "base"] ["one", "other", "base"] (defScope s_agree) := ⟨rfl, rfl, rfl, by decide +kernel, rfl, by decide +kernel, by decide +kernel⟩
theorem agree_ok (D : DefIn K mg "agree" s_agree) (D_rest_by : DOk P w K mg base CX0 1 "rest_by" ["number", "base"] spRestBy) : DOk P w K mg base CX0 2 "agree" ["one", "other", "base"] spAgree := by
  refine D.ok sc_agree (fun vs H Q E h => ?_) (fun _ _ _ _ _ _ us hl => match us, hl with | [_, _, _], _ => rfl) (fun cdv A outer s H vs Q E hr h => ?_)
  · obtain ⟨_, _, _, rfl, _⟩ := h
    rfl
  · obtain ⟨x, y, b, rfl, hb, q⟩ := h
    refine ⟨_, (pss_one (ps_ret (pe_cmpR op_eq (pe_fn D_rest_by hr (pa_cons (pe_op op_sub (pv 0) (pv 1)) (pa_cons (pv 2) pa_nil))) pe_int (nomark _)))), ?_⟩
    refine ⟨.int x, rfl, .int y, rfl, x, y, rfl, rfl, .int b, rfl, x - y, b, rfl, hb, rfl, ?_⟩
    show Q (.bl (decide (V.int (restBy (x - y) b) = V.int 0))) H
    rw [vint_eq, restBy_zero]
    exact q
def spInv : Sp := fun vs H Q _ => ∃ n b f : Int, vs = [.int n, .int b] ∧ 1 ≤ b ∧ b ≤ 12 ∧ invL 20 b (n % b) 0 1 = some f ∧ ∀ H', Same H H' → Q (.int (f % b)) H'
theorem sc_inverse : FnScope ["number", "base", "one", "other", "first", "second", "times"] ["number", "base"] (defScope s_inverse) := ⟨rfl, rfl, rfl, by decide +kernel, rfl, by decide +kernel, by decide +kernel⟩
theorem inverse_ok (D : DefIn K mg "inverse" s_inverse) : DOk P w K mg base CX0 1 "inverse" ["number", "base"] spInv := by
  refine D.ok sc_inverse (fun vs H Q E h => ?_) (fun _ _ _ _ _ _ us hl => match us, hl with | [_, _], _ => rfl) (fun cdv A outer s H vs Q E hr h => ?_)
  · obtain ⟨_, _, _, rfl, _⟩ := h
    rfl
  · obtain ⟨n, b, f, rfl, hb1, hb2, hf, q⟩ := h
    refine ⟨_, (pss_cons (ps_asg (pe_tup (pa_cons (pv 1) (pa_cons (pe_op op_modN (pv 0) (pv 1)) (pa_cons pe_int (pa_cons pe_int pa_nil))))) (pg_tup rfl (pgs_cons (pg_name (i := 2) sc_inverse.nd rfl (.inl rfl)) (pgs_cons (pg_name (i := 3) sc_inverse.nd rfl (.inl rfl)) (pgs_cons (pg_name (i := 4) sc_inverse.nd rfl (.inl rfl)) (pgs_cons (pg_name (i := 5) sc_inverse.nd rfl (.inl rfl)) pgs_nil))))))
      (pss_cons (ps_while PassesOwn.never (pt_cmpR op_gt (pv 3) pe_int (nomark _))
        (pss_cons (ps_set (i := 6) sc_inverse.nd rfl (.inl rfl) (pe_op op_fdivN (pv 2) (pv 3)))
        (pss_cons (ps_par (i := 2) (j := 3) rfl sc_inverse.nd rfl rfl (by decide) rfl rfl (pa_cons (pv 3) (pa_cons (pe_op op_sub (pv 2) (pe_op op_mul (pv 6) (pv 3))) pa_nil)) (by rfl))
        (pss_one (ps_par (i := 4) (j := 5) rfl sc_inverse.nd rfl rfl (by decide) rfl rfl (pa_cons (pv 5) (pa_cons (pe_op op_sub (pv 4) (pe_op op_mul (pv 6) (pv 5))) pa_nil)) (by rfl))))))
      (pss_one (ps_ret (pe_op op_modN (pv 4) (pv 1)))))), ?_⟩
    refine ⟨.int b, rfl, .int n, rfl, .int b, rfl, n, b, rfl, rfl, by omega, by show 4 ≤ sizeLine; decide, fun t ht => ?_⟩
    refine ⟨t, _, rfl, .inl (.inl upd_same), rfl, _, _, rfl, _, _, rfl, _, _, rfl, _, _, rfl, rfl, ?_⟩
    have sm : Same H (upd H t (HO.tup [V.int b, (fun i j => V.int (i.fmod j)) n b, V.int 0, V.int 1])) := same_upd ht
    generalize upd H t (HO.tup [V.int b, (fun i j => V.int (i.fmod j)) n b, V.int 0, V.int 1]) = H0 at sm ⊢
    refine while_by (fun σ H1 => H1 = H0 ∧ ∃ (k : Nat) (x y u v : Int) (tt : Option V), σ = [some (.int n), some (.int b), some (.int x), some (.int y), some (.int u), some (.int v), tt] ∧ 0 ≤ x ∧ x ≤ 12 ∧ 0 ≤ y ∧ y ≤ 12 ∧ invL k x y u v = some f) (fun σ _ => match σ with | [_, _, _, some (.int y), _, _, _] => y.natAbs | _ => 0) ?_ ?_ ?_
    · obtain ⟨m1, m2⟩ := fmod_bd (a := n) (show 0 < b by omega)
      exact ⟨rfl, 20, b, n.fmod b, 0, 1, none, rfl, by omega, hb2, m1, by omega, by rw [fmod_pos (by omega)]; exact hf⟩
    · rintro σ H1 ⟨rfl, k, x, y, u, v, tt, rfl, x0, x1, y0, y1, hk⟩
      refine ⟨_, rfl, _, _, rfl, rfl, _, rfl, ?_⟩
      refine ite2 (fun hb => ?_) fun hb => ?_
      · have hy : 0 < y := by simpa using hb
        cases k with
        | zero => cases hk
        | succ k =>
          have hk' : invL k y (x - x / y * y) v (u - x / y * v) = some f := by
            unfold invL at hk
            rw [if_pos hy] at hk
            exact hk
          have e := Int.emod_add_mul_ediv x y
          have e0 := Int.emod_nonneg x (show y ≠ 0 by omega)
          have e1 := Int.emod_lt_of_pos x hy
          have e2 : x / y * y = y * (x / y) := Int.mul_comm _ _
          have e3 : 0 ≤ x / y := Int.ediv_nonneg x0 y0
          have e4 : x / y ≤ x := Int.ediv_le_self _ x0
          have ef : x.fdiv y = x / y := Int.fdiv_eq_ediv_of_nonneg _ y0
          refine ⟨.int x, rfl, .int y, rfl, x, y, rfl, rfl, ⟨by omega, by omega⟩, ?_⟩
          refine ⟨.int y, rfl, .int x, rfl, .int (x.fdiv y), rfl, .int y, rfl, x.fdiv y, y, rfl, rfl, .inr ⟨by omega, by omega⟩, x, x.fdiv y * y, rfl, rfl, _, _, rfl, ?_⟩
          refine ⟨.int v, rfl, .int u, rfl, .int (x.fdiv y), rfl, .int v, rfl, x.fdiv y, v, rfl, rfl, .inl ⟨by rw [ef]; omega, by rw [ef]; omega⟩, u, x.fdiv y * v, rfl, rfl, _, _, rfl, ?_⟩
          rw [ef]
          refine ⟨⟨rfl, k, y, x - x / y * y, v, u - x / y * v, _, rfl, y0, y1, by omega, by omega, hk'⟩, ?_⟩
          show (x - x / y * y).natAbs < y.natAbs
          omega
      · have hy : ¬ 0 < y := by simpa using hb
        have hu : u = f := by
          cases k with
          | zero => cases hk
          | succ k =>
            unfold invL at hk
            rw [if_neg hy] at hk
            exact Option.some.inj hk
        refine ⟨.int u, rfl, .int b, rfl, u, b, rfl, rfl, by omega, ?_⟩
        show Q (.int (u.fmod b)) _
        rw [fmod_pos (by omega), hu]
        exact q _ sm
    · rintro σ H Q Q' hq ⟨v, hv, i, j, e1, e2, k, e3, q⟩
      exact ⟨v, hv, i, j, e1, e2, k, e3, hq _ _ q⟩
def spMet (K : PySem.W.Frag) : Sp := fun vs H Q _ => ∃ (a c : Addr) (b m r t : Int), vs = [.ref a, .ref c] ∧ SqT K H a [.int r, .int b] ∧ SqT K H c [.int t, .int m] ∧ D12 b ∧ D12 m ∧ 0 ≤ r ∧ r < b ∧ 0 ≤ t ∧ t < m ∧ (Int.gcd b m : Int) ∣ t - r ∧
  ∀ H' p, Same H H' → H' p = some (.tup [.int (metZ b m r t), .int (Int.lcm b m)]) → Q (.ref p) H'
theorem _root_.L2.Same.sqt {K : PySem.W.Frag} {H H' : Hp} {a : Addr} {xs : List V} (e : Same H H') (h : SqT K H a xs) : SqT K H' a xs := by
  rcases h with (h | ⟨o, h⟩) | h
  · exact .inl (.inl (e _ _ h))
  · exact .inl (.inr ⟨o, e _ _ h⟩)
  · exact .inr h
theorem sc_met : FnScope ["one", "other", "first", "base", "second", "mate", "shared", "steps"] ["one", "other"] (defScope s_met) := ⟨rfl, rfl, rfl, by decide +kernel, rfl, by decide +kernel, by decide +kernel⟩
theorem met_ok (D : DefIn K mg "met" s_met) (D_gcd : DOk P w K mg base CX0 1 "gcd" ["one", "other"] spGcd) (D_lcm : DOk P w K mg base CX0 2 "lcm" ["one", "other"] spLcm) (D_inverse : DOk P w K mg base CX0 1 "inverse" ["number", "base"] spInv) : DOk P w K mg base CX0 3 "met" ["one", "other"] (spMet K) := by
  refine D.ok sc_met (fun vs H Q E h => ?_) (fun _ _ _ _ _ _ us hl => match us, hl with | [_, _], _ => rfl) (fun cdv A outer s H vs Q E hr h => ?_)
  · obtain ⟨_, _, _, _, _, _, rfl, _⟩ := h
    rfl
  · obtain ⟨a, c, b, m, r, t, rfl, ha, hc, hb, hm, r0, r1, t0, t1, hd, q⟩ := h
    refine ⟨_, (pss_cons (ps_asg (pe_tup (pa_cons (pv 0) (pa_cons (pv 1) pa_nil))) (pg_tup rfl (pgs_cons (pg_tup rfl (pgs_cons (pg_name (i := 2) sc_met.nd rfl (.inl rfl)) (pgs_cons (pg_name (i := 3) sc_met.nd rfl (.inl rfl)) pgs_nil))) (pgs_cons (pg_tup rfl (pgs_cons (pg_name (i := 4) sc_met.nd rfl (.inl rfl)) (pgs_cons (pg_name (i := 5) sc_met.nd rfl (.inl rfl)) pgs_nil))) pgs_nil))))
      (pss_cons (ps_if (PW.pt (pw_or (pt_cmpR op_eq (pv 3) pe_int (nomark _)) (pw_or1 (pt_cmpR op_eq (pv 5) pe_int (nomark _))))) (pss_one (ps_ret (pe_ifExp (pt_cmpR op_eq (pv 3) pe_int (nomark _)) (pv 0) (pv 1)))) pss_nil)
      (pss_cons (ps_set (i := 6) sc_met.nd rfl (.inl rfl) (pe_fn D_gcd hr (pa_cons (pv 3) (pa_cons (pv 5) pa_nil))))
      (pss_cons (ps_set (i := 7) sc_met.nd rfl (.inl rfl) (pe_op op_modN (pe_op op_mul (pe_op op_fdivN (pe_op op_sub (pv 4) (pv 2)) (pv 6)) (pe_fn D_inverse hr (pa_cons (pe_op op_fdivN (pv 3) (pv 6)) (pa_cons (pe_op op_fdivN (pv 5) (pv 6)) pa_nil)))) (pe_op op_fdivN (pv 5) (pv 6))))
      (pss_one (ps_ret (pe_tup (pa_cons (pe_op op_modN (pe_op op_add (pv 2) (pe_op op_mul (pv 3) (pv 7))) (pe_fn D_lcm hr (pa_cons (pv 3) (pa_cons (pv 5) pa_nil)))) (pa_cons (pe_fn D_lcm hr (pa_cons (pv 3) (pa_cons (pv 5) pa_nil))) pa_nil))))))))), ?_⟩
    have b0 := hb.1
    have b1 := hb.le
    have m0 := hm.1
    have m1 := hm.le
    have g0 := (hb.gcd (b := m)).1
    have g1 := (hb.gcd (b := m)).le
    have l0 := (hb.lcm hm).1
    obtain ⟨f, q0, q1, hf, hz⟩ := met_calc hb hm r0 r1 t0 t1 hd
    have fm : ∀ z : Int, z.fdiv (Int.gcd b m : Int) = z / (Int.gcd b m : Int) := fun z => Int.fdiv_eq_ediv_of_nonneg _ (by omega)
    have cg : CDivN 0 (Int.gcd b m : Int) := ⟨by omega, by omega⟩
    refine ⟨.ref a, rfl, .ref c, rfl, by show 2 ≤ sizeLine; decide, fun x hx => ?_⟩
    have s1 := same_upd (o := .tup [.ref a, .ref c]) hx
    refine ⟨x, _, rfl, .inl (.inl upd_same), rfl, .ref a, _, rfl, ⟨a, _, rfl, s1.sqt ha, rfl, _, _, rfl, _, _, rfl, rfl, .ref c, _, rfl, c, _, rfl, s1.sqt hc, rfl, _, _, rfl, _, _, rfl, rfl, rfl, ?_⟩⟩
    generalize upd H x (.tup [.ref a, .ref c]) = H1 at s1 ⊢
    refine ⟨.int b, rfl, rfl, _, rfl, ifF (vint_ne (by omega)) ⟨.int m, rfl, rfl, _, rfl, ifF (vint_ne (by omega)) ?_⟩⟩
    refine ⟨.int b, rfl, .int m, rfl, b, m, rfl, ?_⟩
    refine ⟨.int t, rfl, .int r, rfl, t, r, rfl, rfl, .int _, rfl, t - r, _, rfl, rfl, cg, .int b, rfl, .int _, rfl, b, _, rfl, rfl, cg, .int m, rfl, .int _, rfl, m, _, rfl, rfl, cg, ?_⟩
    refine ⟨_, _, f, rfl, by rw [fm]; exact q0, by rw [fm]; exact q1, by rw [fm, fm]; exact hf, fun H2 s2 => ?_⟩
    have f0 := Int.emod_nonneg f (show m / (Int.gcd b m : Int) ≠ 0 by omega)
    have f1 := Int.emod_lt_of_pos f (show 0 < m / (Int.gcd b m : Int) by omega)
    have nz : m.fdiv (Int.gcd b m : Int) ≠ 0 := by
      rw [fm]
      omega
    have lz : (Int.lcm b m : Int) ≠ 0 := by omega
    refine ⟨_, _, rfl, rfl, .inr ⟨by rw [fm]; omega, by rw [fm]; omega⟩, .int m, rfl, .int _, rfl, m, _, rfl, rfl, cg, _, _, rfl, rfl, nz, ?_⟩
    refine ⟨.int r, rfl, .int b, rfl, .int _, rfl, b, _, rfl, rfl, .inl ⟨by omega, by omega⟩, r, _, rfl, rfl, .int b, rfl, .int m, rfl, b, m, rfl, hb, hm, _, _, rfl, rfl, lz, ?_⟩
    refine ⟨.int b, rfl, .int m, rfl, b, m, rfl, hb, hm, by show 2 ≤ sizeLine; decide, fun p hp => ?_⟩
    refine q _ p ((s1.trans s2).trans (same_upd hp)) (upd_same.trans ?_)
    have e : (r + b * ((t - r).fdiv (Int.gcd b m : Int) * (f % m.fdiv (Int.gcd b m : Int))).fmod (m.fdiv (Int.gcd b m : Int))).fmod (Int.lcm b m) = metZ b m r t := by
      rw [fm, fm, fmod_pos (show 0 < m / (Int.gcd b m : Int) by omega), fmod_pos l0]
      exact hz
    show some (HO.tup [.int ((r + b * ((t - r).fdiv (Int.gcd b m : Int) * (f % m.fdiv (Int.gcd b m : Int))).fmod (m.fdiv (Int.gcd b m : Int))).fmod (Int.lcm b m)), .int (Int.lcm b m)]) = _
    rw [e]
end
end Kr

set_option Elab.async false
set_option linter.all false
set_option maxRecDepth 100000
set_option maxHeartbeats 4000000
/-! What the law speaks of, as data; where it stands in the heap. -/
namespace Kr
open PySem PySem.Spec PyProof.Rows L2

/-! ### heaps that keep what does not change -/
/-- all but what stands at S stays -/
def Fr (S : List Addr) (H H' : Hp) : Prop := ∀ b o, b ∉ S → H b = some o → H' b = some o
/-- tuples, locked things and dicts stay -/
structure Ts (H H' : Hp) : Prop where
  tup : ∀ b xs, H b = some (.tup xs) → H' b = some (.tup xs)
  frz : ∀ b o u, H b = some (.frz o u) → H' b = some (.frz o u)
  dk : ∀ b kvs, H b = some (.dK kvs) → H' b = some (.dK kvs)
theorem Ts.refl (H : Hp) : Ts H H := ⟨fun _ _ h => h, fun _ _ _ h => h, fun _ _ h => h⟩
theorem Ts.trans {H H1 H2 : Hp} (a : Ts H H1) (b : Ts H1 H2) : Ts H H2 := ⟨fun c x h => b.tup c x (a.tup c x h), fun c o u h => b.frz c o u (a.frz c o u h), fun c x h => b.dk c x (a.dk c x h)⟩
theorem _root_.L2.Same.ts {H H' : Hp} (e : Same H H') : Ts H H' := ⟨fun b _ h => e b _ h, fun b _ _ h => e b _ h, fun b _ h => e b _ h⟩
theorem _root_.L2.Same.fr {H H' : Hp} (S : List Addr) (e : Same H H') : Fr S H H' := fun b o _ h => e b o h
theorem Fr.refl (S : List Addr) (H : Hp) : Fr S H H := fun _ _ _ h => h
theorem Fr.trans {S : List Addr} {H H1 H2 : Hp} (a : Fr S H H1) (b : Fr S H1 H2) : Fr S H H2 := fun c o n h => b c o n (a c o n h)
theorem Fr.same {H H' : Hp} (e : Fr [] H H') : Same H H' := fun b o h => e b o (by simp) h
/-- what stands at S is a list or an instance -/
def NoT (S : List Addr) (H : Hp) : Prop := ∀ b ∈ S, (∃ xs, H b = some (.lst xs)) ∨ ∃ C dx fs, H b = some (.ins C dx fs)
theorem NoT.no {S : List Addr} {H : Hp} (n : NoT S H) {b : Addr} {o : HO} (e : H b = some o) (h1 : ∀ xs, o ≠ .lst xs) (h2 : ∀ C dx fs, o ≠ .ins C dx fs) : b ∉ S := fun hb => by
  rcases n b hb with ⟨xs, q⟩ | ⟨C, dx, fs, q⟩
  · rw [e] at q
    exact h1 _ (Option.some.inj q)
  · rw [e] at q
    exact h2 _ _ _ (Option.some.inj q)
theorem Fr.ts {S : List Addr} {H H' : Hp} (e : Fr S H H') (n : NoT S H) : Ts H H' :=
  ⟨fun b xs h => e b _ (n.no h (fun _ z => nomatch z) fun _ _ _ z => nomatch z) h, fun b o u h => e b _ (n.no h (fun _ z => nomatch z) fun _ _ _ z => nomatch z) h, fun b xs h => e b _ (n.no h (fun _ z => nomatch z) fun _ _ _ z => nomatch z) h⟩
theorem Ts.sqt {K : PySem.W.Frag} {H H' : Hp} {a : Addr} {xs : List V} (e : Ts H H') (h : SqT K H a xs) : SqT K H' a xs := by
  rcases h with (h | ⟨o, h⟩) | h
  · exact .inl (.inl (e.tup _ _ h))
  · exact .inl (.inr ⟨o, e.frz _ _ _ h⟩)
  · exact .inr h
theorem fr_upd {S : List Addr} {H : Hp} {p : Addr} {o : HO} (h : p ∈ S) : Fr S H (upd H p o) := fun b x hb e => by
  rw [upd_ne (fun z => hb (by rw [z]; exact h))]
  exact e
theorem fr_new {S : List Addr} {H : Hp} {p : Addr} {o : HO} (h : H p = none) : Fr S H (upd H p o) := (same_upd h).fr S

theorem same_set {H H1 : Hp} {D : Addr} {o : HO} (e : Same H H1) (n : H D = none) : Same H (upd H1 D o) := fun b x h => by
  rw [upd_ne (ne_of_none h n)]
  exact e b x h
theorem ts_set {H : Hp} {D : Addr} {l : List V} {o : HO} (h : H D = some (.lst l)) : Ts H (upd H D o) :=
  ⟨fun b xs e => by rw [upd_ne (fun z => by rw [z, h] at e; cases e)]; exact e, fun b ob u e => by rw [upd_ne (fun z => by rw [z, h] at e; cases e)]; exact e, fun b kvs e => by rw [upd_ne (fun z => by rw [z, h] at e; cases e)]; exact e⟩
theorem ts_ins {H : Hp} {D C dx : Addr} {fs : List (Str × V)} {o : HO} (h : H D = some (.ins C dx fs)) : Ts H (upd H D o) :=
  ⟨fun b xs e => by rw [upd_ne (fun z => by rw [z, h] at e; cases e)]; exact e, fun b ob u e => by rw [upd_ne (fun z => by rw [z, h] at e; cases e)]; exact e, fun b kvs e => by rw [upd_ne (fun z => by rw [z, h] at e; cases e)]; exact e⟩

/-! ### facts, lists of facts, promises -/
def FactV (K : PySem.W.Frag) (H : Hp) (v : V) (f : Fct) : Prop := ∃ a, v = .ref a ∧ SqT K H a [.int f.s, .int f.l, .int f.p]
def FactsV (K : PySem.W.Frag) (H : Hp) (v : V) (F : List Fct) : Prop := ∃ a xs, v = .ref a ∧ SqT K H a xs ∧ Paired (FactV K H) xs F
theorem FactV.ts {K : PySem.W.Frag} {H H' : Hp} {v : V} {f : Fct} (e : Ts H H') (h : FactV K H v f) : FactV K H' v f := by
  obtain ⟨a, rfl, h⟩ := h
  exact ⟨a, rfl, e.sqt h⟩
theorem FactsV.ts {K : PySem.W.Frag} {H H' : Hp} {v : V} {F : List Fct} (e : Ts H H') (h : FactsV K H v F) : FactsV K H' v F := by
  obtain ⟨a, xs, rfl, h, p⟩ := h
  exact ⟨a, xs, rfl, e.sqt h, Paired.mapP p fun _ _ q => q.ts e⟩
inductive Vow where
  | sure (a : Str) (f : Fct)
  | much (a b : Str)
  | tog (a b : Str)
def Vow.vs : Vow → List V
  | .sure a f => [.str "sure", .str a, .int f.s, .int f.l, .int f.p]
  | .much a b => [.str "as much", .str a, .str b]
  | .tog a b => [.str "together", .str a, .str b]
def Vow.names : Vow → List Str
  | .sure a _ => [a]
  | .much a b => [a, b]
  | .tog a b => [a, b]
def VowV (K : PySem.W.Frag) (H : Hp) (v : V) (u : Vow) : Prop := ∃ a, v = .ref a ∧ SqT K H a u.vs
theorem VowV.ts {K : PySem.W.Frag} {H H' : Hp} {v : V} {u : Vow} (e : Ts H H') (h : VowV K H v u) : VowV K H' v u := by
  obtain ⟨a, rfl, h⟩ := h
  exact ⟨a, rfl, e.sqt h⟩
theorem paired_get {α β : Type} {R : α → β → Prop} : ∀ {xs : List α} {ys : List β}, Paired R xs ys → ∀ {i : Nat} {x : α}, xs[i]? = some x → ∃ y, ys[i]? = some y ∧ R x y
  | _, _, .nil, i, x, h => by simp at h
  | _, _, .cons r t, 0, x, h => by
    cases h
    exact ⟨_, rfl, r⟩
  | _, _, .cons r t, i + 1, x, h => paired_get t (i := i) h
theorem paired_get' {α β : Type} {R : α → β → Prop} : ∀ {xs : List α} {ys : List β}, Paired R xs ys → ∀ {i : Nat} {y : β}, ys[i]? = some y → ∃ x, xs[i]? = some x ∧ R x y
  | _, _, .nil, i, x, h => by simp at h
  | _, _, .cons r t, 0, x, h => by
    cases h
    exact ⟨_, rfl, r⟩
  | _, _, .cons r t, i + 1, x, h => paired_get' t (i := i) h
theorem paired_append {α β : Type} {R : α → β → Prop} : ∀ {xs xs' : List α} {ys ys' : List β}, Paired R xs ys → Paired R xs' ys' → Paired R (xs ++ xs') (ys ++ ys')
  | _, _, _, _, .nil, h => h
  | _, _, _, _, .cons r t, h => .cons r (paired_append t h)

/-! ### the tables -/
abbrev Tab := List (Str × List Fct)
def TabR (K : PySem.W.Frag) (H : Hp) (p : Key × V) (q : Str × List Fct) : Prop := p.1 = Sum.inr q.1 ∧ FactsV K H p.2 q.2
def TabV (K : PySem.W.Frag) (H : Hp) (kvs : List (Key × V)) (tab : Tab) : Prop := Paired (TabR K H) kvs tab
theorem TabV.ts {K : PySem.W.Frag} {H H' : Hp} {kvs : List (Key × V)} {tab : Tab} (e : Ts H H') (h : TabV K H kvs tab) : TabV K H' kvs tab := Paired.mapP h fun _ _ q => ⟨q.1, q.2.ts e⟩
def getF : Tab → Str → Option (List Fct)
  | [], _ => none
  | p :: r, x => if p.1 = x then some p.2 else getF r x
def putF (tab : Tab) (x : Str) (F : List Fct) : Tab := if (tab.any fun p => decide (p.1 = x)) = true then tab.map (fun p => if p.1 = x then (p.1, F) else p) else tab ++ [(x, F)]
def dropF (tab : Tab) (x : Str) : Tab := tab.filter fun p => decide (p.1 ≠ x)
theorem inr_eq {a b : Str} : (Sum.inr a : Key) = Sum.inr b ↔ a = b := ⟨fun h => Sum.inr.inj h, fun h => by rw [h]⟩
theorem TabV.val {K : PySem.W.Frag} {H : Hp} {x : Str} : ∀ {kvs : List (Key × V)} {tab : Tab}, TabV K H kvs tab → match getF tab x with | none => valV kvs (Sum.inr x) = none | some F => ∃ v, valV kvs (Sum.inr x) = some v ∧ FactsV K H v F
  | _, _, .nil => rfl
  | p :: kvs, q :: tab, .cons r t => by
    have ih := TabV.val (x := x) t
    unfold getF
    by_cases h : q.1 = x
    · rw [if_pos h]
      exact ⟨p.2, valV_pos (by rw [r.1, h]), r.2⟩
    · rw [if_neg h]
      have hv : valV (p :: kvs) (Sum.inr x) = valV kvs (Sum.inr x) := valV_neg fun e => h (inr_eq.mp (r.1 ▸ e))
      rw [hv]
      exact ih
theorem TabV.any {K : PySem.W.Frag} {H : Hp} {x : Str} : ∀ {kvs : List (Key × V)} {tab : Tab}, TabV K H kvs tab → (kvs.any fun kv => decide (kv.1 = Sum.inr x)) = tab.any fun p => decide (p.1 = x)
  | _, _, .nil => rfl
  | p :: kvs, q :: tab, .cons r t => by
    rw [List.any_cons, List.any_cons, TabV.any t]
    congr 1
    rw [r.1]
    by_cases h : q.1 = x
    · rw [decide_eq_true h, decide_eq_true (by rw [h])]
    · rw [decide_eq_false h, decide_eq_false fun e => h (inr_eq.mp e)]
theorem TabV.put {K : PySem.W.Frag} {H : Hp} {x : Str} {v : V} {F : List Fct} {kvs : List (Key × V)} {tab : Tab} (h : TabV K H kvs tab) (hv : FactsV K H v F) : TabV K H (putK kvs (Sum.inr x) v) (putF tab x F) := by
  unfold putK putF
  rw [h.any]
  split
  · rename_i hany
    clear hany
    induction h with
    | nil => exact .nil
    | @cons p q kvs tab r t ih =>
      refine .cons ?_ ih
      show TabR K H (if p.1 = Sum.inr x then (p.1, v) else p) (if q.1 = x then (q.1, F) else q)
      by_cases e : q.1 = x
      · rw [if_pos e, if_pos (by rw [r.1, e])]
        exact ⟨r.1, hv⟩
      · rw [if_neg e, if_neg fun z => e (inr_eq.mp (r.1 ▸ z))]
        exact r
  · exact paired_append h (.cons ⟨rfl, hv⟩ .nil)
theorem TabV.drop {K : PySem.W.Frag} {H : Hp} {x : Str} {kvs : List (Key × V)} {tab : Tab} (h : TabV K H kvs tab) : TabV K H (dropK kvs (Sum.inr x)) (dropF tab x) := by
  unfold dropK dropF
  induction h with
  | nil => exact .nil
  | @cons p q kvs tab r t ih =>
    by_cases e : q.1 = x
    · rw [List.filter_cons_of_neg (by rw [r.1, e]; simp), List.filter_cons_of_neg (by simp [e])]
      exact ih
    · rw [List.filter_cons_of_pos (by rw [r.1]; exact decide_eq_true fun z => e (inr_eq.mp z)), List.filter_cons_of_pos (by simp [e])]
      exact .cons r ih
theorem TabV.keys {K : PySem.W.Frag} {H : Hp} : ∀ {kvs : List (Key × V)} {tab : Tab}, TabV K H kvs tab → kvs.map (·.1) = (tab.map (·.1)).map Sum.inr
  | _, _, .nil => rfl
  | p :: kvs, q :: tab, .cons r t => by
    rw [List.map_cons, List.map_cons, List.map_cons, TabV.keys t, r.1]
theorem getF_any {x : Str} : ∀ tab : Tab, (tab.any fun p => decide (p.1 = x)) = (getF tab x).isSome
  | [] => rfl
  | p :: r => by
    rw [List.any_cons, getF_any r]
    show _ = (if p.1 = x then some p.2 else getF r x).isSome
    by_cases h : p.1 = x
    · rw [decide_eq_true h, if_pos h]; rfl
    · rw [decide_eq_false h, if_neg h, Bool.false_or]
theorem getF_mem {x : Str} {F : List Fct} : ∀ {tab : Tab}, getF tab x = some F → (x, F) ∈ tab
  | [], h => by cases h
  | p :: r, h => by
    unfold getF at h
    split at h
    · rename_i e
      cases h
      rw [← e]
      exact List.mem_cons_self
    · exact List.mem_cons_of_mem _ (getF_mem h)

/-! ### what is so of facts, of a promise -/
def quarAt (F : List Fct) (i j : Nat) : Prop := ∃ f g, F[i]? = some f ∧ F[j]? = some g ∧ quar f g = true
/-- the least pair that quarrels -/
structure IsFirst (F : List Fct) (p : Nat × Nat) : Prop where
  lt : p.1 < p.2
  q : quarAt F p.1 p.2
  least : ∀ i j, i < j → quarAt F i j → p.1 < i ∨ (p.1 = i ∧ p.2 ≤ j)
theorem IsFirst.uniq {F : List Fct} {p q : Nat × Nat} (a : IsFirst F p) (b : IsFirst F q) : p = q := by
  have h1 := a.least _ _ b.lt b.q
  have h2 := b.least _ _ a.lt a.q
  obtain ⟨p1, p2⟩ := p
  obtain ⟨q1, q2⟩ := q
  dsimp only at h1 h2
  have e1 : p1 = q1 := by omega
  have e2 : p2 = q2 := by omega
  rw [e1, e2]
theorem IsFirst.nocomp {F : List Fct} {p : Nat × Nat} (a : IsFirst F p) : ¬ Comp F := fun c => by
  obtain ⟨f, g, h1, h2, h3⟩ := a.q
  obtain ⟨l1, e1⟩ := List.getElem?_eq_some_iff.mp h1
  obtain ⟨l2, e2⟩ := List.getElem?_eq_some_iff.mp h2
  have := List.pairwise_iff_getElem.mp c p.1 p.2 l1 l2 a.lt
  rw [e1, e2, h3] at this
  cases this
theorem comp_of {F : List Fct} (h : ∀ i j, i < j → ¬ quarAt F i j) : Comp F := by
  refine List.pairwise_iff_getElem.mpr fun i j hi hj hij => ?_
  cases e : quar F[i] F[j] with
  | false => rfl
  | true => exact absurd ⟨F[i], F[j], List.getElem?_eq_getElem hi, List.getElem?_eq_getElem hj, e⟩ (h i j hij)
theorem comp_no {F : List Fct} (c : Comp F) {i j : Nat} (hij : i < j) : ¬ quarAt F i j := fun ⟨f, g, h1, h2, h3⟩ => by
  obtain ⟨l1, e1⟩ := List.getElem?_eq_some_iff.mp h1
  obtain ⟨l2, e2⟩ := List.getElem?_eq_some_iff.mp h2
  have := List.pairwise_iff_getElem.mp c i j l1 l2 hij
  rw [e1, e2, h3] at this
  cases this
open Classical in
noncomputable def firstQ (F : List Fct) : Option (Nat × Nat) := if h : ∃ p, IsFirst F p then some (Classical.choose h) else none
theorem firstQ_some {F : List Fct} {p : Nat × Nat} (h : IsFirst F p) : firstQ F = some p := by
  have hx : ∃ p, IsFirst F p := ⟨p, h⟩
  unfold firstQ
  rw [dif_pos hx]
  exact congrArg some ((Classical.choose_spec hx).uniq h)
theorem firstQ_none {F : List Fct} (h : Comp F) : firstQ F = none := by
  unfold firstQ
  rw [dif_neg fun ⟨p, hp⟩ => hp.nocomp h]
def sureB (F : List Fct) (f : Fct) : Bool := decide (restBy (knownOf F f.s).2 f.p = 0) && decide (f.p ∣ (knownOf F f.s).1 - f.l)
inductive Shown where
  | non
  | pair (i j : Nat)
  | rest (z m : Int)
  | idx (k : Nat)
def ShownV (K : PySem.W.Frag) (H : Hp) (v : V) : Shown → Prop
  | .non => v = .non
  | .pair i j => ∃ a, v = .ref a ∧ SqT K H a [.int i, .int j]
  | .rest z m => ∃ a, v = .ref a ∧ SqT K H a [.int z, .int m]
  | .idx k => v = .int k
theorem ShownV.ts {K : PySem.W.Frag} {H H' : Hp} {v : V} {u : Shown} (e : Ts H H') (h : ShownV K H v u) : ShownV K H' v u := by
  cases u with
  | non => exact h
  | idx k => exact h
  | pair i j =>
    obtain ⟨a, rfl, h⟩ := h
    exact ⟨a, rfl, e.sqt h⟩
  | rest i j =>
    obtain ⟨a, rfl, h⟩ := h
    exact ⟨a, rfl, e.sqt h⟩
/-- the indexes of facts that are not sure -/
def unsure (F G : List Fct) : List Nat := (List.range G.length).filter fun k => !(match G[k]? with | some g => sureB F g | none => true)
open Classical in
/-- what a promise shows if it is not true -/
noncomputable def truthS (tab : Tab) : Vow → Option Shown
  | .tog a b => (firstQ ((getF tab a).getD [] ++ (getF tab b).getD [])).map fun p => .pair p.1 p.2
  | .sure a f => if Comp ((getF tab a).getD []) then (if sureB ((getF tab a).getD []) f = true then none else some (.rest (knownOf ((getF tab a).getD []) f.s).1 (knownOf ((getF tab a).getD []) f.s).2)) else some .non
  | .much a b => if Comp ((getF tab a).getD []) then (unsure ((getF tab a).getD []) ((getF tab b).getD [])).head?.map .idx else some .non
end Kr

set_option Elab.async false
set_option linter.all false
set_option maxRecDepth 100000
set_option maxHeartbeats 4000000
/-! Walks: quarrels, what is known, what is sure. -/
namespace Kr
open PySem PySem.Spec PyProof.Rows L2
theorem at0 {xs : List V} {v : V} (h : xs[0]? = some v) : atI xs 0 = some v := atI_nat (j := 0) h
theorem qbl {Q : VK} {a b : Bool} {H : Hp} (e : a = b) (q : Q (.bl b) H) : Q (.bl a) H := by rw [e]; exact q
section
variable {P : Program} {w : World} {K : PySem.W.Frag} {mg : Str → Option Value} {base : Heap}
def spQuar (K : PySem.W.Frag) : Sp := fun vs H Q _ => ∃ v u f g, vs = [v, u] ∧ FactV K H v f ∧ FactV K H u g ∧ Q (.bl (quar f g)) H
theorem sc_do_quarrel : FnScope ["one", "other"] ["one", "other"] (defScope s_do_quarrel) := ⟨rfl, rfl, rfl, by decide +kernel, rfl, by decide +kernel, by decide +kernel⟩
theorem do_quarrel_ok (D : DefIn K mg "do_quarrel" s_do_quarrel) (D_agree : DOk P w K mg base CX0 2 "agree" ["one", "other", "base"] spAgree) (D_gcd : DOk P w K mg base CX0 1 "gcd" ["one", "other"] spGcd) : DOk P w K mg base CX0 3 "do_quarrel" ["one", "other"] (spQuar K) := by
  refine D.ok sc_do_quarrel (fun vs H Q E h => ?_) (fun _ _ _ _ _ _ us hl => match us, hl with | [_, _], _ => rfl) (fun cdv A outer s H vs Q E hr h => ?_)
  · obtain ⟨_, _, _, _, rfl, _⟩ := h
    rfl
  · obtain ⟨_, _, f, g, rfl, ⟨a, rfl, ha⟩, ⟨b, rfl, hb⟩, q⟩ := h
    refine ⟨_, (pss_one (ps_ret (pe_not (pe_fn D_agree hr (pa_cons (pe_ix ix_tup (pv 0) pe_int (fun _ _ => rfl)) (pa_cons (pe_ix ix_tup (pv 1) pe_int (fun _ _ => rfl)) (pa_cons (pe_fn D_gcd hr (pa_cons (pe_fn D_gcd hr (pa_cons (pe_ix ix_tup (pv 0) pe_int (fun _ _ => rfl)) (pa_cons (pe_ix ix_tup (pv 1) pe_int (fun _ _ => rfl)) pa_nil))) (pa_cons (pe_op op_sub (pe_ix ix_tup (pv 0) pe_int (fun _ _ => rfl)) (pe_ix ix_tup (pv 1) pe_int (fun _ _ => rfl))) pa_nil))) pa_nil))))))), ?_⟩
    refine ⟨.ref a, rfl, a, _, _, _, rfl, rfl, ha, atI_nat (j := 1) rfl, ?_⟩
    refine ⟨.ref b, rfl, b, _, _, _, rfl, rfl, hb, atI_nat (j := 1) rfl, ?_⟩
    refine ⟨.ref a, rfl, a, _, _, _, rfl, rfl, ha, atI_nat (j := 2) rfl, ?_⟩
    refine ⟨.ref b, rfl, b, _, _, _, rfl, rfl, hb, atI_nat (j := 2) rfl, ?_⟩
    refine ⟨f.p, g.p, rfl, ?_⟩
    refine ⟨.ref a, rfl, a, _, _, _, rfl, rfl, ha, atI_nat (j := 0) rfl, ?_⟩
    refine ⟨.ref b, rfl, b, _, _, _, rfl, rfl, hb, atI_nat (j := 0) rfl, ?_⟩
    refine ⟨f.s, g.s, rfl, rfl, _, _, rfl, ?_⟩
    refine ⟨_, _, _, rfl, by omega, _, rfl, ?_⟩
    exact q
/-- a pair of numbers in a tuple of its own -/
def PairV (H : Hp) (v : V) (p : Nat × Nat) : Prop := ∃ t, v = .ref t ∧ H t = some (.tup [.int p.1, .int p.2])
theorem PairV.same {H H' : Hp} {v : V} {p : Nat × Nat} (e : Ts H H') (h : PairV H v p) : PairV H' v p := by
  obtain ⟨t, rfl, h⟩ := h
  exact ⟨t, rfl, e.tup _ _ h⟩
/-- a list of all pairs with a property -/
structure PairL (H : Hp) (xs : List V) (Z : Nat × Nat → Prop) : Prop where
  ex : ∃ ps : List (Nat × Nat), Paired (PairV H) xs ps ∧ ∀ p, p ∈ ps ↔ Z p
theorem PairL.nil {H : Hp} {Z : Nat × Nat → Prop} (h : ∀ p, ¬ Z p) : PairL H [] Z := ⟨[], .nil, fun p => ⟨fun h => absurd h (by simp), fun z => absurd z (h p)⟩⟩
theorem PairL.same {H H' : Hp} {xs : List V} {Z : Nat × Nat → Prop} (e : Ts H H') (h : PairL H xs Z) : PairL H' xs Z := by
  obtain ⟨ps, a, b⟩ := h
  exact ⟨ps, Paired.mapP a fun _ _ q => q.same e, b⟩
theorem PairL.imp {H : Hp} {xs : List V} {Z Z' : Nat × Nat → Prop} (h : PairL H xs Z) (e : ∀ p, Z p ↔ Z' p) : PairL H xs Z' := by
  obtain ⟨ps, a, b⟩ := h
  exact ⟨ps, a, fun p => (b p).trans (e p)⟩
theorem PairL.app {H : Hp} {xs ys : List V} {Z Z' : Nat × Nat → Prop} (h : PairL H xs Z) (h' : PairL H ys Z') : PairL H (xs ++ ys) (fun p => Z p ∨ Z' p) := by
  obtain ⟨ps, a, b⟩ := h
  obtain ⟨qs, a', b'⟩ := h'
  exact ⟨ps ++ qs, paired_append a a', fun p => by rw [List.mem_append, b p, b' p]⟩
/-- the two numbers of a pair's tuple -/
def kOf (H : Hp) (v : V) : Int × Int := match v with
  | .ref t => (match H t with
    | some (.tup [.int a, .int b]) => (a, b)
    | _ => (0, 0))
  | _ => (0, 0)
theorem kOf_ref {H : Hp} {t : Addr} {a b : Int} (h : H t = some (.tup [.int a, .int b])) : kOf H (.ref t) = (a, b) := by
  unfold kOf
  dsimp only
  rw [h]
def spAllQ (K : PySem.W.Frag) : Sp := fun vs H Q _ => ∃ v F, vs = [v] ∧ FactsV K H v F ∧ F.length ≤ 40 ∧ ∀ H' p ys, Same H H' → H' p = some (.lst ys) →
  ((ys = [] ∧ Comp F) ∨ ∃ t r i j, ys = .ref t :: r ∧ IsFirst F (i, j) ∧ H' t = some (.tup [.int (i : Nat), .int (j : Nat)])) → Q (.ref p) H'
theorem sc_all_quarrels : FnScope ["facts", "found", "second", "fact", "first"] ["facts"] (defScope s_all_quarrels) := ⟨rfl, rfl, rfl, by decide +kernel, rfl, by decide +kernel, by decide +kernel⟩
theorem all_quarrels_ok (D : DefIn K mg "all_quarrels" s_all_quarrels) (T : Fre mg) (D_do_quarrel : DOk P w K mg base CX0 3 "do_quarrel" ["one", "other"] (spQuar K)) : DOk P w K mg base CX0 4 "all_quarrels" ["facts"] (spAllQ K) := by
  refine D.ok sc_all_quarrels (fun vs H Q E h => ?_) (fun _ _ _ _ _ _ us hl => match us, hl with | [_], _ => rfl) (fun cdv A outer s H vs Q E hr h => ?_)
  · obtain ⟨_, _, rfl, _⟩ := h
    rfl
  · obtain ⟨_, F, rfl, ⟨a, xs, rfl, ha, hp⟩, hl, q⟩ := h
    refine ⟨_, (pss_cons (ps_set (i := 1) sc_all_quarrels.nd rfl (.inl rfl) (pe_lst pa_nil))
      (pss_cons (ps_for PassesOwn.never rfl (pi_enumT T.enumerate (pa_cons (pv 0) pa_nil)) (pg_tup rfl (pgs_cons (pg_name (i := 2) sc_all_quarrels.nd rfl (.inr rfl)) (pgs_cons (pg_name (i := 3) sc_all_quarrels.nd rfl (.inr rfl)) pgs_nil)))
        (pss_one (ps_expr (pe_bm PySem.F.plainAttrs_list PySem.F.slot_list_extend PySem.F.type_list_extend mt_extend (pv 1) (pa_cons (pe_lc (own := [("first", 4)]) (g := gName 4) rfl sc_all_quarrels.nd (pi_range1 (by rfl) T.range_ (pa_cons (pv 2) pa_nil)) (blkOk_by (N := ["facts", "found", "second", "fact", "first"]) (sc := defScope s_all_quarrels) (by decide +kernel)) (fun _ _ _ _ _ => (pg_name (i := 4) sc_all_quarrels.nd rfl (.inl rfl))) (fun _ _ _ _ _ => (pts_one (pt_val (pe_fn D_do_quarrel hr (pa_cons (pe_ix (r := rIxT K) ix_tup (pv 0) (pv 4) (fun _ _ => rfl)) (pa_cons (pv 3) pa_nil)))))) (fun _ _ _ _ _ => (pe_tup (pa_cons (pv 4) (pa_cons (pv 2) pa_nil))))) pa_nil)))))
      (pss_one (ps_ret (pe_callB cr_sortedPO (by rfl) T.sorted (by decide +kernel) (pa_cons (pv 1) pa_nil)))))), ?_⟩
    refine ⟨Nat.zero_le _, fun o no => ?_⟩
    have s1 : Same H (upd H o (.lst [])) := same_upd no
    refine ⟨.ref a, rfl, a, xs, rfl, s1.sqt ha, ?_⟩
    have hlx : xs.length = F.length := hp.length
    refine for_enumT (xs := xs) (fun i σ H1 => ∃ zs t2 t3 t4, σ = [some (.ref a), some (.ref o), t2, t3, t4] ∧ Same H H1 ∧ H1 o = some (.lst zs) ∧ zs.length ≤ 40 * i ∧ PairL H1 zs fun p => p.1 < p.2 ∧ p.2 < i ∧ quarAt F p.1 p.2) ⟨[], none, none, none, rfl, s1, upd_same, by simp, PairL.nil fun p hz => absurd hz.2.1 (Nat.not_lt_zero _)⟩ ?_ ?_ ?_
    · rintro i σ H1 hi ⟨zs, t2, t3, t4, rfl, sm, _⟩
      exact sm.sqt ha
    · rintro i x σ H1 t hx ⟨zs, t2, t3, t4, rfl, sm, eo, hz, pl⟩ nt
      obtain ⟨f, hf, fv⟩ := paired_get hp hx
      have hi : i < F.length := (List.getElem?_eq_some_iff.mp hf).1
      have s2 := same_upd (o := .tup [.int (i : Nat), x]) nt
      refine ⟨t, _, rfl, .inl (.inl upd_same), rfl, _, _, rfl, _, _, rfl, rfl, ?_⟩
      generalize upd H1 t (.tup [.int (i : Nat), x]) = H2 at s2 ⊢
      have sm2 := sm.trans s2
      refine ⟨.ref o, rfl, .inl ⟨rfl, _, .inl (.inl (s2 _ _ eo))⟩, .int i, rfl, (i : Int), rfl, by omega, by omega, ?_⟩
      rw [Int.toNat_natCast]
      intro D nD
      have s3 := same_upd (o := .lst []) nD
      refine lc_range (lo := 0) (n := i) (fun j H3 => ∃ acc, H3 D = some (.lst acc) ∧ acc.length ≤ j ∧ Same H2 H3 ∧ PairL H3 acc fun p => p.2 = i ∧ p.1 < j ∧ quarAt F p.1 i) ⟨[], upd_same, by simp, s3, PairL.nil fun p hz => absurd hz.2.1 (Nat.not_lt_zero _)⟩ ?_ ?_
      · rintro j H3 hj ⟨acc, eD, hacc, sm3, pl3⟩
        have hjF : j < F.length := by omega
        obtain ⟨y, hy, yv⟩ := paired_get' hp (List.getElem?_eq_getElem hjF)
        have sm4 := sm2.trans sm3
        refine ⟨rfl, .ref a, rfl, .int _, rfl, a, _, _, _, rfl, rfl, sm4.sqt ha, by rw [Int.zero_add]; exact atI_nat hy, x, rfl, _, _, _, _, rfl, yv.ts sm4.ts, fv.ts sm4.ts, _, rfl, ?_⟩
        refine ite2 (fun hq => ?_) fun hq => ?_
        · refine ⟨.int _, rfl, .int _, rfl, by show 2 ≤ sizeLine; decide, fun u nu => ?_⟩
          have s5 := same_upd (o := .tup [.int (0 + (j : Int)), .int (i : Nat)]) nu
          have eD5 := s5 _ _ eD
          have hu : (upd (upd H3 u (.tup [.int (0 + (j : Int)), .int (i : Nat)])) D (.lst (acc ++ [.ref u]))) u = some (.tup [.int (j : Nat), .int (i : Nat)]) := by
            rw [upd_ne (ne_of_none eD nu).symm, upd_same, Int.zero_add]
          refine ⟨acc, eD5, small1000 (by omega), acc ++ [.ref u], upd_same, by rw [List.length_append, List.length_singleton]; omega, same_set (sm3.trans s5) nD, ?_⟩
          refine ((pl3.same (s5.ts.trans (ts_set eD5))).app (Z' := fun p => p = (j, i)) ⟨[(j, i)], .cons ⟨u, rfl, hu⟩ .nil, fun p => by simp⟩).imp fun p => ?_
          constructor
          · rintro (⟨h1, h2, h3⟩ | rfl)
            · exact ⟨h1, by omega, h3⟩
            · exact ⟨rfl, by dsimp only; omega, ⟨F[j], f, List.getElem?_eq_getElem hjF, hf, hq⟩⟩
          · rintro ⟨h1, h2, h3⟩
            by_cases e : p.1 = j
            · exact .inr (Prod.ext e h1)
            · exact .inl ⟨h1, by omega, h3⟩
        · refine ⟨acc, eD, by omega, sm3, pl3.imp fun p => ⟨fun ⟨h1, h2, h3⟩ => ⟨h1, by omega, h3⟩, fun ⟨h1, h2, h3⟩ => ⟨h1, ?_, h3⟩⟩⟩
          have : p.1 ≠ j := fun e => by
            obtain ⟨f', g', e1, e2, e3⟩ := h3
            rw [e, List.getElem?_eq_getElem hjF] at e1
            rw [hf] at e2
            cases e1
            cases e2
            exact hq e3
          omega
      · rintro H3 ⟨acc, eD, hacc, sm3, pl3⟩
        have eo3 := sm3 _ _ (s2 _ _ eo)
        have nDo : D ≠ o := fun e => by
          rw [e, s2 _ _ eo] at nD
          cases nD
        have hlen : zs.length + acc.length ≤ sizeLine := by
          have big : 2000 ≤ sizeLine := by decide
          omega
        refine ⟨o, D, zs, acc, rfl, rfl, eo3, eD, hlen, ?_⟩
        refine ⟨zs ++ acc, _, _, _, rfl, same_set (sm2.trans sm3) no, upd_same, by rw [List.length_append]; omega, ?_⟩
        refine ((pl.same (s2.ts.trans (sm3.ts.trans (ts_set eo3)))).app (pl3.same (ts_set eo3))).imp fun p => ?_
        constructor
        · rintro (⟨h1, h2, h3⟩ | ⟨h1, h2, h3⟩)
          · exact ⟨h1, by omega, h3⟩
          · exact ⟨by omega, by omega, h1 ▸ h3⟩
        · rintro ⟨h1, h2, h3⟩
          by_cases e : p.2 = i
          · exact .inr ⟨e, by omega, e ▸ h3⟩
          · exact .inl ⟨h1, by omega, h3⟩
    · rintro σ H1 ⟨zs, t2, t3, t4, rfl, sm, eo, hz, pl⟩
      obtain ⟨ps, hps, hmem⟩ := pl
      refine ⟨.ref o, rfl, o, zs, kOf H1, rfl, .inl (.inl eo), fun x hx => ?_, fun ys p srt stb np => ?_⟩
      · obtain ⟨m, hm⟩ := List.mem_iff_getElem?.mp hx
        obtain ⟨z, hz2, t, rfl, ht⟩ := paired_get hps hm
        exact ⟨t, rfl, by rw [kOf_ref ht]; exact ht⟩
      · have s6 := same_upd (o := .lst ys) np
        refine q _ p ys (sm.trans s6) upd_same ?_
        have hlxs : xs.length = F.length := hp.length
        cases ys with
        | nil =>
          refine .inl ⟨rfl, comp_of fun i j hij hq => ?_⟩
          have hj : j < xs.length := by
            obtain ⟨f, g, _, h2, _⟩ := hq
            have := (List.getElem?_eq_some_iff.mp h2).1
            omega
          have hm := (hmem (i, j)).mpr ⟨hij, hj, hq⟩
          have : zs = [] := List.length_eq_zero_iff.mp stb.perm.length_eq.symm
          rw [this] at hps
          cases hps
          cases hm
        | cons y r =>
          have hy : y ∈ zs := stb.perm.mem_iff.mp List.mem_cons_self
          obtain ⟨m, hm⟩ := List.mem_iff_getElem?.mp hy
          obtain ⟨z, hz2, t, rfl, ht⟩ := paired_get hps hm
          obtain ⟨z1, z2, z3⟩ := (hmem z).mp (List.mem_of_getElem? hz2)
          refine .inr ⟨t, r, z.1, z.2, rfl, ⟨z1, z3, fun i j hij hq => ?_⟩, s6 _ _ ht⟩
          have hj : j < xs.length := by
            obtain ⟨f, g, _, h2, _⟩ := hq
            have := (List.getElem?_eq_some_iff.mp h2).1
            omega
          have hmem2 := (hmem (i, j)).mpr ⟨hij, hj, hq⟩
          obtain ⟨m', hm'⟩ := List.mem_iff_getElem?.mp hmem2
          obtain ⟨u, hu, t', rfl, ht'⟩ := paired_get' hps hm'
          have hin : V.ref t' ∈ V.ref t :: r := stb.perm.mem_iff.mpr (List.mem_of_getElem? hu)
          rcases List.mem_cons.mp hin with e | e
          · cases e
            rw [ht] at ht'
            have e1 := Option.some.inj ht'
            simp only [HO.tup.injEq, List.cons.injEq, V.int.injEq, and_true] at e1
            dsimp only
            omega
          · have h2 := SrtO.srtd_head srt _ e
            have h3 := SrtO.lexB_no.mp h2
            rw [kOf_ref ht, kOf_ref ht'] at h3
            dsimp only at h3 ⊢
            omega
def spKnown (K : PySem.W.Frag) : Sp := fun vs H Q _ => ∃ v F x, vs = [v, .int x] ∧ FactsV K H v F ∧ Parts F ∧ Comp F ∧ ∀ H' p, Same H H' → H' p = some (.tup [.int (knownOf F x).1, .int (knownOf F x).2]) → Q (.ref p) H'
theorem sc_known_by : FnScope ["facts", "place", "found", "spot", "rest", "base", "shared"] ["facts", "place"] (defScope s_known_by) := ⟨rfl, rfl, rfl, by decide +kernel, rfl, by decide +kernel, by decide +kernel⟩
theorem restBy_pos {z b : Int} (h : 0 < b) : restBy z b = z % b := if_neg (by omega)
theorem known_by_ok (D : DefIn K mg "known_by" s_known_by) (D_gcd : DOk P w K mg base CX0 1 "gcd" ["one", "other"] spGcd) (D_rest_by : DOk P w K mg base CX0 1 "rest_by" ["number", "base"] spRestBy) (D_met : DOk P w K mg base CX0 3 "met" ["one", "other"] (spMet K)) : DOk P w K mg base CX0 4 "known_by" ["facts", "place"] (spKnown K) := by
  refine D.ok sc_known_by (fun vs H Q E h => ?_) (fun _ _ _ _ _ _ us hl => match us, hl with | [_, _], _ => rfl) (fun cdv A outer s H vs Q E hr h => ?_)
  · obtain ⟨_, _, _, rfl, _⟩ := h
    rfl
  · obtain ⟨_, F, x, rfl, ⟨a, xs, rfl, ha, hp⟩, hparts, hcomp, q⟩ := h
    refine ⟨_, (pss_cons (ps_set (i := 2) sc_known_by.nd rfl (.inl rfl) (pe_tup (pa_cons pe_int (pa_cons pe_int pa_nil))))
      (pss_cons (ps_for PassesOwn.never rfl (pi_tup (pv 0)) (pg_tup rfl (pgs_cons (pg_name (i := 3) sc_known_by.nd rfl (.inl rfl)) (pgs_cons (pg_name (i := 4) sc_known_by.nd rfl (.inl rfl)) (pgs_cons (pg_name (i := 5) sc_known_by.nd rfl (.inl rfl)) pgs_nil))))
        (pss_cons (ps_set (i := 6) sc_known_by.nd rfl (.inl rfl) (pe_fn D_gcd hr (pa_cons (pv 5) (pa_cons (pe_op op_sub (pv 1) (pv 3)) pa_nil))))
        (pss_one (ps_set (i := 2) sc_known_by.nd rfl (.inl rfl) (pe_fn D_met hr (pa_cons (pv 2) (pa_cons (pe_tup (pa_cons (pe_fn D_rest_by hr (pa_cons (pv 4) (pa_cons (pv 6) pa_nil))) (pa_cons (pv 6) pa_nil))) pa_nil)))))))
      (pss_one (ps_ret (pv 2))))), ?_⟩
    refine ⟨by show 2 ≤ sizeLine; decide, fun t nt => ?_⟩
    have s1 := same_upd (o := .tup [.int 0, .int 1]) nt
    refine ⟨.ref a, rfl, a, rfl, ⟨xs, s1.sqt ha⟩, ?_⟩
    refine for_tup (xs := xs) (fun i σ H1 => ∃ p t3 t4 t5 t6, σ = [some (.ref a), some (.int x), some (.ref p), t3, t4, t5, t6] ∧ Same H H1 ∧ H1 p = some (.tup [.int ((F.take i).foldl (knownStep x) (0, 1)).1, .int ((F.take i).foldl (knownStep x) (0, 1)).2])) ⟨t, none, none, none, none, rfl, s1, upd_same⟩ ?_ ?_ ?_
    · rintro i σ H1 hi ⟨p, t3, t4, t5, t6, rfl, sm, _⟩
      exact sm.sqt ha
    · rintro i y σ H1 hx ⟨p, t3, t4, t5, t6, rfl, sm, ep⟩
      obtain ⟨f, hf, ⟨b, rfl, hb⟩⟩ := paired_get hp hx
      have hi : i < F.length := (List.getElem?_eq_some_iff.mp hf).1
      have et : F.take (i + 1) = F.take i ++ [f] := by
        rw [List.take_add_one, hf]
        rfl
      have hc1 : Comp (F.take i ++ [f]) := by
        rw [← et]
        exact List.Pairwise.sublist (List.take_sublist _ _) hcomp
      obtain ⟨hc0, hq⟩ := Comp.snoc.mp hc1
      have hpt : Parts (F.take i) := fun g hg => hparts g (List.mem_of_mem_take hg)
      have hfp : D12 f.p := hparts f (List.mem_of_getElem? hf)
      have k := known_of hpt hc0 x
      have hcd := cof_d hfp x
      have c0 := hcd.1
      have em : (knownStep x ((F.take i).foldl (knownStep x) (0, 1)) f) = (F.take (i + 1)).foldl (knownStep x) (0, 1) := by
        rw [et, List.foldl_append]
        rfl
      have hmeet := k.meets hfp hq
      refine ⟨b, _, rfl, sm.sqt hb, rfl, _, _, rfl, _, _, rfl, _, _, rfl, rfl, ?_⟩
      refine ⟨.int f.p, rfl, .int x, rfl, .int f.s, rfl, x, f.s, rfl, rfl, f.p, x - f.s, rfl, ?_⟩
      refine ⟨.ref p, rfl, .int f.l, rfl, .int _, rfl, f.l, _, rfl, by omega, .int _, rfl, by show 2 ≤ sizeLine; decide, fun u nu => ?_⟩
      have s2 := same_upd (o := .tup [.int (restBy f.l (Int.gcd f.p (x - f.s))), .int (Int.gcd f.p (x - f.s))]) nu
      refine ⟨p, u, ((F.take i).foldl (knownStep x) (0, 1)).2, cof f x, ((F.take i).foldl (knownStep x) (0, 1)).1, f.l % cof f x, rfl, .inl (.inl (s2 _ _ ep)), .inl (.inl (upd_same.trans ?_)), k.d, hcd, k.lo, k.hi, Int.emod_nonneg _ (by omega), Int.emod_lt_of_pos _ c0, hmeet, fun H3 r s3 er => ?_⟩
      · show some (HO.tup [.int (restBy f.l (cof f x)), .int (cof f x)]) = _
        rw [restBy_pos c0]
      · refine ⟨r, _, _, _, _, rfl, (sm.trans s2).trans s3, ?_⟩
        rw [er, ← em]
        rfl
    · rintro σ H1 ⟨p, t3, t4, t5, t6, rfl, sm, ep⟩
      rw [hp.length, List.take_length] at ep
      exact ⟨.ref p, rfl, q _ p sm ep⟩
def spSure (K : PySem.W.Frag) : Sp := fun vs H Q _ => ∃ v u F f, vs = [v, u] ∧ FactsV K H v F ∧ FactV K H u f ∧ Parts F ∧ Comp F ∧ 0 ≤ f.p ∧ ∀ H', Same H H' → Q (.bl (sureB F f)) H'
theorem sc_is_sure : FnScope ["facts", "fact", "rest", "base"] ["facts", "fact"] (defScope s_is_sure) := ⟨rfl, rfl, rfl, by decide +kernel, rfl, by decide +kernel, by decide +kernel⟩
theorem is_sure_ok (D : DefIn K mg "is_sure" s_is_sure) (D_known_by : DOk P w K mg base CX0 4 "known_by" ["facts", "place"] (spKnown K)) (D_rest_by : DOk P w K mg base CX0 1 "rest_by" ["number", "base"] spRestBy) (D_agree : DOk P w K mg base CX0 2 "agree" ["one", "other", "base"] spAgree) : DOk P w K mg base CX0 5 "is_sure" ["facts", "fact"] (spSure K) := by
  refine D.ok sc_is_sure (fun vs H Q E h => ?_) (fun _ _ _ _ _ _ us hl => match us, hl with | [_, _], _ => rfl) (fun cdv A outer s H vs Q E hr h => ?_)
  · obtain ⟨_, _, _, _, rfl, _⟩ := h
    rfl
  · obtain ⟨v, _, F, f, rfl, hv, ⟨b, rfl, hb⟩, hparts, hcomp, hf0, q⟩ := h
    refine ⟨_, (pss_cons (ps_asg (pe_fn D_known_by hr (pa_cons (pv 0) (pa_cons (pe_ix ix_tup (pv 1) pe_int (fun _ _ => rfl)) pa_nil))) (pg_tup rfl (pgs_cons (pg_name (i := 2) sc_is_sure.nd rfl (.inl rfl)) (pgs_cons (pg_name (i := 3) sc_is_sure.nd rfl (.inl rfl)) pgs_nil))))
      (pss_one (ps_ret (pe_and (pe_cmpR op_eq (pe_fn D_rest_by hr (pa_cons (pv 3) (pa_cons (pe_ix ix_tup (pv 1) pe_int (fun _ _ => rfl)) pa_nil))) pe_int (nomark _)) (pe_one (pe_fn D_agree hr (pa_cons (pv 2) (pa_cons (pe_ix ix_tup (pv 1) pe_int (fun _ _ => rfl)) (pa_cons (pe_ix ix_tup (pv 1) pe_int (fun _ _ => rfl)) pa_nil))))))))), ?_⟩
    refine ⟨v, rfl, .ref b, rfl, b, _, _, _, rfl, rfl, hb, atI_nat (j := 0) rfl, v, F, f.s, rfl, hv, hparts, hcomp, fun H1 p s1 ep => ?_⟩
    refine ⟨p, _, rfl, .inl (.inl ep), rfl, _, _, rfl, _, _, rfl, rfl, ?_⟩
    refine ⟨.int _, rfl, .ref b, rfl, b, _, _, _, rfl, rfl, s1.sqt hb, atI_nat (j := 2) rfl, _, f.p, rfl, hf0, rfl, _, rfl, ?_⟩
    have hq := q H1 s1
    unfold sureB at hq
    refine ite2 (fun hz => ?_) fun hz => ?_
    · have hz' : restBy (knownOf F f.s).2 f.p = 0 := by simpa [vint_eq] using hz
      refine ⟨.int _, rfl, .ref b, rfl, b, _, _, _, rfl, rfl, s1.sqt hb, atI_nat (j := 1) rfl, .ref b, rfl, b, _, _, _, rfl, rfl, s1.sqt hb, atI_nat (j := 2) rfl, _, _, _, rfl, hf0, ?_⟩
      rw [hz'] at hq
      exact hq
    · have hz' : ¬ restBy (knownOf F f.s).2 f.p = 0 := by simpa [vint_eq] using hz
      rw [decide_eq_false hz'] at hq
      exact hq
def unsP (F G : List Fct) (k : Nat) : Bool := !(match G[k]? with | some g => sureB F g | none => true)
def unsI (F G : List Fct) (i : Nat) : List V := ((List.range i).filter (unsP F G)).map fun k : Nat => V.int k
theorem unsI_succ {F G : List Fct} {i : Nat} {g : Fct} (h : G[i]? = some g) : unsI F G (i + 1) = if sureB F g = true then unsI F G i else unsI F G i ++ [.int i] := by
  unfold unsI
  rw [List.range_succ, List.filter_append]
  have e : unsP F G i = !sureB F g := by unfold unsP; rw [h]
  by_cases hs : sureB F g = true
  · rw [if_pos hs, List.filter_cons_of_neg (by rw [e, hs]; decide)]
    simp
  · rw [if_neg hs, List.filter_cons_of_pos (by rw [e]; simpa using hs)]
    simp
theorem unsI_len (F G : List Fct) (i : Nat) : (unsI F G i).length ≤ i := by
  unfold unsI
  rw [List.length_map]
  have := List.length_filter_le (unsP F G) (List.range i)
  rw [List.length_range] at this
  exact this
def spUnsure (K : PySem.W.Frag) : Sp := fun vs H Q _ => ∃ v u F G, vs = [v, u] ∧ FactsV K H v F ∧ FactsV K H u G ∧ Parts F ∧ Comp F ∧ (∀ g ∈ G, 0 ≤ g.p) ∧ G.length ≤ 40 ∧
  ∀ H' p, Same H H' → H' p = some (.lst (unsI F G G.length)) → Q (.ref p) H'
theorem sc_unsure_ones : FnScope ["one", "other", "at", "fact"] ["one", "other"] (defScope s_unsure_ones) := ⟨rfl, rfl, rfl, by decide +kernel, rfl, by decide +kernel, by decide +kernel⟩
theorem unsure_ones_ok (D : DefIn K mg "unsure_ones" s_unsure_ones) (T : Fre mg) (D_is_sure : DOk P w K mg base CX0 5 "is_sure" ["facts", "fact"] (spSure K)) : DOk P w K mg base CX0 6 "unsure_ones" ["one", "other"] (spUnsure K) := by
  refine D.ok sc_unsure_ones (fun vs H Q E h => ?_) (fun _ _ _ _ _ _ us hl => match us, hl with | [_, _], _ => rfl) (fun cdv A outer s H vs Q E hr h => ?_)
  · obtain ⟨_, _, _, _, rfl, _⟩ := h
    rfl
  · obtain ⟨v, _, F, G, rfl, hv, ⟨b, ys, rfl, hb, hp⟩, hparts, hcomp, h0, hl, q⟩ := h
    refine ⟨_, (pss_one (ps_ret (pe_lc (own := [("at", 2), ("fact", 3)]) (g := gTup K 2 (gCons (gName 2) (gCons (gName 3) gNil))) rfl sc_unsure_ones.nd (pi_enumT T.enumerate (pa_cons (pv 1) pa_nil)) (blkOk_by (N := ["one", "other", "at", "fact"]) (sc := defScope s_unsure_ones) (by decide +kernel)) (fun _ _ _ _ _ => (pg_tup rfl (pgs_cons (pg_name (i := 2) sc_unsure_ones.nd rfl (.inl rfl)) (pgs_cons (pg_name (i := 3) sc_unsure_ones.nd rfl (.inl rfl)) pgs_nil)))) (fun _ _ _ _ _ => (pts_one (pt_not (pt_val (pe_fn D_is_sure hr (pa_cons (pv 0) (pa_cons (pv 3) pa_nil))))))) (fun _ _ _ _ _ => (pv 2))))), ?_⟩
    refine ⟨.ref b, rfl, b, ys, rfl, hb, ?_⟩
    intro D nD
    have s1 := same_upd (o := .lst []) nD
    refine lc_enumT (xs := ys) (fun i H1 => ∃ acc, H1 D = some (.lst acc) ∧ acc = unsI F G i ∧ Same H H1) ⟨[], upd_same, rfl, s1⟩ ?_ ?_ ?_
    · rintro i H1 hi ⟨acc, _, _, sm⟩
      exact sm.sqt hb
    · rintro i x H1 t hx ⟨acc, eD, ea, sm⟩ nt
      obtain ⟨g, hg, gv⟩ := paired_get hp hx
      have hi : i < G.length := (List.getElem?_eq_some_iff.mp hg).1
      have s2 := same_upd (o := .tup [.int (i : Nat), x]) nt
      have s3 := sm.trans s2
      refine ⟨t, _, rfl, .inl (.inl upd_same), rfl, _, _, rfl, _, _, rfl, rfl, rfl, ?_⟩
      refine ⟨v, rfl, x, rfl, v, x, F, g, rfl, hv.ts s3.ts, gv.ts s3.ts, hparts, hcomp, h0 g (List.mem_of_getElem? hg), fun H2 s4 => ⟨_, rfl, ?_⟩⟩
      have eD2 := s4 _ _ (s2 _ _ eD)
      have es := unsI_succ (F := F) hg
      have hll := unsI_len F G i
      cases hs : sureB F g with
      | true =>
        rw [hs, if_pos rfl] at es
        refine iteF ⟨acc, eD2, by rw [ea, es], s3.trans s4⟩
      | false =>
        rw [hs, if_neg Bool.false_ne_true] at es
        refine iteT ⟨.int i, rfl, acc, eD2, small1000 (by rw [ea]; omega), acc ++ [.int i], upd_same, by rw [ea, es], same_set (s3.trans s4) nD⟩
    · rintro H1 ⟨acc, eD, ea, sm⟩
      rw [hp.length] at ea
      exact q _ D sm (by rw [eD, ea])
end
end Kr

set_option Elab.async false
set_option linter.all false
set_option maxRecDepth 100000
set_option maxHeartbeats 4000000
/-! Walks: forms of values. -/
namespace Kr
open PySem PySem.Spec PyProof.Rows L2
theorem tyT {K : PySem.W.Frag} {H : Hp} {a : Addr} {xs : List V} (h : SqT K H a xs) : TyX K H (.ref a) (.type "tuple") := by
  rcases h with (h | ⟨o, h⟩) | ⟨o, _, _, h, hc, _⟩
  · exact .base (.tup h)
  · exact .fTuple h
  · exact .kTuple h hc
theorem lc_str {z : Str} {g : TG} {tt : TT} {te : TE} {vs : List Nat} {σ : L2.St} {H1 : Hp} {D : Addr} {Qd : Hp → Prop} (Pv : Nat → Hp → Prop) (h0 : Pv 0 (upd H1 D (.lst [])))
    (hs : ∀ i c H, z.cps[i]? = some c → Pv i H → g (.str ⟨#[c]⟩) (wipe σ vs) H fun σ2 H2 => wipe σ2 vs = wipe σ vs ∧ tt σ2 H2 fun b H3 =>
      if b = true then te σ2 H3 fun y H4 => ∃ acc, H4 D = some (.lst acc) ∧ acc.length < sizeLine ∧ Pv (i + 1) (upd H4 D (.lst (acc ++ [y]))) else Pv (i + 1) H3) (hd : ∀ H, Pv z.cps.size H → Qd H) :
    ∃ W : Nat → Nat → Hp → Prop, (∃ m, W 0 m (upd H1 D (.lst []))) ∧ ∀ i m H, W i m H →
      ((Its z).stop i H ∧ Qd H) ∨ ((Its z).go i H ∧ ∃ Nx : Hp → Prop, (∀ H', Nx H' → ∃ m', m' < m ∧ W (i + 1) m' H') ∧ ∀ x H', (Its z).yld i H x H' → g x (wipe σ vs) H' fun σ2 H2 => wipe σ2 vs = wipe σ vs ∧ tt σ2 H2 fun b H3 =>
        if b = true then te σ2 H3 fun y H4 => ∃ acc, H4 D = some (.lst acc) ∧ acc.length < sizeLine ∧ Nx (upd H4 D (.lst (acc ++ [y]))) else Nx H3) := by
  refine ⟨fun i m H => m = z.cps.size - i ∧ i ≤ z.cps.size ∧ Pv i H, ⟨z.cps.size, by simp, Nat.zero_le _, h0⟩, ?_⟩
  rintro i m H ⟨rfl, hi, p⟩
  by_cases hlt : i < z.cps.size
  · refine .inr ⟨hlt, Pv (i + 1), fun H' p' => ⟨z.cps.size - (i + 1), by omega, rfl, hlt, p'⟩, fun v H' y => ?_⟩
    obtain ⟨rfl, c, hc, rfl⟩ := y
    exact hs i c H' hc p
  · have e : i = z.cps.size := by omega
    subst e
    exact .inl ⟨Nat.le_refl _, hd H p⟩
/-- d.get(k, x), d a dict of the written part, k one of its keys -/
def tKGet2 (K : PySem.W.Frag) (d : Addr) (td ty tx : TE) : TE := fun σ H Q => td σ H fun x H1 => x = .ref d ∧ ty σ H1 fun y H2 => tx σ H2 fun _ H3 => ∃ (z : Str) (u0 : Value) (v0 : V), y = .str z ∧ PySem.W.nsIn K d z = some (some u0) ∧ RelV v0 u0 ∧ Q v0 H3
theorem pe_kdget2 {X : Cx} {d : Addr} {es : Array DictEntry} {n : Nat} {o e f : Expr} {td ty tx : TE} {apos cpos : Pos} (D : KDict X.K X.w d es n) (ho : PE X o td) (he : PE X e ty) (hf : PE X f tx) (m : M2 X o "get" apos e f cpos) :
    PE X (.Call (.Attribute o "get" apos) [e, f] [] cpos) (tKGet2 X.K d td ty tx) := by
  refine ⟨fun pins s σ H Q I h => ?_⟩
  refine wpAny_Call_method m.base m.few m.line PySem.F.plainAttrs_dict PySem.F.slot_dict_get PySem.F.type_dict_get (thn (ho.run pins s σ H _ I h) fun u s1 ⟨x, H1, I1, rx, ex, q1⟩ => ?_)
  subst ex
  obtain rfl : u = Value.ref d := rx
  have hd := I1.kIn _ _ D.at_
  refine ⟨kd_type D I1, fun b q => ?_, ?_⟩
  · cases q
    exact ⟨_, hd, rfl⟩
  · rw [m.trees]
    refine Calls.callWith_builtin rfl (Calls.evalArgs_plain (Calls.spliced_cons (thn (he.run pins s1 σ H1 _ I1 q1) fun iv s2 ⟨y, H2, I2, ry, q2⟩ =>
      Calls.spliced_cons (thn (hf.run pins s2 σ H2 _ I2 q2) fun fv s3 ⟨z, H3, I3, rz, k, u0, v0, ey, en, rv, q3⟩ => Calls.spliced_nil ?_))))
    subst ey
    obtain ⟨t, rfl⟩ := ry
    have mp := PySem.W.mapOf_K (prog := X.prog) (w := X.w) I3.kIn D.at_ D.lit
    refine call_meetsIn PySem.F.slot_dict_get (kd_type D I3) PySem.F.entry_dict_get (PySem.F.args_dict_get_3 _ _ _) (meets_dict_get_default (strKind X.prog X.w) d (PySem.strKind_is X.prog X.w k t) D.low fv) ⟨_, mp, ?_⟩
    rw [PySem.W.find_K D.at_ en]
    exact ⟨v0, H3, I3.tok _, rv, q3⟩
def lettersS : Str := "abcdefghijklmnopqrstuvwxyz"
structure GoodName (z : Str) : Prop where
  lo : 1 ≤ z.length
  hi : z.length ≤ 8
  ok : ∀ c ∈ z.cps.toList, c ∈ lettersS.cps.toList
section
variable {P : Program} {w : World} {K : PySem.W.Frag} {mg : Str → Option Value} {base : Heap}
def spInt : Sp := fun vs H Q _ => ∃ i : Int, vs = [.int i] ∧ Q (.bl true) H
theorem sc_is_integer : FnScope ["value"] ["value"] (defScope s_is_integer) := ⟨rfl, rfl, rfl, by decide +kernel, rfl, by decide +kernel, by decide +kernel⟩
theorem is_integer_ok (D : DefIn K mg "is_integer" s_is_integer) (T : Fre mg) : DOk P w K mg base CX0 1 "is_integer" ["value"] spInt := by
  refine D.ok sc_is_integer (fun vs H Q E h => ?_) (fun _ _ _ _ _ _ us hl => match us, hl with | [_], _ => rfl) (fun cdv A outer s H vs Q E hr h => ?_)
  · obtain ⟨_, rfl, _⟩ := h
    rfl
  · obtain ⟨i, rfl, q⟩ := h
    refine ⟨_, (pss_one (ps_ret (pe_and (pe_callB call_isi (by rfl) T.isinstance (by decide +kernel) (pa_cons (pv 0) (pa_cons (pe_bltn (v := .ty "int") (by rfl) T.int_ (by decide +kernel) rfl) pa_nil))) (pe_one (pe_not (pe_callB call_isi (by rfl) T.isinstance (by decide +kernel) (pa_cons (pv 0) (pa_cons (pe_bltn (v := .ty "bool") (by rfl) T.bool_ (by decide +kernel) rfl) pa_nil)))))))), ?_⟩
    refine ⟨.int i, rfl, .int i, .ty "int", _, _, true, rfl, .ty _, .base (.int i), kit_ty (by decide +kernel), _, rfl, iteT ?_⟩
    refine ⟨.int i, rfl, .int i, .ty "bool", _, _, false, rfl, .ty _, .base (.int i), kit_ty (by decide +kernel), _, rfl, ?_⟩
    exact q
def spBetween : Sp := fun vs H Q _ => ∃ i lo hi : Int, vs = [.int i, .int lo, .int hi] ∧ Q (.bl (decide (lo ≤ i) && decide (i ≤ hi))) H
theorem sc_is_between : FnScope ["value", "low", "high"] ["value", "low", "high"] (defScope s_is_between) := ⟨rfl, rfl, rfl, by decide +kernel, rfl, by decide +kernel, by decide +kernel⟩
theorem is_between_ok (D : DefIn K mg "is_between" s_is_between) (D_is_integer : DOk P w K mg base CX0 1 "is_integer" ["value"] spInt) : DOk P w K mg base CX0 2 "is_between" ["value", "low", "high"] spBetween := by
  refine D.ok sc_is_between (fun vs H Q E h => ?_) (fun _ _ _ _ _ _ us hl => match us, hl with | [_, _, _], _ => rfl) (fun cdv A outer s H vs Q E hr h => ?_)
  · obtain ⟨_, _, _, rfl, _⟩ := h
    rfl
  · obtain ⟨i, lo, hi, rfl, q⟩ := h
    refine ⟨_, (pss_one (ps_ret (pe_and (pe_fn D_is_integer hr (pa_cons (pv 0) pa_nil)) (pe_one (pe_chain op_le op_le (pv 1) (pv 0) (pv 2)))))), ?_⟩
    refine ⟨.int i, rfl, i, rfl, true, rfl, iteT ⟨.int lo, rfl, .int i, rfl, lo, i, rfl, rfl, _, rfl, ?_⟩⟩
    by_cases h1 : lo ≤ i
    · rw [decide_eq_true h1] at q ⊢
      refine iteT ⟨.int hi, rfl, i, hi, rfl, rfl, ?_⟩
      exact q
    · rw [decide_eq_false h1] at q ⊢
      exact iteF q
def spName : Sp := fun vs H Q _ => ∃ z : Str, vs = [.str z] ∧ GoodName z ∧ ∀ H', Same H H' → Q (.bl true) H'
theorem sc_is_name : FnScope ["value", "sign"] ["value"] (defScope s_is_name) := ⟨rfl, rfl, rfl, by decide +kernel, rfl, by decide +kernel, by decide +kernel⟩
theorem is_name_ok (D : DefIn K mg "is_name" s_is_name) (T : Fre mg) (hL : ∃ t, mg "LONGEST" = some (.int 8 t)) (hS : ∃ t, mg "LETTERS" = some (.str lettersS t)) : DOk P w K mg base CX0 1 "is_name" ["value"] spName := by
  obtain ⟨tL, hL⟩ := hL
  obtain ⟨tS, hS⟩ := hS
  refine D.ok sc_is_name (fun vs H Q E h => ?_) (fun _ _ _ _ _ _ us hl => match us, hl with | [_], _ => rfl) (fun cdv A outer s H vs Q E hr h => ?_)
  · obtain ⟨_, rfl, _⟩ := h
    rfl
  · obtain ⟨z, rfl, g, q⟩ := h
    refine ⟨_, (pss_one (ps_ret (pe_and (pe_callB call_isi (by rfl) T.isinstance (by decide +kernel) (pa_cons (pv 0) (pa_cons (pe_bltn (v := .ty "str") (by rfl) T.str_ (by decide +kernel) rfl) pa_nil))) (pe_and (pe_chain op_le op_le pe_int (pe_callB call_len_str (by rfl) T.len_ (by decide +kernel) (pa_cons (pv 0) pa_nil)) (pe_glob (v := .int 8) rfl hL ⟨_, rfl⟩)) (pe_one (pe_callB (cr_all rfl) (by rfl) T.all_ (by decide +kernel) (pa_cons (pe_lc (own := [("sign", 1)]) (g := gName 1) (tt := tYes) rfl sc_is_name.nd (pi_str (pv 0)) (blkOk_by (N := ["value", "sign"]) (sc := defScope s_is_name) (by decide +kernel)) (fun _ _ _ _ _ => (pg_name (i := 1) sc_is_name.nd rfl (.inl rfl))) (fun _ _ _ _ _ => pts_nil) (fun _ _ _ _ _ => (pe_cmpR op_in_sign (pv 1) (pe_glob (v := .str lettersS) rfl hS ⟨_, rfl⟩) (by rfl)))) pa_nil))))))), ?_⟩
    have h8 := g.hi
    have h1 := g.lo
    have big : 2000 ≤ sizeLine := by decide
    refine ⟨.str z, rfl, .str z, .ty "str", _, _, true, rfl, .ty _, .base (.str z), kit_ty (by decide +kernel), true, rfl, iteT ?_⟩
    refine ⟨.str z, rfl, z, rfl, by omega, 1, _, rfl, rfl, _, rfl, ?_⟩
    have e1 : decide ((1 : Int) ≤ (z.length : Int)) = true := decide_eq_true (by omega)
    have e2 : decide ((z.length : Int) ≤ 8) = true := decide_eq_true (by omega)
    rw [e1]
    refine iteT ⟨_, 8, rfl, rfl, _, rfl, ?_⟩
    rw [e2]
    refine iteT ⟨.str z, rfl, z, rfl, ?_⟩
    intro D nD
    refine lc_str (fun i H1 => ∃ bs : List Bool, H1 D = some (.lst (bs.map V.bl)) ∧ bs.length = i ∧ (∀ b ∈ bs, b = true) ∧ Same H H1) ⟨[], upd_same, rfl, fun b hb => absurd hb (by simp), same_upd nD⟩ ?_ ?_
    · rintro i c H1 hc ⟨bs, eD, hl, hb, sm⟩
      refine ⟨rfl, _, rfl, c, lettersS, rfl, rfl, _, eD, ?_, bs ++ [true], ?_, by rw [List.length_append, hl]; rfl, fun b hb' => ?_, same_set sm nD⟩
      · rw [List.length_map, hl]
        have := (Array.getElem?_eq_some_iff.mp hc).1
        have : z.length = z.cps.size := rfl
        exact small1000 (by omega)
      · have : decide (c ∈ lettersS.cps.toList) = true := decide_eq_true (g.ok c (by
          rw [Array.mem_toList_iff]
          exact Array.mem_of_getElem? hc))
        rw [this, List.map_append]
        exact upd_same
      · rcases List.mem_append.mp hb' with h | h
        · exact hb b h
        · simpa using h
    · rintro H1 ⟨bs, eD, hl, hb, sm⟩
      refine ⟨D, bs, rfl, .inl (.inl eD), ?_⟩
      have : bs.all id = true := List.all_eq_true.mpr fun b h => hb b h
      rw [this]
      exact q H1 sm
def spInts (K : PySem.W.Frag) : Sp := fun vs H Q _ => ∃ (a : Addr) (is : List Int), vs = [.ref a, .int is.length] ∧ SqT K H a (is.map V.int) ∧ is.length ≤ 1000 ∧ ∀ H', Same H H' → Q (.bl true) H'
theorem sc_are_integers : FnScope ["value", "many", "number"] ["value", "many"] (defScope s_are_integers) := ⟨rfl, rfl, rfl, by decide +kernel, rfl, by decide +kernel, by decide +kernel⟩
theorem are_integers_ok (D : DefIn K mg "are_integers" s_are_integers) (T : Fre mg) (D_is_integer : DOk P w K mg base CX0 1 "is_integer" ["value"] spInt) : DOk P w K mg base CX0 2 "are_integers" ["value", "many"] (spInts K) := by
  refine D.ok sc_are_integers (fun vs H Q E h => ?_) (fun _ _ _ _ _ _ us hl => match us, hl with | [_, _], _ => rfl) (fun cdv A outer s H vs Q E hr h => ?_)
  · obtain ⟨_, _, rfl, _⟩ := h
    rfl
  · obtain ⟨a, is, rfl, ha, hl, q⟩ := h
    refine ⟨_, (pss_one (ps_ret (pe_and (pe_callB call_isi (by rfl) T.isinstance (by decide +kernel) (pa_cons (pv 0) (pa_cons (pe_bltn (v := .ty "tuple") (by rfl) T.tuple_ (by decide +kernel) rfl) pa_nil))) (pe_and (pe_cmpR op_eq (pe_callB call_len_seq (by rfl) T.len_ (by decide +kernel) (pa_cons (pv 0) pa_nil)) (pv 1) (nomark _)) (pe_one (pe_callB (cr_all rfl) (by rfl) T.all_ (by decide +kernel) (pa_cons (pe_lc (own := [("number", 2)]) (g := gName 2) (tt := tYes) rfl sc_are_integers.nd (pi_tup (pv 0)) (blkOk_by (N := ["value", "many", "number"]) (sc := defScope s_are_integers) (by decide +kernel)) (fun _ _ _ _ _ => (pg_name (i := 2) sc_are_integers.nd rfl (.inl rfl))) (fun _ _ _ _ _ => pts_nil) (fun _ _ _ _ _ => (pe_fn D_is_integer hr (pa_cons (pv 2) pa_nil)))) pa_nil))))))), ?_⟩
    refine ⟨.ref a, rfl, .ref a, .ty "tuple", _, _, true, rfl, .ty _, tyT ha, kit_ty (by decide +kernel), true, rfl, iteT ?_⟩
    refine ⟨.ref a, rfl, a, _, rfl, .inr ha, .int is.length, rfl, rfl, ?_⟩
    refine ⟨_, rfl, ifT ?_ ?_⟩
    · rw [List.length_map]
      exact decide_eq_true rfl
    refine ⟨.ref a, rfl, a, rfl, ⟨_, ha⟩, ?_⟩
    intro D nD
    refine lc_tup (K := K) (a := a) (xs := is.map V.int) (fun i H1 => ∃ bs : List Bool, H1 D = some (.lst (bs.map V.bl)) ∧ bs.length = i ∧ (∀ b ∈ bs, b = true) ∧ Same H H1) ⟨[], upd_same, rfl, fun b hb => absurd hb (by simp), same_upd nD⟩ ?_ ?_ ?_
    · rintro i H1 hi ⟨_, _, _, _, sm⟩
      exact sm.sqt ha
    · rintro i x H1 hx ⟨bs, eD, hlb, hb, sm⟩
      rw [List.getElem?_map] at hx
      have hi : i < is.length := by
        rcases Nat.lt_or_ge i is.length with h | h
        · exact h
        · rw [List.getElem?_eq_none h] at hx
          cases hx
      rw [List.getElem?_eq_getElem hi] at hx
      cases hx
      refine ⟨rfl, _, rfl, _, rfl, _, eD, by rw [List.length_map, hlb]; exact small1000 (by omega), bs ++ [true], ?_, by rw [List.length_append, hlb]; rfl, fun b hb' => ?_, same_set sm nD⟩
      · rw [List.map_append]
        exact upd_same
      · rcases List.mem_append.mp hb' with h | h
        · exact hb b h
        · simpa using h
    · rintro H1 ⟨bs, eD, hlb, hb, sm⟩
      refine ⟨D, bs, rfl, .inl (.inl eD), ?_⟩
      have : bs.all id = true := List.all_eq_true.mpr fun b h => hb b h
      rw [this]
      exact q H1 sm
def spFact (K : PySem.W.Frag) : Sp := fun vs H Q _ => ∃ v f, vs = [v] ∧ FactV K H v f ∧ 0 ≤ f.p ∧ ∀ H', Same H H' → Q (.bl true) H'
theorem sc_is_fact : FnScope ["value"] ["value"] (defScope s_is_fact) := ⟨rfl, rfl, rfl, by decide +kernel, rfl, by decide +kernel, by decide +kernel⟩
theorem is_fact_ok (D : DefIn K mg "is_fact" s_is_fact) (D_are_integers : DOk P w K mg base CX0 2 "are_integers" ["value", "many"] (spInts K)) : DOk P w K mg base CX0 3 "is_fact" ["value"] (spFact K) := by
  refine D.ok sc_is_fact (fun vs H Q E h => ?_) (fun _ _ _ _ _ _ us hl => match us, hl with | [_], _ => rfl) (fun cdv A outer s H vs Q E hr h => ?_)
  · obtain ⟨_, _, rfl, _⟩ := h
    rfl
  · obtain ⟨_, f, rfl, ⟨a, rfl, ha⟩, h0, q⟩ := h
    refine ⟨_, (pss_one (ps_ret (pe_and (pe_fn D_are_integers hr (pa_cons (pv 0) (pa_cons pe_int pa_nil))) (pe_one (pe_cmpR op_ge (pe_ix ix_tup (pv 0) pe_int (fun _ _ => rfl)) pe_int (nomark _)))))), ?_⟩
    refine ⟨.ref a, rfl, a, [f.s, f.l, f.p], rfl, ha, by show 3 ≤ 1000; decide, fun H1 s1 => ⟨true, rfl, iteT ?_⟩⟩
    refine ⟨.ref a, rfl, a, _, _, _, rfl, rfl, s1.sqt ha, atI_nat (j := 2) rfl, _, _, rfl, rfl, ?_⟩
    exact qbl (decide_eq_true h0) (q H1 s1)
def spChkFacts (K : PySem.W.Frag) : Sp := fun vs H Q _ => ∃ v F, vs = [v, .int 40] ∧ FactsV K H v F ∧ (∀ f ∈ F, 0 ≤ f.p) ∧ F.length ≤ 40 ∧ ∀ H', Same H H' → Q .non H'
theorem sc_check_facts : FnScope ["facts", "most", "at", "fact"] ["facts", "most"] (defScope s_check_facts) := ⟨rfl, rfl, rfl, by decide +kernel, rfl, by decide +kernel, by decide +kernel⟩
theorem check_facts_ok (D : DefIn K mg "check_facts" s_check_facts) (T : Fre mg) (D_is_fact : DOk P w K mg base CX0 3 "is_fact" ["value"] (spFact K)) : DOk P w K mg base CX0 4 "check_facts" ["facts", "most"] (spChkFacts K) := by
  refine D.ok sc_check_facts (fun vs H Q E h => ?_) (fun _ _ _ _ _ _ us hl => match us, hl with | [_, _], _ => rfl) (fun cdv A outer s H vs Q E hr h => ?_)
  · obtain ⟨_, _, rfl, _⟩ := h
    rfl
  · obtain ⟨_, F, rfl, ⟨a, xs, rfl, ha, hp⟩, h0, hl, q⟩ := h
    refine ⟨_, (pss_cons (ps_if (pt_not (pt_val (pe_callB call_isi (by rfl) T.isinstance (by decide +kernel) (pa_cons (pv 0) (pa_cons (pe_bltn (v := .ty "tuple") (by rfl) T.tuple_ (by decide +kernel) rfl) pa_nil))))) (pss_one ps_never) pss_nil)
      (pss_one (ps_for PassesOwn.never rfl (pi_enumT T.enumerate (pa_cons (pv 0) pa_nil)) (pg_tup rfl (pgs_cons (pg_name (i := 2) sc_check_facts.nd rfl (.inl rfl)) (pgs_cons (pg_name (i := 3) sc_check_facts.nd rfl (.inl rfl)) pgs_nil)))
        (pss_one (ps_if (PW.pt (pw_or (pt_cmpR op_eq (pv 2) (pv 1) (nomark _)) (pw_or1 (pt_not (pt_val (pe_fn D_is_fact hr (pa_cons (pv 3) pa_nil))))))) (pss_one ps_never) pss_nil))))), ?_⟩
    refine ⟨.ref a, rfl, .ref a, .ty "tuple", _, _, true, rfl, .ty _, tyT ha, kit_ty (by decide +kernel), true, rfl, iteF ?_⟩
    refine ⟨.ref a, rfl, a, xs, rfl, ha, ?_⟩
    refine for_enumT (xs := xs) (fun i σ H1 => ∃ t2 t3, σ = [some (.ref a), some (.int 40), t2, t3] ∧ Same H H1) ⟨none, none, rfl, Same.refl H⟩ ?_ ?_ ?_
    · rintro i σ H1 hi ⟨_, _, rfl, sm⟩
      exact sm.sqt ha
    · rintro i x σ H1 t hx ⟨t2, t3, rfl, sm⟩ nt
      obtain ⟨f, hf, fv⟩ := paired_get hp hx
      have hi : i < F.length := (List.getElem?_eq_some_iff.mp hf).1
      have s2 := same_upd (o := .tup [.int (i : Nat), x]) nt
      refine ⟨t, _, rfl, .inl (.inl upd_same), rfl, _, _, rfl, _, _, rfl, rfl, ?_⟩
      refine ⟨.int i, rfl, .int 40, rfl, rfl, _, rfl, ifF (vint_ne (by omega)) ?_⟩
      refine ⟨x, rfl, x, f, rfl, fv.ts (sm.trans s2).ts, h0 f (List.mem_of_getElem? hf), fun H3 s3 => ⟨true, rfl, iteF ?_⟩⟩
      exact ⟨_, _, rfl, (sm.trans s2).trans s3⟩
    · rintro σ H1 ⟨_, _, rfl, sm⟩
      exact q H1 sm
end
end Kr

set_option Elab.async false
set_option linter.all false
set_option maxRecDepth 100000
set_option maxHeartbeats 4000000
/-! Walks: promises, whether they are true. -/
namespace Kr
open PySem PySem.Spec PyProof.Rows L2
open Classical in
theorem truthS_sure (tab : Tab) (a : Str) (f : Fct) : truthS tab (.sure a f) = if Comp ((getF tab a).getD []) then (if sureB ((getF tab a).getD []) f = true then none else some (.rest (knownOf ((getF tab a).getD []) f.s).1 (knownOf ((getF tab a).getD []) f.s).2)) else some .non := rfl
open Classical in
theorem truthS_much (tab : Tab) (a b : Str) : truthS tab (.much a b) = if Comp ((getF tab a).getD []) then (unsure ((getF tab a).getD []) ((getF tab b).getD [])).head?.map .idx else some .non := rfl
theorem truthS_tog (tab : Tab) (a b : Str) : truthS tab (.tog a b) = (firstQ ((getF tab a).getD [] ++ (getF tab b).getD [])).map fun p => .pair p.1 p.2 := rfl
/-- t + u of tuples, whichever of the three ways it takes -/
theorem catA_one {K : PySem.W.Frag} {H : Hp} {x y : V} {Q : VK} {a b : Addr} {xs ys : List V} (ex : x = .ref a) (ey : y = .ref b) (hx : SqT K H a xs) (hy : SqT K H b ys) (hl : xs.length + ys.length ≤ sizeLine)
    (h : ∀ p H0, Same H H0 → SqT K H0 p (xs ++ ys) → Q (.ref p) H0) : rCatA K x y H Q :=
  ⟨a, b, xs, ys, ex, ey, hx, hy, hl, fun e => h b H (Same.refl H) (by rw [e]; exact hy), fun _ e => h a H (Same.refl H) (by rw [e, List.append_nil]; exact hx), fun _ _ p np => h p _ (same_upd np) (.inl (.inl upd_same))⟩
/-! ### a table in the heap, good facts -/
def TabAt (K : PySem.W.Frag) (H : Hp) (a : Addr) (tab : Tab) : Prop := ∃ kvs, H a = some (.dK kvs) ∧ TabV K H kvs tab
theorem TabAt.ts {K : PySem.W.Frag} {H H' : Hp} {a : Addr} {tab : Tab} (e : Ts H H') (h : TabAt K H a tab) : TabAt K H' a tab := by
  obtain ⟨kvs, h1, h2⟩ := h
  exact ⟨kvs, e.dk _ _ h1, h2.ts e⟩
theorem TabAt.same {K : PySem.W.Frag} {H H' : Hp} {a : Addr} {tab : Tab} (e : Same H H') (h : TabAt K H a tab) : TabAt K H' a tab := by
  obtain ⟨kvs, h1, h2⟩ := h
  exact ⟨kvs, e _ _ h1, h2.ts e.ts⟩
theorem TabAt.get {K : PySem.W.Frag} {H : Hp} {a : Addr} {tab : Tab} {x : Str} {F : List Fct} (h : TabAt K H a tab) (e : getF tab x = some F) : ∃ v, DGet H a (.str x) (some v) ∧ FactsV K H v F := by
  obtain ⟨kvs, h1, h2⟩ := h
  have := h2.val (x := x)
  rw [e] at this
  obtain ⟨v, h3, h4⟩ := this
  exact ⟨v, .inl ⟨kvs, Sum.inr x, .inl h1, rfl, h3.symm⟩, h4⟩
def big : Int := 10 ^ 30
/-- good facts, by a base n -/
structure FOk (n : Nat) (F : List Fct) : Prop where
  by_ : By n F
  len : F.length ≤ 4
  bd : ∀ f ∈ F, -big ≤ f.s ∧ f.s ≤ big ∧ -big ≤ f.l ∧ f.l ≤ big
def TOk (n : Nat) (tab : Tab) : Prop := ∀ p ∈ tab, FOk n p.2
theorem TOk.get {n : Nat} {tab : Tab} {x : Str} {F : List Fct} (h : TOk n tab) (e : getF tab x = some F) : FOk n F := h _ (getF_mem e)
/-- a promise by its form, about names of a table -/
structure UOk (tab : Tab) (u : Vow) : Prop where
  nm : ∀ x ∈ u.names, ∃ F, getF tab x = some F
  p0 : ∀ a f, u = .sure a f → 0 ≤ f.p
theorem FOk.p0 {n : Nat} {F : List Fct} (h : FOk n F) : ∀ f ∈ F, 0 ≤ f.p := fun f hf => Int.le_of_lt (h.by_ f hf).1
section
variable {P : Program} {w : World} {K : PySem.W.Frag} {mg : Str → Option Value} {base : Heap}
def ShowR (K : PySem.W.Frag) (H : Hp) (b : Bool) (v : V) : Option Shown → Prop
  | none => b = true
  | some sh => b = false ∧ ShownV K H v sh
def spTruth (K : PySem.W.Frag) : Sp := fun vs H Q _ => ∃ a v n tab u, vs = [.ref a, v] ∧ TabAt K H a tab ∧ VowV K H v u ∧ Base n ∧ TOk n tab ∧ UOk tab u ∧
  ∀ H' p b y, Same H H' → H' p = some (.tup [.bl b, y]) → ShowR K H' b y (truthS tab u) → Q (.ref p) H'
theorem factsV_app {K : PySem.W.Frag} {H : Hp} {xs ys : List V} {F G : List Fct} (h : Paired (FactV K H) xs F) (h' : Paired (FactV K H) ys G) : Paired (FactV K H) (xs ++ ys) (F ++ G) := paired_append h h'
theorem sc_truth_of : FnScope ["table", "promise", "facts", "found"] ["table", "promise"] (defScope s_truth_of) := ⟨rfl, rfl, rfl, by decide +kernel, rfl, by decide +kernel, by decide +kernel⟩
theorem unsI_head (F G : List Fct) : unsI F G G.length = (unsure F G).map fun k : Nat => V.int k := rfl
theorem truth_of_ok (D : DefIn K mg "truth_of" s_truth_of) (D_all_quarrels : DOk P w K mg base CX0 4 "all_quarrels" ["facts"] (spAllQ K)) (D_is_sure : DOk P w K mg base CX0 5 "is_sure" ["facts", "fact"] (spSure K))
    (D_known_by : DOk P w K mg base CX0 4 "known_by" ["facts", "place"] (spKnown K)) (D_unsure_ones : DOk P w K mg base CX0 6 "unsure_ones" ["one", "other"] (spUnsure K)) : DOk P w K mg base CX0 7 "truth_of" ["table", "promise"] (spTruth K) := by
  refine D.ok sc_truth_of (fun vs H Q E h => ?_) (fun _ _ _ _ _ _ us hl => match us, hl with | [_, _], _ => rfl) (fun cdv A outer s H vs Q E hr h => ?_)
  · obtain ⟨_, _, _, _, _, rfl, _⟩ := h
    rfl
  · obtain ⟨a, _, n, tab, u, rfl, ht, ⟨c, rfl, hc⟩, hn, htk, huk, q⟩ := h
    have hu := hu_of hr
    have hu0 := Nat.lt_of_succ_lt hu
    refine ⟨_, (pss_cons (ps_set (i := 2) sc_truth_of.nd rfl (.inl rfl) (pe_dget hu (pv 0) (pe_ix ix_tup (pv 1) pe_int (fun _ _ => rfl)) (fun _ _ => rfl)))
      (pss_cons (ps_if (pt_cmpR op_eq (pe_ix ix_tup (pv 1) pe_int (fun _ _ => rfl)) pe_str (nomark _)) (pss_cons (ps_set (i := 3) sc_truth_of.nd rfl (.inl rfl) (pe_fn D_all_quarrels hr (pa_cons (pe_op op_catA (pv 2) (pe_dget hu (pv 0) (pe_ix ix_tup (pv 1) pe_int (fun _ _ => rfl)) (fun _ _ => rfl))) pa_nil)))
        (pss_one (ps_ret (pe_tup (pa_cons (pe_cmpR (op_eq0L hu0) (pv 3) (pe_lst pa_nil) (nomark _)) (pa_cons (pe_ifExp (pt_cmpR (op_ne0L hu0) (pv 3) (pe_lst pa_nil) (nomark _)) (pe_ix ix_list (pv 3) pe_int (fun _ _ => rfl)) pe_non) pa_nil)))))) pss_nil)
      (pss_cons (ps_if (pt_cmpR (op_ne0L hu0) (pe_fn D_all_quarrels hr (pa_cons (pv 2) pa_nil)) (pe_lst pa_nil) (nomark _)) (pss_one (ps_ret (pe_tup (pa_cons pe_bl (pa_cons pe_non pa_nil))))) pss_nil)
      (pss_cons (ps_if (pt_cmpR op_eq (pe_ix ix_tup (pv 1) pe_int (fun _ _ => rfl)) pe_str (nomark _)) (pss_one (ps_ret (pe_tup (pa_cons (pe_fn D_is_sure hr (pa_cons (pv 2) (pa_cons (pe_slice sl_tupA (pv 1) (po_some pe_int) po_none) pa_nil))) (pa_cons (pe_fn D_known_by hr (pa_cons (pv 2) (pa_cons (pe_ix ix_tup (pv 1) pe_int (fun _ _ => rfl)) pa_nil))) pa_nil))))) pss_nil)
      (pss_cons (ps_set (i := 3) sc_truth_of.nd rfl (.inl rfl) (pe_fn D_unsure_ones hr (pa_cons (pv 2) (pa_cons (pe_dget hu (pv 0) (pe_ix ix_tup (pv 1) pe_int (fun _ _ => rfl)) (fun _ _ => rfl)) pa_nil))))
      (pss_one (ps_ret (pe_tup (pa_cons (pe_cmpR (op_eq0L hu0) (pv 3) (pe_lst pa_nil) (nomark _)) (pa_cons (pe_ifExp (pt_cmpR (op_ne0L hu0) (pv 3) (pe_lst pa_nil) (nomark _)) (pe_ix ix_list (pv 3) pe_int (fun _ _ => rfl)) pe_non) pa_nil)))))))))), ?_⟩
    cases u with
    | sure x f =>
      obtain ⟨F, hF⟩ := huk.nm x (by simp [Vow.names])
      obtain ⟨v, hg, hv⟩ := ht.get hF
      have fo := htk.get hF
      have eF : (getF tab x).getD [] = F := by rw [hF]; rfl
      refine ⟨.ref a, rfl, .ref c, rfl, c, _, _, _, rfl, rfl, hc, atI_nat (j := 1) rfl, a, v, rfl, hg, ?_⟩
      refine ⟨.ref c, rfl, c, _, _, _, rfl, rfl, hc, atI_nat (j := 0) rfl, rfl, _, rfl, ifF (by decide +kernel) ?_⟩
      refine ⟨v, rfl, v, F, rfl, hv, Nat.le_trans fo.len (by decide), fun H1 p ys s1 ep hys => ?_⟩
      refine ⟨Nat.zero_le _, fun l nl => ⟨p, l, ys, rfl, rfl, .inl (.inl (same_upd nl _ _ ep)), .inl (.inl upd_same), _, rfl, ?_⟩⟩
      have s2 := s1.trans (same_upd (o := .lst []) nl)
      generalize upd H1 l (.lst []) = H2 at s2 ⊢
      rcases hys with ⟨rfl, hcomp⟩ | ⟨t, r, i, j, rfl, hfi, _⟩
      · refine iteF ⟨.ref c, rfl, c, _, _, _, rfl, rfl, s2.sqt hc, atI_nat (j := 0) rfl, rfl, _, rfl, ifT (by decide +kernel) ?_⟩
        refine ⟨v, rfl, .ref c, rfl, 2, rfl, c, _, rfl, s2.sqt hc, fun hw => absurd (show HT.sIx 5 0 (some 2) = 0 from hw.1) (by decide), fun _ t nt => ?_⟩
        have s3 := s2.trans (same_upd (o := .tup (cutV (Vow.sure x f).vs (some 2) none)) nt)
        refine ⟨v, .ref t, F, f, rfl, hv.ts s3.ts, ⟨t, rfl, .inl (.inl upd_same)⟩, By.parts hn fo.by_, hcomp, huk.p0 x f rfl, fun H3 s4 => ?_⟩
        have s5 := s3.trans s4
        refine ⟨v, rfl, .ref c, rfl, c, _, _, _, rfl, rfl, s5.sqt hc, atI_nat (j := 2) rfl, v, F, f.s, rfl, hv.ts s5.ts, By.parts hn fo.by_, hcomp, fun H4 k s6 ek => ?_⟩
        refine ⟨by show 2 ≤ sizeLine; decide, fun r nr => ?_⟩
        have s7 := (s5.trans s6).trans (same_upd (o := .tup [.bl (sureB F f), .ref k]) nr)
        refine q _ r _ _ s7 upd_same ?_
        rw [truthS_sure, eF, if_pos hcomp]
        cases hs : sureB F f with
        | true => exact rfl
        | false => exact ⟨rfl, k, rfl, .inl (.inl (same_upd nr _ _ ek))⟩
      · refine iteT ⟨by show 2 ≤ sizeLine; decide, fun r nr => ?_⟩
        refine q _ r _ _ (s2.trans (same_upd nr)) upd_same ?_
        rw [truthS_sure, eF, if_neg hfi.nocomp]
        exact ⟨rfl, rfl⟩
    | much x y =>
      obtain ⟨F, hF⟩ := huk.nm x (by simp [Vow.names])
      obtain ⟨G, hG⟩ := huk.nm y (by simp [Vow.names])
      obtain ⟨v, hg, hv⟩ := ht.get hF
      have fo := htk.get hF
      have go := htk.get hG
      have eF : (getF tab x).getD [] = F := by rw [hF]; rfl
      have eG : (getF tab y).getD [] = G := by rw [hG]; rfl
      refine ⟨.ref a, rfl, .ref c, rfl, c, _, _, _, rfl, rfl, hc, atI_nat (j := 1) rfl, a, v, rfl, hg, ?_⟩
      refine ⟨.ref c, rfl, c, _, _, _, rfl, rfl, hc, atI_nat (j := 0) rfl, rfl, _, rfl, ifF (by decide +kernel) ?_⟩
      refine ⟨v, rfl, v, F, rfl, hv, Nat.le_trans fo.len (by decide), fun H1 p ys s1 ep hys => ?_⟩
      refine ⟨Nat.zero_le _, fun l nl => ⟨p, l, ys, rfl, rfl, .inl (.inl (same_upd nl _ _ ep)), .inl (.inl upd_same), _, rfl, ?_⟩⟩
      have s2 := s1.trans (same_upd (o := .lst []) nl)
      generalize upd H1 l (.lst []) = H2 at s2 ⊢
      rcases hys with ⟨rfl, hcomp⟩ | ⟨t, r, i, j, rfl, hfi, _⟩
      · refine iteF ⟨.ref c, rfl, c, _, _, _, rfl, rfl, s2.sqt hc, atI_nat (j := 0) rfl, rfl, _, rfl, ifF (by decide +kernel) ?_⟩
        obtain ⟨w2, hg2, hv2⟩ := (ht.same s2).get hG
        refine ⟨v, rfl, .ref a, rfl, .ref c, rfl, c, _, _, _, rfl, rfl, s2.sqt hc, atI_nat (j := 2) rfl, a, w2, rfl, hg2, v, w2, F, G, rfl, hv.ts s2.ts, hv2, By.parts hn fo.by_, hcomp, go.p0, Nat.le_trans go.len (by decide), fun H3 d s3 ed => ?_⟩
        rw [unsI_head] at ed
        refine ⟨.ref d, rfl, Nat.zero_le _, fun l2 nl2 => ⟨d, l2, _, rfl, rfl, .inl (.inl (same_upd nl2 _ _ ed)), .inl (.inl upd_same), ?_⟩⟩
        have s4 := (s2.trans s3).trans (same_upd (o := .lst []) nl2)
        have ed4 := same_upd (o := .lst []) nl2 _ _ ed
        generalize upd H3 l2 (.lst []) = H4 at s4 ed4 ⊢
        refine ⟨.ref d, rfl, Nat.zero_le _, fun l3 nl3 => ⟨d, l3, _, rfl, rfl, .inl (.inl (same_upd nl3 _ _ ed4)), .inl (.inl upd_same), _, rfl, ?_⟩⟩
        have s5 := s4.trans (same_upd (o := .lst []) nl3)
        have ed5 := same_upd (o := .lst []) nl3 _ _ ed4
        generalize upd H4 l3 (.lst []) = H5 at s5 ed5 ⊢
        have eT : truthS tab (.much x y) = (unsure F G).head?.map .idx := by
          rw [truthS_much, eF, eG, if_pos hcomp]
        cases hU : unsure F G with
        | nil =>
          rw [hU] at eT ed5
          refine iteF ⟨by show 2 ≤ sizeLine; decide, fun r nr => ?_⟩
          refine q _ r _ _ (s5.trans (same_upd nr)) upd_same ?_
          rw [eT]
          exact rfl
        | cons k r =>
          rw [hU] at eT ed5
          refine iteT ⟨.ref d, rfl, d, _, _, _, rfl, rfl, .inl (.inl ed5), atI_nat (j := 0) rfl, by show 2 ≤ sizeLine; decide, fun r nr => ?_⟩
          refine q _ r _ _ (s5.trans (same_upd nr)) upd_same ?_
          rw [eT]
          exact ⟨rfl, rfl⟩
      · refine iteT ⟨by show 2 ≤ sizeLine; decide, fun r nr => ?_⟩
        refine q _ r _ _ (s2.trans (same_upd nr)) upd_same ?_
        rw [truthS_much, eF, if_neg hfi.nocomp]
        exact ⟨rfl, rfl⟩
    | tog x y =>
      obtain ⟨F, hF⟩ := huk.nm x (by simp [Vow.names])
      obtain ⟨G, hG⟩ := huk.nm y (by simp [Vow.names])
      obtain ⟨v, hg, hv⟩ := ht.get hF
      obtain ⟨v2, hg2, hv2⟩ := ht.get hG
      have fo := htk.get hF
      have go := htk.get hG
      have eF : (getF tab x).getD [] = F := by rw [hF]; rfl
      have eG : (getF tab y).getD [] = G := by rw [hG]; rfl
      refine ⟨.ref a, rfl, .ref c, rfl, c, _, _, _, rfl, rfl, hc, atI_nat (j := 1) rfl, a, v, rfl, hg, ?_⟩
      refine ⟨.ref c, rfl, c, _, _, _, rfl, rfl, hc, atI_nat (j := 0) rfl, rfl, _, rfl, ifT (by decide +kernel) ?_⟩
      refine ⟨v, rfl, .ref a, rfl, .ref c, rfl, c, _, _, _, rfl, rfl, hc, atI_nat (j := 2) rfl, a, v2, rfl, hg2, ?_⟩
      obtain ⟨a1, xs, rfl, hxs, hp1⟩ := hv
      obtain ⟨a2, ys2, rfl, hys2, hp2⟩ := hv2
      have l1 : xs.length ≤ 4 := by rw [hp1.length]; exact fo.len
      have l2 : ys2.length ≤ 4 := by rw [hp2.length]; exact go.len
      have bigL : 2000 ≤ sizeLine := by decide
      refine catA_one rfl rfl hxs hys2 (by omega) fun p0 H0 s0 h0 => ?_
      have hp12 : Paired (FactV K H0) (xs ++ ys2) (F ++ G) := Paired.mapP (paired_append hp1 hp2) fun _ _ z => z.ts s0.ts
      refine ⟨_, F ++ G, rfl, ⟨p0, _, rfl, h0, hp12⟩, by rw [← hp12.length, List.length_append]; omega, fun H1 p ys s1 ep hys => ?_⟩
      have s2 := s0.trans s1
      refine ⟨.ref p, rfl, Nat.zero_le _, fun l nl => ⟨p, l, ys, rfl, rfl, .inl (.inl (same_upd nl _ _ ep)), .inl (.inl upd_same), ?_⟩⟩
      have sl := same_upd (o := .lst []) nl
      refine ⟨.ref p, rfl, Nat.zero_le _, fun l2 nl2 => ⟨p, l2, ys, rfl, rfl, .inl (.inl (same_upd nl2 _ _ (sl _ _ ep))), .inl (.inl upd_same), _, rfl, ?_⟩⟩
      have s3 := (s2.trans sl).trans (same_upd (o := .lst []) nl2)
      have ep3 := same_upd (o := .lst []) nl2 _ _ (sl _ _ ep)
      have s13 := sl.trans (same_upd (o := .lst []) nl2)
      generalize upd (upd H1 l (.lst [])) l2 (.lst []) = H3 at s3 ep3 s13 ⊢
      rcases hys with ⟨rfl, hcomp⟩ | ⟨t, r, i, j, rfl, hfi, et⟩
      · refine iteF ⟨by show 2 ≤ sizeLine; decide, fun r nr => ?_⟩
        refine q _ r _ _ (s3.trans (same_upd nr)) upd_same ?_
        rw [truthS_tog, eF, eG, firstQ_none hcomp]
        exact rfl
      · refine iteT ⟨.ref p, rfl, p, _, _, _, rfl, rfl, .inl (.inl ep3), atI_nat (j := 0) rfl, by show 2 ≤ sizeLine; decide, fun r nr => ?_⟩
        refine q _ r _ _ (s3.trans (same_upd nr)) upd_same ?_
        rw [truthS_tog, eF, eG, firstQ_some hfi]
        exact ⟨rfl, t, rfl, .inl (.inl (same_upd nr _ _ (s13 _ _ et)))⟩
end
end Kr

set_option Elab.async false
set_option linter.all false
set_option maxRecDepth 100000
set_option maxHeartbeats 4000000
/-! The program's own exceptions; walks that may raise one. -/
namespace Kr
open PySem PySem.Spec PyProof.Rows L2
/-- __init__(self, f): self.f = f -/
def spIni1 (C : Addr) (f : Str) : Sp := fun vs H Q _ => ∃ a y, vs = [.ref a, y] ∧ H a = some (exo a C none) ∧ ∀ dx, H dx = none → dx ≠ a → Q .non (upd (upd H dx (exd dx [(f, y)])) a (exo a C (some dx)))
def spIni2 (C : Addr) (f g : Str) : Sp := fun vs H Q _ => ∃ a y z, vs = [.ref a, y, z] ∧ H a = some (exo a C none) ∧ ∀ dx, H dx = none → dx ≠ a → Q .non (upd (upd (upd H dx (exd dx [(f, y)])) a (exo a C (some dx))) dx (exd dx [(g, z), (f, y)]))
/-- what stands behind the making of an exception -/
theorem made_eq {H : Hp} {a d C : Addr} {fs gs : List (Str × V)} (ha : H a = none) (hd : H d = none) (ne : d ≠ a) : upd (del (upd (upd (upd H a (exo a C none)) d (exd d gs)) a (exo a C (some d))) a) d (.xd fs) = upd H d (.xd fs) := by
  funext b
  by_cases hb : b = d
  · rw [hb, upd_same, upd_same]
  · rw [upd_ne hb, upd_ne hb]
    by_cases hba : b = a
    · rw [hba, del_same, ha]
    · rw [del_ne hba, upd_ne hba, upd_ne hb, upd_ne hba]
theorem made_eq2 {H : Hp} {a d C : Addr} {fs gs hs : List (Str × V)} (ha : H a = none) (hd : H d = none) (ne : d ≠ a) : upd (del (upd (upd (upd (upd H a (exo a C none)) d (exd d gs)) a (exo a C (some d))) d (exd d hs)) a) d (.xd fs) = upd H d (.xd fs) := by
  funext b
  by_cases hb : b = d
  · rw [hb, upd_same, upd_same]
  · rw [upd_ne hb, upd_ne hb]
    by_cases hba : b = a
    · rw [hba, del_same, ha]
    · rw [del_ne hba, upd_ne hb, upd_ne hba, upd_ne hb, upd_ne hba]
theorem mk1 {H : Hp} {C : Addr} {f : Str} {y : V} {Q : XK} (h : ∀ d, H d = none → Q (.ref C) (some d) (upd H d (.xd [(f, y)]))) : [y].length ≤ 1000 ∧ ∀ a, H a = none → spIni1 C f (.ref a :: ([y] ++ [])) (upd H a (exo a C none))
    (fun v H2 => v = .non ∧ ∃ (d : Addr) (fs : List (Str × V)), H2 a = some (exo a C (some d)) ∧ H2 d = some (exd d fs) ∧ H d = none ∧ Q (.ref C) (some d) (upd (del H2 a) d (.xd fs))) (fun _ _ _ => False) := by
  refine ⟨by show 1 ≤ 1000; decide, fun a na => ⟨a, y, rfl, upd_same, fun dx nd ne => ⟨rfl, dx, [(f, y)], upd_same, ?_, ?_, ?_⟩⟩⟩
  · rw [upd_ne ne, upd_same]
  · rw [upd_ne ne] at nd
    exact nd
  · rw [upd_ne ne] at nd
    rw [made_eq na nd ne]
    exact h dx nd
theorem mk2 {H : Hp} {C : Addr} {f g : Str} {y z : V} {Q : XK} (h : ∀ d, H d = none → Q (.ref C) (some d) (upd H d (.xd [(g, z), (f, y)]))) : [y, z].length ≤ 1000 ∧ ∀ a, H a = none → spIni2 C f g (.ref a :: ([y, z] ++ [])) (upd H a (exo a C none))
    (fun v H2 => v = .non ∧ ∃ (d : Addr) (fs : List (Str × V)), H2 a = some (exo a C (some d)) ∧ H2 d = some (exd d fs) ∧ H d = none ∧ Q (.ref C) (some d) (upd (del H2 a) d (.xd fs))) (fun _ _ _ => False) := by
  refine ⟨by show 2 ≤ 1000; decide, fun a na => ⟨a, y, z, rfl, upd_same, fun dx nd ne => ⟨rfl, dx, [(g, z), (f, y)], ?_, upd_same, ?_, ?_⟩⟩⟩
  · rw [upd_ne ne.symm, upd_same]
  · rw [upd_ne ne] at nd
    exact nd
  · rw [upd_ne ne] at nd
    rw [made_eq2 na nd ne]
    exact h dx nd
/-- a method of a class of the module: where it stands -/
structure MethIn (K : PySem.W.Frag) (c m qual : Str) (st : Stmt) : Prop where
  at_ : PySem.W.findIn K (.ref (He.ga K c)) m = some (some (.ref (He.ma K (He.ga K c) m)))
  fn : PySem.W.isFn K (.ref (He.ma K (He.ga K c) m)) = true
  fu : ∃ fd, L2.Fun K m qual st (He.ma K (He.ga K c) m) fd
structure MOk (P : Program) (w : World) (K : PySem.W.Frag) (mg : Str → Option Value) (base : Heap) (CX : CXT) (k : Nat) (c m : Str) (ps : List Str) (sp : Sp) : Prop where
  at_ : PySem.W.findIn K (.ref (He.ga K c)) m = some (some (.ref (He.ma K (He.ga K c) m)))
  fn : PySem.W.isFn K (.ref (He.ma K (He.ga K c) m)) = true
  kp : PySem.W.keepIn K (.ref (He.ma K (He.ga K c) m)) = true
  ok : ∃ fd, FnOk P w K mg base CX k (He.ma K (He.ga K c) m) fd ps sp ∧ Binds K fd ps []
/-- an own exception class with an __init__ -/
structure ExIn (K : PySem.W.Frag) (mg : Str → Option Value) (c : Str) : Prop where
  T : OexG K (He.ga K c)
  tI : PySem.W.typeIn K (.ref (He.ma K (He.ga K c) "__init__")) = some (.type "function")
  gm : mg c = some (.ref (He.ga K c))
section
variable {P : Program} {w : World} {K : PySem.W.Frag} {mg : Str → Option Value} {base : Heap}
theorem MethIn.ok {c m qual : Str} {st : Stmt} {N ps : List Str} {k : Nat} {sp : Sp} (D : MethIn K c m qual st) (S : FnScope N ps (defScope st)) (len : ∀ vs H Q E, sp vs H Q E → vs.length = ps.length)
    (hb : ∀ (kV doc pm : Value) (an : Option Addr) (cdv ct : Value) (us : List Value), us.length = ps.length → bindArgs (PySem.W.fnOf m qual (defArgs st) (defBody st) (defScope st) .none kV doc pm an cdv ct) ⟨us, []⟩ = pure (ps.zip us))
    (hbody : ∀ (cdv : Value) (A : Around) (outer : List Env) (s : Shared) (H : Hp) (vs : List V) (Q : VK) (E : XK), Room k (A.deeper (envOfC qual (defScope st) s.heap.objs.size (He.ma K (He.ga K c) m) cdv)) → sp vs H Q E →
      ∃ t, PSs (cxOf CX0 P w K mg base N qual (defScope st) (He.ma K (He.ga K c) m) cdv A outer s H E).nox (defBody st) t ∧ t { nx := fun _ H' => Q .non H', rt := Q } (L2.start N vs) H) : MOk P w K mg base CX0 (k + 1) c m ps sp := by
  obtain ⟨fd, F⟩ := D.fu
  exact ⟨D.at_, D.fn, F.kp, fd, F.ok S len hbody, F.binds hb⟩
theorem MethIn.okX {c m qual : Str} {st : Stmt} {N ps : List Str} {k : Nat} {sp : Sp} (D : MethIn K c m qual st) (S : FnScope N ps (defScope st)) (len : ∀ vs H Q E, sp vs H Q E → vs.length = ps.length)
    (hb : ∀ (kV doc pm : Value) (an : Option Addr) (cdv ct : Value) (us : List Value), us.length = ps.length → bindArgs (PySem.W.fnOf m qual (defArgs st) (defBody st) (defScope st) .none kV doc pm an cdv ct) ⟨us, []⟩ = pure (ps.zip us))
    (hbody : ∀ (cdv : Value) (A : Around) (outer : List Env) (s : Shared) (H : Hp) (vs : List V) (Q : VK) (E : XK), Room k (A.deeper (envOfC qual (defScope st) s.heap.objs.size (He.ma K (He.ga K c) m) cdv)) → sp vs H Q E →
      ∃ t, PSs (cxOf (L2.CX P w) P w K mg base N qual (defScope st) (He.ma K (He.ga K c) m) cdv A outer s H E) (defBody st) t ∧ t { nx := fun _ H' => Q .non H', rt := Q } (L2.start N vs) H) : MOk P w K mg base (L2.CX P w) (k + 1) c m ps sp := by
  obtain ⟨fd, F⟩ := D.fu
  exact ⟨D.at_, D.fn, F.kp, fd, F.okX S len hbody, F.binds hb⟩
theorem sc_InvalidIndex_init : FnScope ["self", "given"] ["self", "given"] (defScope s_InvalidIndex_init) := ⟨rfl, rfl, rfl, by decide +kernel, rfl, by decide +kernel, by decide +kernel⟩
theorem InvalidIndex_init_ok (D : MethIn K "InvalidIndex" "__init__" "InvalidIndex.__init__" s_InvalidIndex_init) (X0 : ExIn K mg "InvalidIndex") (no : PySem.W.findIn K (.ref (He.ga K "InvalidIndex")) "given" = some none) : MOk P w K mg base CX0 1 "InvalidIndex" "__init__" ["self", "given"] (spIni1 (He.ga K "InvalidIndex") "given") := by
  refine D.ok sc_InvalidIndex_init (fun vs H Q E h => ?_) (fun _ _ _ _ _ _ us hl => match us, hl with | [_, _], _ => rfl) (fun cdv A outer s H vs Q E hr h => ?_)
  · obtain ⟨_, _, rfl, _⟩ := h
    rfl
  · obtain ⟨a, y, rfl, ea, q⟩ := h
    refine ⟨_, (pss_one (ps_ostG (pv 0) (pv 1))), ?_⟩
    exact ⟨y, rfl, .ref a, rfl, a, _, rfl, X0.T, no, .inl ⟨ea, q⟩⟩
theorem sc_UnknownName_init : FnScope ["self", "given"] ["self", "given"] (defScope s_UnknownName_init) := ⟨rfl, rfl, rfl, by decide +kernel, rfl, by decide +kernel, by decide +kernel⟩
theorem UnknownName_init_ok (D : MethIn K "UnknownName" "__init__" "UnknownName.__init__" s_UnknownName_init) (X0 : ExIn K mg "UnknownName") (no : PySem.W.findIn K (.ref (He.ga K "UnknownName")) "given" = some none) : MOk P w K mg base CX0 1 "UnknownName" "__init__" ["self", "given"] (spIni1 (He.ga K "UnknownName") "given") := by
  refine D.ok sc_UnknownName_init (fun vs H Q E h => ?_) (fun _ _ _ _ _ _ us hl => match us, hl with | [_, _], _ => rfl) (fun cdv A outer s H vs Q E hr h => ?_)
  · obtain ⟨_, _, rfl, _⟩ := h
    rfl
  · obtain ⟨a, y, rfl, ea, q⟩ := h
    refine ⟨_, (pss_one (ps_ostG (pv 0) (pv 1))), ?_⟩
    exact ⟨y, rfl, .ref a, rfl, a, _, rfl, X0.T, no, .inl ⟨ea, q⟩⟩
theorem sc_InUse_init : FnScope ["self", "index"] ["self", "index"] (defScope s_InUse_init) := ⟨rfl, rfl, rfl, by decide +kernel, rfl, by decide +kernel, by decide +kernel⟩
theorem InUse_init_ok (D : MethIn K "InUse" "__init__" "InUse.__init__" s_InUse_init) (X0 : ExIn K mg "InUse") (no : PySem.W.findIn K (.ref (He.ga K "InUse")) "index" = some none) : MOk P w K mg base CX0 1 "InUse" "__init__" ["self", "index"] (spIni1 (He.ga K "InUse") "index") := by
  refine D.ok sc_InUse_init (fun vs H Q E h => ?_) (fun _ _ _ _ _ _ us hl => match us, hl with | [_, _], _ => rfl) (fun cdv A outer s H vs Q E hr h => ?_)
  · obtain ⟨_, _, rfl, _⟩ := h
    rfl
  · obtain ⟨a, y, rfl, ea, q⟩ := h
    refine ⟨_, (pss_one (ps_ostG (pv 0) (pv 1))), ?_⟩
    exact ⟨y, rfl, .ref a, rfl, a, _, rfl, X0.T, no, .inl ⟨ea, q⟩⟩
theorem sc_Broken_init : FnScope ["self", "index", "shown"] ["self", "index", "shown"] (defScope s_Broken_init) := ⟨rfl, rfl, rfl, by decide +kernel, rfl, by decide +kernel, by decide +kernel⟩
theorem Broken_init_ok (D : MethIn K "Broken" "__init__" "Broken.__init__" s_Broken_init) (X0 : ExIn K mg "Broken") (no : PySem.W.findIn K (.ref (He.ga K "Broken")) "index" = some none) (no2 : PySem.W.findIn K (.ref (He.ga K "Broken")) "shown" = some none) : MOk P w K mg base CX0 1 "Broken" "__init__" ["self", "index", "shown"] (spIni2 (He.ga K "Broken") "index" "shown") := by
  refine D.ok sc_Broken_init (fun vs H Q E h => ?_) (fun _ _ _ _ _ _ us hl => match us, hl with | [_, _, _], _ => rfl) (fun cdv A outer s H vs Q E hr h => ?_)
  · obtain ⟨_, _, _, rfl, _⟩ := h
    rfl
  · obtain ⟨a, y, z, rfl, ea, q⟩ := h
    refine ⟨_, (pss_cons (ps_ostG (pv 0) (pv 1)) (pss_one (ps_ostG (pv 0) (pv 2)))), ?_⟩
    refine ⟨y, rfl, .ref a, rfl, a, _, rfl, X0.T, no, .inl ⟨ea, fun dx nd ne => ?_⟩⟩
    exact ⟨z, rfl, .ref a, rfl, a, _, rfl, X0.T, no2, .inr ⟨dx, _, upd_same, by rw [upd_ne ne, upd_same], by show 1 ≤ 900; decide, q dx nd ne⟩⟩
/-- Broken(index, shown), if the promise is not true -/
def spChkP (K : PySem.W.Frag) : Sp := fun vs H Q E => ∃ (a : Addr) (i : Int) (v : V) (n : Nat) (tab : Tab) (u : Vow), vs = [.ref a, .int i, v] ∧ TabAt K H a tab ∧ VowV K H v u ∧ Base n ∧ TOk n tab ∧ UOk tab u ∧
  (truthS tab u = none → ∀ H', Same H H' → Q .non H') ∧
  ∀ sh, truthS tab u = some sh → ∀ H' d y, Same H H' → H' d = some (.xd [("shown", y), ("index", .int i)]) → ShownV K H' y sh → E (.ref (He.ga K "Broken")) (some d) H'
theorem sc_check_promise : FnScope ["table", "index", "promise", "is_true", "shown"] ["table", "index", "promise"] (defScope s_check_promise) := ⟨rfl, rfl, rfl, by decide +kernel, rfl, by decide +kernel, by decide +kernel⟩
theorem check_promise_ok (D : DefIn K mg "check_promise" s_check_promise) (D_truth_of : DOk P w K mg base CX0 7 "truth_of" ["table", "promise"] (spTruth K)) (B : ExIn K mg "Broken") (BI : MOk P w K mg base CX0 1 "Broken" "__init__" ["self", "index", "shown"] (spIni2 (He.ga K "Broken") "index" "shown")) :
    DOk P w K mg base (L2.CX P w) 8 "check_promise" ["table", "index", "promise"] (spChkP K) := by
  obtain ⟨fdB, FB, bB⟩ := BI.ok
  refine D.okX sc_check_promise (fun vs H Q E h => ?_) (fun _ _ _ _ _ _ us hl => match us, hl with | [_, _, _], _ => rfl) (fun cdv A outer s H vs Q E hr h => ?_)
  · obtain ⟨_, _, _, _, _, _, rfl, _⟩ := h
    rfl
  · obtain ⟨a, i, v, n, tab, u, rfl, ht, hv, hn, htk, huk, q1, q2⟩ := h
    refine ⟨_, (pss_cons (ps_asg (pe_fn D_truth_of hr (pa_cons (pv 0) (pa_cons (pv 2) pa_nil))) (pg_tup rfl (pgs_cons (pg_name (i := 3) sc_check_promise.nd rfl (.inl rfl)) (pgs_cons (pg_name (i := 4) sc_check_promise.nd rfl (.inl rfl)) pgs_nil))))
      (pss_one (ps_if (pt_not (pt_val (pv 3))) (pss_one (ps_raise rfl (takes_of rfl rfl rfl rfl) (pmk_oexG B.T BI.at_ B.tI FB (hr.mono (by decide)) bB pass0 rfl B.gm (pa_cons (pv 1) (pa_cons (pv 4) pa_nil))))) pss_nil))), ?_⟩
    refine ⟨.ref a, rfl, v, rfl, a, v, n, tab, u, rfl, ht, hv, hn, htk, huk, fun H1 p b y s1 ep hs => ?_⟩
    refine ⟨p, _, rfl, .inl (.inl ep), rfl, _, _, rfl, _, _, rfl, rfl, _, rfl, _, rfl, ?_⟩
    cases hT : truthS tab u with
    | none =>
      rw [hT] at hs
      have hb : b = true := hs
      subst hb
      exact iteF (q1 hT H1 s1)
    | some sh =>
      rw [hT] at hs
      obtain ⟨hb, hy⟩ := hs
      subst hb
      refine iteT ⟨.int i, rfl, y, rfl, mk2 fun d nd => ?_⟩
      exact q2 sh hT _ d y (s1.trans (same_upd nd)) upd_same (hy.ts (same_upd nd).ts)
end
end Kr

set_option Elab.async false
set_option linter.all false
set_option maxRecDepth 100000
set_option maxHeartbeats 4000000
/-! Walks: a promise's form and names. -/
namespace Kr
open PySem PySem.Spec PyProof.Rows L2
section
variable {P : Program} {w : World} {K : PySem.W.Frag} {mg : Str → Option Value} {base : Heap}
def spNamesIn (K : PySem.W.Frag) : Sp := fun vs H Q _ => ∃ v u, vs = [v] ∧ VowV K H v u ∧ ∀ H' p, Same H H' → SqT K H' p (u.names.map V.str) → Q (.ref p) H'
theorem sc_names_in : FnScope ["promise"] ["promise"] (defScope s_names_in) := ⟨rfl, rfl, rfl, by decide +kernel, rfl, by decide +kernel, by decide +kernel⟩
theorem names_in_ok (D : DefIn K mg "names_in" s_names_in) : DOk P w K mg base CX0 1 "names_in" ["promise"] (spNamesIn K) := by
  refine D.ok sc_names_in (fun vs H Q E h => ?_) (fun _ _ _ _ _ _ us hl => match us, hl with | [_], _ => rfl) (fun cdv A outer s H vs Q E hr h => ?_)
  · obtain ⟨_, _, rfl, _⟩ := h
    rfl
  · obtain ⟨_, u, rfl, ⟨c, rfl, hc⟩, q⟩ := h
    refine ⟨_, (pss_one (ps_ret (pe_ifExp (pt_cmpR op_eq (pe_ix ix_tup (pv 0) pe_int (fun _ _ => rfl)) pe_str (nomark _)) (pe_slice sl_tupA (pv 0) (po_some pe_int) (po_some pe_int)) (pe_slice sl_tupA (pv 0) (po_some pe_int) (po_some pe_int))))), ?_⟩
    cases u with
    | sure x f =>
      refine ⟨.ref c, rfl, c, _, _, _, rfl, rfl, hc, atI_nat (j := 0) rfl, rfl, _, rfl, ifT (by decide +kernel) ?_⟩
      refine ⟨.ref c, rfl, 1, rfl, 2, rfl, c, _, rfl, hc, fun hw => absurd (show HT.sIx 5 0 (some 1) = 0 from hw.1) (by decide), fun _ p np => ?_⟩
      exact q _ p (same_upd np) (.inl (.inl upd_same))
    | much x y =>
      refine ⟨.ref c, rfl, c, _, _, _, rfl, rfl, hc, atI_nat (j := 0) rfl, rfl, _, rfl, ifF (by decide +kernel) ?_⟩
      refine ⟨.ref c, rfl, 1, rfl, 3, rfl, c, _, rfl, hc, fun hw => absurd (show HT.sIx 3 0 (some 1) = 0 from hw.1) (by decide), fun _ p np => ?_⟩
      exact q _ p (same_upd np) (.inl (.inl upd_same))
    | tog x y =>
      refine ⟨.ref c, rfl, c, _, _, _, rfl, rfl, hc, atI_nat (j := 0) rfl, rfl, _, rfl, ifF (by decide +kernel) ?_⟩
      refine ⟨.ref c, rfl, 1, rfl, 3, rfl, c, _, rfl, hc, fun hw => absurd (show HT.sIx 3 0 (some 1) = 0 from hw.1) (by decide), fun _ p np => ?_⟩
      exact q _ p (same_upd np) (.inl (.inl upd_same))
/-- SIZES -/
structure SzOk (K : PySem.W.Frag) (w : World) (mg : Str → Option Value) : Prop where
  ex : ∃ d es n, mg "SIZES" = some (.ref d) ∧ KDict K w d es n ∧ (∃ u, PySem.W.nsIn K d "sure" = some (some u) ∧ RelV (.int 5) u) ∧ (∃ u, PySem.W.nsIn K d "as much" = some (some u) ∧ RelV (.int 3) u) ∧ ∃ u, PySem.W.nsIn K d "together" = some (some u) ∧ RelV (.int 3) u
def spIsPromise (K : PySem.W.Frag) : Sp := fun vs H Q _ => ∃ v u, vs = [v] ∧ VowV K H v u ∧ (∀ x ∈ u.names, GoodName x) ∧ (∀ a f, u = .sure a f → 0 ≤ f.p) ∧ ∀ H', Same H H' → Q (.bl true) H'
theorem sc_is_promise : FnScope ["value"] ["value"] (defScope s_is_promise) := ⟨rfl, rfl, rfl, by decide +kernel, rfl, by decide +kernel, by decide +kernel⟩
theorem vow_len : ∀ u : Vow, u.vs.isEmpty = false
  | .sure _ _ => rfl
  | .much _ _ => rfl
  | .tog _ _ => rfl
theorem vow0 : ∀ u : Vow, ∃ z, u.vs[0]? = some (.str z)
  | .sure _ _ => ⟨_, rfl⟩
  | .much _ _ => ⟨_, rfl⟩
  | .tog _ _ => ⟨_, rfl⟩
theorem is_promise_ok (D : DefIn K mg "is_promise" s_is_promise) (T : Fre mg) (SZ : SzOk K w mg) (D_is_name : DOk P w K mg base CX0 1 "is_name" ["value"] spName) (D_is_fact : DOk P w K mg base CX0 3 "is_fact" ["value"] (spFact K)) :
    DOk P w K mg base CX0 4 "is_promise" ["value"] (spIsPromise K) := by
  obtain ⟨d, es, nn, hSZ, KD, ⟨u5, n5, r5⟩, ⟨u3, n3, r3⟩, ⟨u4, n4, r4⟩⟩ := SZ.ex
  refine D.ok sc_is_promise (fun vs H Q E h => ?_) (fun _ _ _ _ _ _ us hl => match us, hl with | [_], _ => rfl) (fun cdv A outer s H vs Q E hr h => ?_)
  · obtain ⟨_, _, rfl, _⟩ := h
    rfl
  · obtain ⟨_, u, rfl, ⟨c, rfl, hc⟩, hnm, hp0, q⟩ := h
    have hu := hu_of hr
    have hu0 := Nat.lt_of_succ_lt hu
    refine ⟨_, (pss_cons (ps_if (PW.pt (pw_or (pt_not (pt_val (pe_callB call_isi (by rfl) T.isinstance (by decide +kernel) (pa_cons (pv 0) (pa_cons (pe_bltn (v := .ty "tuple") (by rfl) T.tuple_ (by decide +kernel) rfl) pa_nil))))) (pw_or (pt_cmpR (op_eq0T hu0) (pv 0) (pe_tup pa_nil) (nomark _)) (pw_or1 (pt_not (pt_val (pe_callB call_isi (by rfl) T.isinstance (by decide +kernel) (pa_cons (pe_ix ix_tup (pv 0) pe_int (fun _ _ => rfl)) (pa_cons (pe_bltn (v := .ty "str") (by rfl) T.str_ (by decide +kernel) rfl) pa_nil))))))))) (pss_one (ps_ret pe_bl)) pss_nil)
      (pss_cons (ps_if (PW.pt (pw_or (pt_cmpR op_ne (pe_kdget2 KD (pe_glob (v := .ref d) rfl hSZ rfl) (pe_ix ix_tup (pv 0) pe_int (fun _ _ => rfl)) pe_int ⟨rfl, rfl, rfl, rfl⟩) (pe_callB call_len_seq (by rfl) T.len_ (by decide +kernel) (pa_cons (pv 0) pa_nil)) (nomark _)) (pw_or1 (pt_not (pt_val (pe_fn D_is_name hr (pa_cons (pe_ix ix_tup (pv 0) pe_int (fun _ _ => rfl)) pa_nil))))))) (pss_one (ps_ret pe_bl)) pss_nil)
      (pss_one (ps_ret (pe_ifExp (pt_cmpR op_eq (pe_ix ix_tup (pv 0) pe_int (fun _ _ => rfl)) pe_str (nomark _)) (pe_fn D_is_fact hr (pa_cons (pe_slice sl_tupA (pv 0) (po_some pe_int) po_none) pa_nil)) (pe_fn D_is_name hr (pa_cons (pe_ix ix_tup (pv 0) pe_int (fun _ _ => rfl)) pa_nil))))))), ?_⟩
    obtain ⟨z0, hz0⟩ := vow0 u
    refine ⟨.ref c, rfl, .ref c, .ty "tuple", _, _, true, rfl, .ty _, tyT hc, kit_ty (by decide +kernel), true, rfl, iteF ?_⟩
    refine ⟨.ref c, rfl, Nat.zero_le _, fun l nl => ⟨c, l, _, rfl, rfl, (same_upd nl).sqt hc, .inl (.inl upd_same), _, rfl, ?_⟩⟩
    have s1 := same_upd (o := .tup []) nl
    generalize upd H l (.tup []) = H1 at s1 ⊢
    refine ifF (vow_len u) ⟨.ref c, rfl, c, _, _, _, rfl, rfl, s1.sqt hc, atI_nat (j := 0) hz0, .str z0, .ty "str", _, _, true, rfl, .ty _, .base (.str z0), kit_ty (by decide +kernel), true, rfl, iteF ?_⟩
    cases u with
    | sure x f =>
      refine ⟨rfl, .ref c, rfl, c, _, _, _, rfl, rfl, s1.sqt hc, atI_nat (j := 0) rfl, _, u5, .int 5, rfl, n5, r5, .ref c, rfl, c, _, rfl, .inr (s1.sqt hc), rfl, _, rfl, ifF (by rfl) ?_⟩
      refine ⟨.ref c, rfl, c, _, _, _, rfl, rfl, s1.sqt hc, atI_nat (j := 1) rfl, x, rfl, hnm x (by simp [Vow.names]), fun H2 s2 => ⟨true, rfl, iteF ?_⟩⟩
      have s3 := s1.trans s2
      refine ⟨.ref c, rfl, c, _, _, _, rfl, rfl, s3.sqt hc, atI_nat (j := 0) rfl, rfl, _, rfl, ifT (by decide +kernel) ?_⟩
      refine ⟨.ref c, rfl, 2, rfl, c, _, rfl, s3.sqt hc, fun hw => absurd (show HT.sIx 5 0 (some 2) = 0 from hw.1) (by decide), fun _ p np => ?_⟩
      refine ⟨.ref p, f, rfl, ⟨p, rfl, .inl (.inl upd_same)⟩, hp0 x f rfl, fun H4 s4 => ?_⟩
      exact q H4 ((s3.trans (same_upd np)).trans s4)
    | much x y =>
      refine ⟨rfl, .ref c, rfl, c, _, _, _, rfl, rfl, s1.sqt hc, atI_nat (j := 0) rfl, _, u3, .int 3, rfl, n3, r3, .ref c, rfl, c, _, rfl, .inr (s1.sqt hc), rfl, _, rfl, ifF (by rfl) ?_⟩
      refine ⟨.ref c, rfl, c, _, _, _, rfl, rfl, s1.sqt hc, atI_nat (j := 1) rfl, x, rfl, hnm x (by simp [Vow.names]), fun H2 s2 => ⟨true, rfl, iteF ?_⟩⟩
      have s3 := s1.trans s2
      refine ⟨.ref c, rfl, c, _, _, _, rfl, rfl, s3.sqt hc, atI_nat (j := 0) rfl, rfl, _, rfl, ifF (by decide +kernel) ?_⟩
      refine ⟨.ref c, rfl, c, _, _, _, rfl, rfl, s3.sqt hc, atI_nat (j := 2) rfl, y, rfl, hnm y (by simp [Vow.names]), fun H4 s4 => ?_⟩
      exact q H4 (s3.trans s4)
    | tog x y =>
      refine ⟨rfl, .ref c, rfl, c, _, _, _, rfl, rfl, s1.sqt hc, atI_nat (j := 0) rfl, _, u4, .int 3, rfl, n4, r4, .ref c, rfl, c, _, rfl, .inr (s1.sqt hc), rfl, _, rfl, ifF (by rfl) ?_⟩
      refine ⟨.ref c, rfl, c, _, _, _, rfl, rfl, s1.sqt hc, atI_nat (j := 1) rfl, x, rfl, hnm x (by simp [Vow.names]), fun H2 s2 => ⟨true, rfl, iteF ?_⟩⟩
      have s3 := s1.trans s2
      refine ⟨.ref c, rfl, c, _, _, _, rfl, rfl, s3.sqt hc, atI_nat (j := 0) rfl, rfl, _, rfl, ifF (by decide +kernel) ?_⟩
      refine ⟨.ref c, rfl, c, _, _, _, rfl, rfl, s3.sqt hc, atI_nat (j := 2) rfl, y, rfl, hnm y (by simp [Vow.names]), fun H4 s4 => ?_⟩
      exact q H4 (s3.trans s4)
end
end Kr

set_option Elab.async false
set_option linter.all false
set_option maxRecDepth 100000
set_option maxHeartbeats 4000000
/-! The desk: its chain of states; its small methods. -/
namespace Kr
open PySem PySem.Spec PyProof.Rows L2
structure AS where
  tab : Tab
  vows : List Vow
/-- a chain of states, the latest first -/
def HeldV (K : PySem.W.Frag) (H : Hp) : V → List AS → Prop
  | v, [] => v = .non
  | v, s :: r => ∃ h t p ys prev, v = .ref h ∧ SqT K H h [.ref t, .ref p, prev, .int (r.length : Nat)] ∧ TabAt K H t s.tab ∧ SqT K H p ys ∧ Paired (VowV K H) ys s.vows ∧ HeldV K H prev r
theorem HeldV.ts {K : PySem.W.Frag} {H H' : Hp} (e : Ts H H') : ∀ {l : List AS} {v : V}, HeldV K H v l → HeldV K H' v l
  | [], _, h => h
  | s :: r, v, h => by
    obtain ⟨h0, t, p, ys, prev, rfl, a, b, c, d, f⟩ := h
    exact ⟨h0, t, p, ys, prev, rfl, e.sqt a, b.ts e, e.sqt c, Paired.mapP d fun _ _ q => q.ts e, f.ts e⟩
/-- the desk at D -/
def DeskAt (K : PySem.W.Frag) (H : Hp) (D : Addr) (l : List AS) : Prop := ∃ dx v, H D = some (.ins (He.ga K "Desk") dx [("held", v)]) ∧ HeldV K H v l
theorem DeskAt.same {K : PySem.W.Frag} {H H' : Hp} {D : Addr} {l : List AS} (e : Same H H') (h : DeskAt K H D l) : DeskAt K H' D l := by
  obtain ⟨dx, v, h1, h2⟩ := h
  exact ⟨dx, v, e _ _ h1, h2.ts e.ts⟩
theorem DeskAt.fr {K : PySem.W.Frag} {H H' : Hp} {D : Addr} {S : List Addr} {l : List AS} (h : DeskAt K H D l) (e : Fr S H H') (n : NoT S H) (hD : D ∉ S) : DeskAt K H' D l := by
  obtain ⟨dx, v, h1, h2⟩ := h
  exact ⟨dx, v, e _ _ hD h1, h2.ts (e.ts n)⟩
theorem DeskAt.noT {K : PySem.W.Frag} {H : Hp} {D : Addr} {l : List AS} (h : DeskAt K H D l) : NoT [D] H := fun b hb => by
  obtain ⟨dx, v, h1, _⟩ := h
  rw [List.mem_singleton.mp hb]
  exact .inr ⟨_, _, _, h1⟩
/-- what the class has -/
structure DeskC (K : PySem.W.Frag) (mg : Str → Option Value) : Prop where
  cl : Cls K (He.ga K "Desk")
  nh : NoAttr K (He.ga K "Desk") "held"
  gm : mg "Desk" = some (.ref (He.ga K "Desk"))
section
variable {P : Program} {w : World} {K : PySem.W.Frag} {mg : Str → Option Value} {base : Heap}
/-- to other states of the desk -/
theorem desk_set {K : PySem.W.Frag} {H H1 : Hp} {D dx : Addr} {v : V} {fs : List (Str × V)} {l : List AS} (s : Same H H1) (e : H1 D = some (.ins (He.ga K "Desk") dx fs)) (h : HeldV K H1 v l) (hf : L2.putF "held" v fs = [(("held" : Str), v)]) :
    Fr [D] H (upd H1 D (.ins (He.ga K "Desk") dx (L2.putF "held" v fs))) ∧ DeskAt K (upd H1 D (.ins (He.ga K "Desk") dx (L2.putF "held" v fs))) D l := by
  refine ⟨fun b o hb q => ?_, dx, v, ?_, h.ts (ts_ins e)⟩
  · rw [upd_ne (fun z => hb (by rw [z]; exact List.mem_singleton_self _))]
    exact s _ _ q
  · rw [upd_same, hf]
def spDInit (K : PySem.W.Frag) : Sp := fun vs H Q _ => ∃ D dx, vs = [.ref D] ∧ H D = some (.ins (He.ga K "Desk") dx []) ∧ ∀ H', Fr [D] H H' → DeskAt K H' D [⟨[], []⟩] → Q .non H'
theorem sc_Desk_init : FnScope ["self"] ["self"] (defScope s_Desk_init) := ⟨rfl, rfl, rfl, by decide +kernel, rfl, by decide +kernel, by decide +kernel⟩
theorem Desk_init_ok (D : MethIn K "Desk" "__init__" "Desk.__init__" s_Desk_init) (C : DeskC K mg) : MOk P w K mg base CX0 1 "Desk" "__init__" ["self"] (spDInit K) := by
  refine D.ok sc_Desk_init (fun vs H Q E h => ?_) (fun _ _ _ _ _ _ us hl => match us, hl with | [_], _ => rfl) (fun cdv A outer s H vs Q E hr h => ?_)
  · obtain ⟨_, _, rfl, _⟩ := h
    rfl
  · obtain ⟨D0, dx, rfl, eD, q⟩ := h
    refine ⟨_, (pss_one (ps_fld (pv 0) (pe_tup (pa_cons pe_dnewK (pa_cons (pe_tup pa_nil) (pa_cons pe_non (pa_cons pe_int pa_nil))))) rfl)), ?_⟩
    intro d nd
    have s1 := same_upd (o := .dK []) nd
    refine ⟨Nat.zero_le _, fun t nt => ?_⟩
    have s2 := s1.trans (same_upd (o := .tup []) nt)
    have ed := same_upd (o := .tup []) nt d _ upd_same
    refine ⟨by show 4 ≤ sizeLine; decide, fun h nh => ?_⟩
    have s3 := s2.trans (same_upd (o := .tup [.ref d, .ref t, .non, .int 0]) nh)
    have ed3 := same_upd (o := .tup [.ref d, .ref t, .non, .int 0]) nh d _ ed
    have et3 := same_upd (o := .tup [.ref d, .ref t, .non, .int 0]) nh t _ upd_same
    have hh : HeldV K (upd (upd (upd H d (.dK [])) t (.tup [])) h (.tup [.ref d, .ref t, .non, .int 0])) (.ref h) [⟨[], []⟩] := ⟨h, d, t, [], .non, rfl, .inl (.inl upd_same), ⟨[], ed3, .nil⟩, .inl (.inl et3), .nil, rfl⟩
    generalize upd (upd (upd H d (.dK [])) t (.tup [])) h (.tup [.ref d, .ref t, .non, .int 0]) = H3 at s3 hh ⊢
    have eD3 := s3 _ _ eD
    refine ⟨.ref D0, rfl, D0, _, dx, _, rfl, eD3, C.cl, C.nh, by show 0 < 1000; decide, ?_⟩
    obtain ⟨z1, z2⟩ := desk_set s3 eD3 hh rfl
    exact q _ z1 z2
def spBecome (K : PySem.W.Frag) : Sp := fun vs H Q _ => ∃ (D t p : Addr) (ys : List V) (tab : Tab) (vows : List Vow) (l : List AS), vs = [.ref D, .ref t, .ref p] ∧ DeskAt K H D l ∧ l ≠ [] ∧ TabAt K H t tab ∧ SqT K H p ys ∧ Paired (VowV K H) ys vows ∧ ∀ H', Fr [D] H H' → DeskAt K H' D (⟨tab, vows⟩ :: l) → Q .non H'
theorem sc_Desk_become : FnScope ["self", "table", "promises"] ["self", "table", "promises"] (defScope s_Desk_become) := ⟨rfl, rfl, rfl, by decide +kernel, rfl, by decide +kernel, by decide +kernel⟩
theorem Desk_become_ok (D : MethIn K "Desk" "become" "Desk.become" s_Desk_become) (C : DeskC K mg) : MOk P w K mg base CX0 1 "Desk" "become" ["self", "table", "promises"] (spBecome K) := by
  refine D.ok sc_Desk_become (fun vs H Q E h => ?_) (fun _ _ _ _ _ _ us hl => match us, hl with | [_, _, _], _ => rfl) (fun cdv A outer s H vs Q E hr h => ?_)
  · obtain ⟨_, _, _, _, _, _, _, rfl, _⟩ := h
    rfl
  · obtain ⟨D0, t, p, ys, tab, vows, l, rfl, ⟨dx, v, eD, hv⟩, hl, ht, hp, hpv, q⟩ := h
    refine ⟨_, (pss_one (ps_fld (pv 0) (pe_tup (pa_cons (pv 1) (pa_cons (pv 2) (pa_cons (pe_fld (pv 0) rfl) (pa_cons (pe_op op_add (pe_ix ix_tup (pe_fld (pv 0) rfl) pe_int (fun _ _ => rfl)) pe_int) pa_nil))))) rfl)), ?_⟩
    cases l with
    | nil => exact absurd rfl hl
    | cons s0 r =>
      obtain ⟨h0, t0, p0, ys0, prev, rfl, hh0, ht0, hp0, hpv0, hpr⟩ := id hv
      refine ⟨.ref t, rfl, .ref p, rfl, .ref D0, rfl, D0, _, dx, _, .ref h0, rfl, eD, C.cl, C.nh, rfl, ?_⟩
      refine ⟨.ref D0, rfl, D0, _, dx, _, .ref h0, rfl, eD, C.cl, C.nh, rfl, h0, _, _, _, rfl, rfl, hh0, atI_nat (j := 3) rfl, _, _, rfl, rfl, by show 4 ≤ sizeLine; decide, fun k nk => ?_⟩
      have s1 := same_upd (o := .tup [.ref t, .ref p, .ref h0, .int ((r.length : Nat) + 1)]) nk
      have eD1 := s1 _ _ eD
      have hh : HeldV K (upd H k (.tup [.ref t, .ref p, .ref h0, .int ((r.length : Nat) + 1)])) (.ref k) (⟨tab, vows⟩ :: s0 :: r) :=
        ⟨k, t, p, ys, .ref h0, rfl, .inl (.inl upd_same), ht.same s1, s1.sqt hp, Paired.mapP hpv fun _ _ z => z.ts s1.ts, hv.ts s1.ts⟩
      refine ⟨.ref D0, rfl, D0, _, dx, _, rfl, eD1, C.cl, C.nh, by show 1 < 1000; decide, ?_⟩
      obtain ⟨z1, z2⟩ := desk_set s1 eD1 hh rfl
      exact q _ z1 z2
def keys (tab : Tab) : List Str := tab.map (·.1)
def spDNames (K : PySem.W.Frag) : Sp := fun vs H Q _ => ∃ (D : Addr) (s : AS) (r : List AS), vs = [.ref D] ∧ DeskAt K H D (s :: r) ∧ s.tab.length < 64 ∧ ∀ H' p ys, Same H H' → ys.Perm (keys s.tab) → sortedS ys = true → H' p = some (.tup (ys.map V.str)) → Q (.ref p) H'
theorem sc_Desk_names : FnScope ["self"] ["self"] (defScope s_Desk_names) := ⟨rfl, rfl, rfl, by decide +kernel, rfl, by decide +kernel, by decide +kernel⟩
theorem Desk_names_fn {f : Addr} {fd : FuncData} (F : L2.Fun K "names" "Desk.names" s_Desk_names f fd) (C : DeskC K mg) (T : Fre mg) : FnOk P w K mg base CX0 1 f fd ["self"] (spDNames K) := by
  refine F.ok sc_Desk_names (fun vs H Q E h => ?_) (fun cdv A outer s H vs Q E hr h => ?_)
  · obtain ⟨_, _, _, rfl, _⟩ := h
    rfl
  · obtain ⟨D0, s0, r, rfl, ⟨dx, v, eD, ⟨h0, t0, p0, ys0, prev, rfl, hh0, ht0, hp0, hpv0, hpr⟩⟩, hlen, q⟩ := h
    refine ⟨_, (pss_one (ps_ret (pe_callTy call_tuple_of (by rfl) T.tuple_ (by decide +kernel) (pa_cons (pe_callB (call_sortedD rfl) (by rfl) T.sorted (by decide +kernel) (pa_cons (pe_ix ix_tup (pe_fld (pv 0) rfl) pe_int (fun _ _ => rfl)) pa_nil)) pa_nil)))), ?_⟩
    obtain ⟨kvs, et, tv⟩ := ht0
    refine ⟨.ref D0, rfl, D0, _, dx, _, .ref h0, rfl, eD, C.cl, C.nh, rfl, h0, _, _, _, rfl, rfl, hh0, atI_nat (j := 0) rfl, t0, kvs, keys s0.tab, rfl, .inl et, tv.keys, by unfold keys; rw [List.length_map]; exact hlen, fun ys p perm srt np => ?_⟩
    have s1 := same_upd (o := .lst (ys.map V.str)) np
    refine ⟨p, _, rfl, .inl ⟨.inl (.inl upd_same), fun l nl => ?_⟩⟩
    exact q _ l ys (s1.trans (same_upd nl)) perm srt upd_same
def spDPromises (K : PySem.W.Frag) : Sp := fun vs H Q _ => ∃ (D : Addr) (s : AS) (r : List AS), vs = [.ref D] ∧ DeskAt K H D (s :: r) ∧ ∀ p ys, SqT K H p ys → Paired (VowV K H) ys s.vows → Q (.ref p) H
theorem sc_Desk_promises : FnScope ["self"] ["self"] (defScope s_Desk_promises) := ⟨rfl, rfl, rfl, by decide +kernel, rfl, by decide +kernel, by decide +kernel⟩
theorem Desk_promises_fn {f : Addr} {fd : FuncData} (F : L2.Fun K "promises" "Desk.promises" s_Desk_promises f fd) (C : DeskC K mg) : FnOk P w K mg base CX0 1 f fd ["self"] (spDPromises K) := by
  refine F.ok sc_Desk_promises (fun vs H Q E h => ?_) (fun cdv A outer s H vs Q E hr h => ?_)
  · obtain ⟨_, _, _, rfl, _⟩ := h
    rfl
  · obtain ⟨D0, s0, r, rfl, ⟨dx, v, eD, ⟨h0, t0, p0, ys0, prev, rfl, hh0, ht0, hp0, hpv0, hpr⟩⟩, q⟩ := h
    refine ⟨_, (pss_one (ps_ret (pe_ix ix_tup (pe_fld (pv 0) rfl) pe_int (fun _ _ => rfl)))), ?_⟩
    exact ⟨.ref D0, rfl, D0, _, dx, _, .ref h0, rfl, eD, C.cl, C.nh, rfl, h0, _, _, _, rfl, rfl, hh0, atI_nat (j := 1) rfl, q p0 ys0 hp0 hpv0⟩
def spDChanges (K : PySem.W.Frag) : Sp := fun vs H Q _ => ∃ (D : Addr) (s : AS) (r : List AS), vs = [.ref D] ∧ DeskAt K H D (s :: r) ∧ Q (.int (r.length : Nat)) H
theorem sc_Desk_changes : FnScope ["self"] ["self"] (defScope s_Desk_changes) := ⟨rfl, rfl, rfl, by decide +kernel, rfl, by decide +kernel, by decide +kernel⟩
theorem Desk_changes_fn {f : Addr} {fd : FuncData} (F : L2.Fun K "changes" "Desk.changes" s_Desk_changes f fd) (C : DeskC K mg) : FnOk P w K mg base CX0 1 f fd ["self"] (spDChanges K) := by
  refine F.ok sc_Desk_changes (fun vs H Q E h => ?_) (fun cdv A outer s H vs Q E hr h => ?_)
  · obtain ⟨_, _, _, rfl, _⟩ := h
    rfl
  · obtain ⟨D0, s0, r, rfl, ⟨dx, v, eD, ⟨h0, t0, p0, ys0, prev, rfl, hh0, ht0, hp0, hpv0, hpr⟩⟩, q⟩ := h
    refine ⟨_, (pss_one (ps_ret (pe_ix ix_tup (pe_fld (pv 0) rfl) pe_int (fun _ _ => rfl)))), ?_⟩
    exact ⟨.ref D0, rfl, D0, _, dx, _, .ref h0, rfl, eD, C.cl, C.nh, rfl, h0, _, _, _, rfl, rfl, hh0, atI_nat (j := 3) rfl, q⟩
def spDIn (K : PySem.W.Frag) : Sp := fun vs H Q _ => ∃ (D : Addr) (z : Str) (s : AS) (r : List AS), vs = [.ref D, .str z] ∧ GoodName z ∧ DeskAt K H D (s :: r) ∧ ∀ H', Same H H' → Q (.bl (getF s.tab z).isSome) H'
theorem sc_Desk_contains : FnScope ["self", "value"] ["self", "value"] (defScope s_Desk_contains) := ⟨rfl, rfl, rfl, by decide +kernel, rfl, by decide +kernel, by decide +kernel⟩
theorem TabAt.has {K : PySem.W.Frag} {H : Hp} {a : Addr} {tab : Tab} (h : TabAt K H a tab) (x : Str) : ∃ o, DGet H a (.str x) o ∧ o.isSome = (getF tab x).isSome := by
  obtain ⟨kvs, h1, h2⟩ := h
  refine ⟨valV kvs (Sum.inr x), .inl ⟨kvs, Sum.inr x, .inl h1, rfl, rfl⟩, ?_⟩
  rw [← valV_any, h2.any, getF_any]
theorem Desk_contains_ok (D : MethIn K "Desk" "__contains__" "Desk.__contains__" s_Desk_contains) (C : DeskC K mg) (D_is_name : DOk P w K mg base CX0 1 "is_name" ["value"] spName) : MOk P w K mg base CX0 2 "Desk" "__contains__" ["self", "value"] (spDIn K) := by
  refine D.ok sc_Desk_contains (fun vs H Q E h => ?_) (fun _ _ _ _ _ _ us hl => match us, hl with | [_, _], _ => rfl) (fun cdv A outer s H vs Q E hr h => ?_)
  · obtain ⟨_, _, _, _, rfl, _⟩ := h
    rfl
  · obtain ⟨D0, z, s0, r, rfl, gz, hd, q⟩ := h
    have hu := hu_of hr
    refine ⟨_, (pss_one (ps_ret (pe_and (pe_fn D_is_name hr (pa_cons (pv 1) pa_nil)) (pe_one (pe_cmp (pc_din hu (pv 1) (pe_ix ix_tup (pe_fld (pv 0) rfl) pe_int (fun _ _ => rfl))) rfl))))), ?_⟩
    refine ⟨.str z, rfl, z, rfl, gz, fun H1 s1 => ⟨true, rfl, iteT ?_⟩⟩
    obtain ⟨dx, v, eD, ⟨h0, t0, p0, ys0, prev, rfl, hh0, ht0, hp0, hpv0, hpr⟩⟩ := hd.same s1
    obtain ⟨o, ho, hs⟩ := ht0.has z
    refine ⟨.str z, rfl, .ref D0, rfl, D0, _, dx, _, .ref h0, rfl, eD, C.cl, C.nh, rfl, h0, _, _, _, rfl, rfl, hh0, atI_nat (j := 0) rfl, t0, o, rfl, ho, ?_⟩
    exact qbl hs (q H1 s1)
def spDLen (K : PySem.W.Frag) : Sp := fun vs H Q _ => ∃ (D : Addr) (s : AS) (r : List AS), vs = [.ref D] ∧ DeskAt K H D (s :: r) ∧ Q (.int (s.tab.length : Nat)) H
theorem sc_Desk_len : FnScope ["self"] ["self"] (defScope s_Desk_len) := ⟨rfl, rfl, rfl, by decide +kernel, rfl, by decide +kernel, by decide +kernel⟩
theorem Desk_len_ok (D : MethIn K "Desk" "__len__" "Desk.__len__" s_Desk_len) (C : DeskC K mg) (T : Fre mg) : MOk P w K mg base CX0 1 "Desk" "__len__" ["self"] (spDLen K) := by
  refine D.ok sc_Desk_len (fun vs H Q E h => ?_) (fun _ _ _ _ _ _ us hl => match us, hl with | [_], _ => rfl) (fun cdv A outer s H vs Q E hr h => ?_)
  · obtain ⟨_, _, _, rfl, _⟩ := h
    rfl
  · obtain ⟨D0, s0, r, rfl, ⟨dx, v, eD, ⟨h0, t0, p0, ys0, prev, rfl, hh0, ht0, hp0, hpv0, hpr⟩⟩, q⟩ := h
    refine ⟨_, (pss_one (ps_ret (pe_callB call_lenD (by rfl) T.len_ (by decide +kernel) (pa_cons (pe_ix ix_tup (pe_fld (pv 0) rfl) pe_int (fun _ _ => rfl)) pa_nil)))), ?_⟩
    obtain ⟨kvs, et, tv⟩ := ht0
    refine ⟨.ref D0, rfl, D0, _, dx, _, .ref h0, rfl, eD, C.cl, C.nh, rfl, h0, _, _, _, rfl, rfl, hh0, atI_nat (j := 0) rfl, t0, kvs, rfl, et, ?_⟩
    exact qint (by rw [tv.length]) q
end
end Kr

set_option Elab.async false
set_option linter.all false
set_option maxRecDepth 100000
set_option maxHeartbeats 4000000
/-! What deeds come to, as plain functions of a state. -/
namespace Kr
open PySem PySem.Spec PyProof.Rows L2
inductive Er where
  | unknown (z : Str)
  | use (k : Nat)
  | index (i : Int)
  | broken (k : Nat) (sh : Shown)
  | undo
/-- an exception that tells so -/
def ErE (K : PySem.W.Frag) (H : Hp) (cls : Value) (d : Option Addr) : Er → Prop
  | .unknown z => cls = .ref (He.ga K "UnknownName") ∧ ∃ dd, d = some dd ∧ H dd = some (.xd [("given", .str z)])
  | .use k => cls = .ref (He.ga K "InUse") ∧ ∃ dd, d = some dd ∧ H dd = some (.xd [("index", .int (k : Nat))])
  | .index i => cls = .ref (He.ga K "InvalidIndex") ∧ ∃ dd, d = some dd ∧ H dd = some (.xd [("given", .int i)])
  | .broken k sh => cls = .ref (He.ga K "Broken") ∧ ∃ dd y, d = some dd ∧ H dd = some (.xd [("shown", y), ("index", .int (k : Nat))]) ∧ ShownV K H y sh
  | .undo => cls = .ref (He.ga K "NothingToUndo") ∧ d = none
def Vow.has (u : Vow) (x : Str) : Bool := u.names.any fun z => decide (z = x)
/-- the first promise about a name that is not true -/
noncomputable def firstBad (tab : Tab) (x : Str) : Nat → List Vow → Option (Nat × Shown)
  | _, [] => none
  | k, u :: r => if u.has x = true then (match truthS tab u with | some sh => some (k, sh) | none => firstBad tab x (k + 1) r) else firstBad tab x (k + 1) r
def firstUse (x : Str) : Nat → List Vow → Option Nat
  | _, [] => none
  | k, u :: r => if u.has x = true then some k else firstUse x (k + 1) r
def firstNo (tab : Tab) : List Str → Option Str
  | [] => none
  | z :: r => if (getF tab z).isSome = true then firstNo tab r else some z
noncomputable def putA (s : AS) (x : Str) (F : List Fct) : Except Er AS := match firstBad (putF s.tab x F) x 0 s.vows with
  | some (k, sh) => .error (.broken k sh)
  | none => .ok ⟨putF s.tab x F, s.vows⟩
noncomputable def vowA (s : AS) (u : Vow) : Except Er AS := match firstNo s.tab u.names with
  | some z => .error (.unknown z)
  | none => (match truthS s.tab u with
    | some sh => .error (.broken s.vows.length sh)
    | none => .ok ⟨s.tab, s.vows ++ [u]⟩)
def remA (s : AS) (x : Str) : Except Er AS := if (getF s.tab x).isSome = true then (match firstUse x 0 s.vows with
    | some k => .error (.use k)
    | none => .ok ⟨dropF s.tab x, s.vows⟩) else .error (.unknown x)
def cutAt {α : Type} (l : List α) (i : Nat) : List α := l.take i ++ l.drop (i + 1)
def liftA (s : AS) (i : Int) : Except Er AS := if 0 ≤ i ∧ i < s.vows.length then .ok ⟨s.tab, cutAt s.vows i.toNat⟩ else .error (.index i)
/-! ### good states -/
structure VOk (n : Nat) (tab : Tab) (u : Vow) : Prop where
  ok : UOk tab u
  good : ∀ x ∈ u.names, GoodName x
structure AOk (n : Nat) (s : AS) : Prop where
  t : TOk n s.tab
  v : ∀ u ∈ s.vows, VOk n s.tab u
  g : ∀ p ∈ s.tab, GoodName p.1
  nd : (s.tab.map (·.1)).Nodup
theorem nodup_put {tab : Tab} {x : Str} {F : List Fct} (h : (tab.map (·.1)).Nodup) : ((putF tab x F).map (·.1)).Nodup := by
  unfold putF
  split
  · rw [List.map_map]
    have : ((fun p : Str × List Fct => p.1) ∘ fun p : Str × List Fct => if p.1 = x then (p.1, F) else p) = fun p => p.1 := by
      funext p
      show (if p.1 = x then (p.1, F) else p).1 = p.1
      split <;> rfl
    rw [this]
    exact h
  · rename_i hn
    rw [List.map_append, List.nodup_append]
    refine ⟨h, by simp, fun a ha b hb e => hn ?_⟩
    obtain ⟨p, hp, rfl⟩ := List.mem_map.mp ha
    have hb' : b = x := by simpa using hb
    exact List.any_eq_true.mpr ⟨p, hp, decide_eq_true (e.trans hb')⟩
theorem getF_put {tab : Tab} {x y : Str} {F : List Fct} : getF (putF tab x F) y = if x = y then some F else getF tab y := by
  unfold putF
  by_cases h : (tab.any fun p => decide (p.1 = x)) = true
  · rw [if_pos h]
    induction tab with
    | nil => simp at h
    | cons p r ih =>
      rw [List.map_cons]
      by_cases hp : p.1 = x
      · by_cases hxy : x = y
        · rw [if_pos hxy]
          show (if (if p.1 = x then (p.1, F) else p).1 = y then some (if p.1 = x then (p.1, F) else p).2 else _) = _
          rw [if_pos hp, if_pos (show p.1 = y by rw [hp, hxy])]
        · rw [if_neg hxy]
          show (if (if p.1 = x then (p.1, F) else p).1 = y then some (if p.1 = x then (p.1, F) else p).2 else _) = (if p.1 = y then some p.2 else getF r y)
          rw [if_pos hp, if_neg (show ¬ p.1 = y by rw [hp]; exact hxy), if_neg (show ¬ p.1 = y by rw [hp]; exact hxy)]
          by_cases hr : (r.any fun p => decide (p.1 = x)) = true
          · rw [ih hr, if_neg hxy]
          · have : (r.map fun p => if p.1 = x then (p.1, F) else p) = r := by
              refine (List.map_congr_left fun q hq => ?_).trans (List.map_id r)
              have : ¬ q.1 = x := fun e => hr (List.any_eq_true.mpr ⟨q, hq, decide_eq_true e⟩)
              rw [if_neg this]; rfl
            rw [this]
      · have hr : (r.any fun p => decide (p.1 = x)) = true := by
          rw [List.any_cons, decide_eq_false hp, Bool.false_or] at h
          exact h
        show (if (if p.1 = x then (p.1, F) else p).1 = y then some (if p.1 = x then (p.1, F) else p).2 else _) = (if x = y then some F else if p.1 = y then some p.2 else getF r y)
        rw [if_neg hp, ih hr]
        by_cases hy : p.1 = y
        · rw [if_pos hy, if_pos hy, if_neg (fun e => hp (hy.trans e.symm))]
        · rw [if_neg hy, if_neg hy]
  · rw [if_neg h]
    induction tab with
    | nil =>
      show (if x = y then some F else none) = _
      rfl
    | cons p r ih =>
      rw [List.any_cons, Bool.or_eq_true] at h
      have hp : ¬ p.1 = x := fun e => h (.inl (decide_eq_true e))
      have hr : ¬ (r.any fun p => decide (p.1 = x)) = true := fun e => h (.inr e)
      show (if p.1 = y then some p.2 else getF (r ++ [(x, F)]) y) = (if x = y then some F else if p.1 = y then some p.2 else getF r y)
      rw [ih hr]
      by_cases hy : p.1 = y
      · rw [if_pos hy, if_pos hy, if_neg (fun e => hp (hy.trans e.symm))]
      · rw [if_neg hy, if_neg hy]
theorem mem_put {tab : Tab} {x : Str} {F : List Fct} {p : Str × List Fct} (h : p ∈ putF tab x F) : p ∈ tab ∨ p = (x, F) := by
  unfold putF at h
  split at h
  · obtain ⟨q, hq, e⟩ := List.mem_map.mp h
    by_cases hx : q.1 = x
    · rw [if_pos hx] at e
      exact .inr (by rw [← e, hx])
    · rw [if_neg hx] at e
      exact .inl (e ▸ hq)
  · rcases List.mem_append.mp h with h | h
    · exact .inl h
    · exact .inr (List.mem_singleton.mp h)
theorem UOk.put {tab : Tab} {u : Vow} {x : Str} {F : List Fct} (h : UOk tab u) : UOk (putF tab x F) u := ⟨fun y hy => by
  rw [getF_put]
  split
  · exact ⟨F, rfl⟩
  · exact h.nm y hy, h.p0⟩
theorem TOk.put {n : Nat} {tab : Tab} {x : Str} {F : List Fct} (h : TOk n tab) (f : FOk n F) : TOk n (putF tab x F) := fun p hp => by
  rcases mem_put hp with hp | rfl
  · exact h p hp
  · exact f
theorem AOk.put {n : Nat} {s s' : AS} {x : Str} {F : List Fct} (h : AOk n s) (f : FOk n F) (g : GoodName x) (e : putA s x F = .ok s') : AOk n s' := by
  unfold putA at e
  split at e
  · cases e
  · cases e
    exact ⟨h.t.put f, fun u hu => ⟨(h.v u hu).ok.put, (h.v u hu).good⟩, fun p hp => by
      rcases mem_put hp with hp | rfl
      · exact h.g p hp
      · exact g, nodup_put h.nd⟩
theorem firstNo_none {tab : Tab} : ∀ {l : List Str}, firstNo tab l = none → ∀ x ∈ l, ∃ F, getF tab x = some F
  | [], _, x, hx => by cases hx
  | z :: r, h, x, hx => by
    unfold firstNo at h
    split at h
    · rename_i hz
      rcases List.mem_cons.mp hx with rfl | hx
      · exact Option.isSome_iff_exists.mp hz
      · exact firstNo_none h x hx
    · cases h
theorem AOk.vow {n : Nat} {s s' : AS} {u : Vow} (h : AOk n s) (g : ∀ x ∈ u.names, GoodName x) (p0 : ∀ a f, u = .sure a f → 0 ≤ f.p) (e : vowA s u = .ok s') : AOk n s' := by
  unfold vowA at e
  split at e
  · cases e
  · rename_i hn
    split at e
    · cases e
    · cases e
      refine ⟨h.t, fun u' hu => ?_, h.g, h.nd⟩
      rcases List.mem_append.mp hu with hu | hu
      · exact h.v u' hu
      · rw [List.mem_singleton.mp hu]
        exact ⟨⟨firstNo_none hn, p0⟩, g⟩
theorem getF_drop {tab : Tab} {x y : Str} (h : ¬ x = y) : getF (dropF tab x) y = getF tab y := by
  unfold dropF
  induction tab with
  | nil => rfl
  | cons p r ih =>
    by_cases hp : p.1 = x
    · rw [List.filter_cons_of_neg (by simp [hp]), ih]
      show _ = (if p.1 = y then some p.2 else getF r y)
      rw [if_neg (fun e => h (hp.symm.trans e))]
    · rw [List.filter_cons_of_pos (by simp [hp])]
      show (if p.1 = y then some p.2 else _) = (if p.1 = y then some p.2 else _)
      rw [ih]
theorem firstUse_none {x : Str} : ∀ {l : List Vow} {k : Nat}, firstUse x k l = none → ∀ u ∈ l, u.has x = false
  | [], _, _, u, hu => by cases hu
  | v :: r, k, h, u, hu => by
    unfold firstUse at h
    split at h
    · cases h
    · rename_i hv
      rcases List.mem_cons.mp hu with rfl | hu
      · simpa using hv
      · exact firstUse_none h u hu
theorem AOk.rem {n : Nat} {s s' : AS} {x : Str} (h : AOk n s) (e : remA s x = .ok s') : AOk n s' := by
  unfold remA at e
  split at e
  · split at e
    · cases e
    · rename_i hu
      cases e
      refine ⟨fun p hp => h.t p (List.mem_filter.mp hp).1, fun u hm => ⟨⟨fun y hy => ?_, (h.v u hm).ok.p0⟩, (h.v u hm).good⟩, fun p hp => h.g p (List.mem_filter.mp hp).1, List.Nodup.sublist (List.Sublist.map _ (List.filter_sublist ..)) h.nd⟩
      have hx := firstUse_none hu u hm
      have : ¬ x = y := fun e => by
        have : u.has x = true := List.any_eq_true.mpr ⟨y, hy, decide_eq_true e.symm⟩
        rw [hx] at this
        cases this
      rw [getF_drop this]
      exact (h.v u hm).ok.nm y hy
  · cases e
theorem mem_cut {α : Type} {l : List α} {i : Nat} {x : α} (h : x ∈ cutAt l i) : x ∈ l := by
  rcases List.mem_append.mp h with h | h
  · exact List.mem_of_mem_take h
  · exact List.mem_of_mem_drop h
theorem AOk.lift {n : Nat} {s s' : AS} {i : Int} (h : AOk n s) (e : liftA s i = .ok s') : AOk n s' := by
  unfold liftA at e
  split at e
  · cases e
    exact ⟨h.t, fun u hu => h.v u (mem_cut hu), h.g, h.nd⟩
  · cases e
end Kr

set_option Elab.async false
set_option linter.all false
set_option maxRecDepth 100000
set_option maxHeartbeats 4000000
/-! The desk's deeds. -/
namespace Kr
open PySem PySem.Spec PyProof.Rows L2
theorem inV_str (x : Str) : ∀ l : List Str, inV (.str x) (l.map V.str) = l.any fun z => decide (z = x)
  | [] => rfl
  | z :: r => by
    have ih := inV_str x r
    unfold inV at ih ⊢
    rw [List.map_cons, List.any_cons, List.any_cons, ih]
    congr 1
theorem flat_str : ∀ l : List Str, (l.map V.str).all flatV = true
  | [] => rfl
  | z :: r => by
    rw [List.map_cons, List.all_cons, flat_str r]
    rfl
section
variable {P : Program} {w : World} {K : PySem.W.Frag} {mg : Str → Option Value} {base : Heap}
def spDGetItem (K : PySem.W.Frag) : Sp := fun vs H Q _ => ∃ (D : Addr) (z : Str) (s : AS) (r : List AS) (F : List Fct), vs = [.ref D, .str z] ∧ GoodName z ∧ DeskAt K H D (s :: r) ∧ getF s.tab z = some F ∧ ∀ H' v, Same H H' → FactsV K H' v F → Q v H'
theorem sc_Desk_getitem : FnScope ["self", "name"] ["self", "name"] (defScope s_Desk_getitem) := ⟨rfl, rfl, rfl, by decide +kernel, rfl, by decide +kernel, by decide +kernel⟩
theorem Desk_getitem_ok (D : MethIn K "Desk" "__getitem__" "Desk.__getitem__" s_Desk_getitem) (C : DeskC K mg) (MI : MOk P w K mg base CX0 2 "Desk" "__contains__" ["self", "value"] (spDIn K)) : MOk P w K mg base CX0 3 "Desk" "__getitem__" ["self", "name"] (spDGetItem K) := by
  obtain ⟨fdI, FI, bI⟩ := MI.ok
  refine D.ok sc_Desk_getitem (fun vs H Q E h => ?_) (fun _ _ _ _ _ _ us hl => match us, hl with | [_, _], _ => rfl) (fun cdv A outer s H vs Q E hr h => ?_)
  · obtain ⟨_, _, _, _, _, rfl, _⟩ := h
    rfl
  · obtain ⟨D0, z, s0, r, F, rfl, gz, hd, hF, q⟩ := h
    have hu := hu_of hr
    refine ⟨_, (pss_cons (ps_if (pt_cmpR (op_notInOwn ⟨MI.at_, MI.fn⟩ FI hr bI pass0) (pv 1) (pv 0) (by rfl)) (pss_one ps_never) pss_nil)
      (pss_one (ps_ret (pe_dget hu (pe_ix ix_tup (pe_fld (pv 0) rfl) pe_int (fun _ _ => rfl)) (pv 1) (fun _ _ => rfl))))), ?_⟩
    obtain ⟨dx0, v0, eD0, _⟩ := id hd
    refine ⟨.str z, rfl, .ref D0, rfl, D0, dx0, _, rfl, eD0, D0, z, s0, r, rfl, gz, hd, fun H1 s1 => ⟨_, rfl, _, rfl, ifF (by rw [hF]; rfl) ?_⟩⟩
    obtain ⟨dx, v, eD, ⟨h0, t0, p0, ys0, prev, rfl, hh0, ht0, hp0, hpv0, hpr⟩⟩ := hd.same s1
    obtain ⟨y, hg, hy⟩ := ht0.get hF
    refine ⟨.ref D0, rfl, D0, _, dx, _, .ref h0, rfl, eD, C.cl, C.nh, rfl, h0, _, _, _, rfl, rfl, hh0, atI_nat (j := 0) rfl, .str z, rfl, t0, y, rfl, hg, q H1 y s1 hy⟩
/-- a deed of the desk at D: what it comes to -/
def DeedR (K : PySem.W.Frag) (H : Hp) (D : Addr) (l : List AS) (o : Except Er AS) (Q : VK) (E : XK) : Prop :=
  (∀ s', o = .ok s' → ∀ H', Fr [D] H H' → DeskAt K H' D (s' :: l) → Q .non H') ∧ ∀ er, o = .error er → ∀ H' cls d, Same H H' → ErE K H' cls d er → E cls d H'
def spDLift (K : PySem.W.Frag) : Sp := fun vs H Q E => ∃ (D : Addr) (i : Int) (s : AS) (r : List AS), vs = [.ref D, .int i] ∧ DeskAt K H D (s :: r) ∧ s.vows.length ≤ 1000 ∧ DeedR K H D (s :: r) (liftA s i) Q E
theorem sc_Desk_lift : FnScope ["self", "index", "promises"] ["self", "index"] (defScope s_Desk_lift) := ⟨rfl, rfl, rfl, by decide +kernel, rfl, by decide +kernel, by decide +kernel⟩
theorem paired_cut {α β : Type} {R : α → β → Prop} : ∀ {xs : List α} {ys : List β} (i : Nat), Paired R xs ys → Paired R (cutAt xs i) (cutAt ys i)
  | _, _, _, .nil => by simp [cutAt]; exact .nil
  | _, _, 0, .cons r t => t
  | _, _, i + 1, .cons r t => .cons r (paired_cut i t)
/-- a slice of a tuple, whichever of the two ways it takes -/
theorem slA_one {K : PySem.W.Frag} {H : Hp} {x : V} {lo hi : Option Int} {Q : VK} {a : Addr} {xs : List V} (ex : x = .ref a) (hx : SqT K H a xs) (h : ∀ p H0, Same H H0 → SqT K H0 p (cutV xs lo hi) → Q (.ref p) H0) : rSlA K x lo hi H Q := by
  refine ⟨a, xs, ex, hx, fun hw => h a H (Same.refl H) ?_, fun _ p np => h p _ (same_upd np) (.inl (.inl upd_same))⟩
  have : cutV xs lo hi = xs := by
    unfold cutV
    rw [hw.1, hw.2]
    simp
  rw [this]
  exact hx
theorem cut_lo (xs : List V) (i : Nat) : cutV xs none (some (i : Int)) = xs.take i := by
  unfold cutV
  rw [HT.sIx_none, HT.sIx_nat, List.drop_zero, Nat.sub_zero, List.take_eq_take_iff]
  omega
theorem cut_hi (xs : List V) (i : Nat) : cutV xs (some ((i : Int) + 1)) none = xs.drop (i + 1) := by
  unfold cutV
  have e : (i : Int) + 1 = ((i + 1 : Nat) : Int) := by omega
  rw [e, HT.sIx_none, HT.sIx_nat]
  rcases Nat.lt_or_ge (i + 1) xs.length with h | h
  · rw [Nat.min_eq_left (Nat.le_of_lt h)]
    exact List.take_of_length_le (by rw [List.length_drop]; exact Nat.le_refl _)
  · rw [Nat.min_eq_right h, List.drop_of_length_le (Nat.le_refl _), List.drop_of_length_le h]
    simp
theorem Desk_lift_ok (D : MethIn K "Desk" "lift" "Desk.lift" s_Desk_lift) (C : DeskC K mg) (T : Fre mg) (D_is_between : DOk P w K mg base CX0 2 "is_between" ["value", "low", "high"] spBetween) (MB : MOk P w K mg base CX0 1 "Desk" "become" ["self", "table", "promises"] (spBecome K))
    (B : ExIn K mg "InvalidIndex") (BI : MOk P w K mg base CX0 1 "InvalidIndex" "__init__" ["self", "given"] (spIni1 (He.ga K "InvalidIndex") "given")) : MOk P w K mg base (L2.CX P w) 3 "Desk" "lift" ["self", "index"] (spDLift K) := by
  obtain ⟨fdB, FB, bB⟩ := MB.ok
  obtain ⟨fdI, FI, bI⟩ := BI.ok
  refine D.okX sc_Desk_lift (fun vs H Q E h => ?_) (fun _ _ _ _ _ _ us hl => match us, hl with | [_, _], _ => rfl) (fun cdv A outer s H vs Q E hr h => ?_)
  · obtain ⟨_, _, _, _, rfl, _⟩ := h
    rfl
  · obtain ⟨D0, i, s0, r, rfl, hd, hlen, q1, q2⟩ := h
    refine ⟨_, (pss_cons (ps_set (i := 2) sc_Desk_lift.nd rfl (.inl rfl) (pe_ix ix_tup (pe_fld (pv 0) rfl) pe_int (fun _ _ => rfl)))
      (pss_cons (ps_if (pt_not (pt_val (pe_fn D_is_between hr (pa_cons (pv 1) (pa_cons pe_int (pa_cons (pe_op op_sub (pe_callB call_len_seq (by rfl) T.len_ (by decide +kernel) (pa_cons (pv 2) pa_nil)) pe_int) pa_nil)))))) (pss_one (ps_raise rfl (takes_of rfl rfl rfl rfl) (pmk_oexG B.T BI.at_ B.tI FI hr bI pass0 rfl B.gm (pa_cons (pv 1) pa_nil)))) pss_nil)
      (pss_one (ps_expr (pe_meth (pv 0) C.cl ⟨MB.at_, MB.fn, MB.kp⟩ FB (hr.mono (by decide)) bB .nil pass0 (pa_cons (pe_ix ix_tup (pe_fld (pv 0) rfl) pe_int (fun _ _ => rfl)) (pa_cons (pe_op op_catA (pe_slice sl_tupA (pv 2) po_none (po_some (pv 1))) (pe_slice sl_tupA (pv 2) (po_some (pe_op op_add (pv 1) pe_int)) po_none)) pa_nil))))))), ?_⟩
    obtain ⟨dx, v, eD, ⟨h0, t0, p0, ys0, prev, rfl, hh0, ht0, hp0, hpv0, hpr⟩⟩ := id hd
    have hl := hpv0.length
    refine ⟨.ref D0, rfl, D0, _, dx, _, .ref h0, rfl, eD, C.cl, C.nh, rfl, h0, _, _, _, rfl, rfl, hh0, atI_nat (j := 1) rfl, ?_⟩
    refine ⟨.int i, rfl, .ref p0, rfl, p0, ys0, rfl, .inr hp0, _, _, rfl, rfl, i, 0, _, rfl, _, rfl, ?_⟩
    unfold liftA at q1 q2
    by_cases hi : 0 ≤ i ∧ i < s0.vows.length
    · rw [if_pos hi] at q1
      obtain ⟨k, rfl⟩ := Int.eq_ofNat_of_zero_le hi.1
      have hk : k < s0.vows.length := by omega
      have ht : (decide ((0 : Int) ≤ (k : Int)) && decide ((k : Int) ≤ (ys0.length : Int) - 1)) = true := by
        rw [decide_eq_true hi.1, decide_eq_true (show (k : Int) ≤ (ys0.length : Int) - 1 by omega)]
        rfl
      refine ifF (by rw [ht]; rfl) ⟨.ref D0, rfl, D0, dx, _, rfl, eD, rfl, ?_⟩
      refine ⟨.ref D0, rfl, D0, _, dx, _, .ref h0, rfl, eD, C.cl, C.nh, rfl, h0, _, _, _, rfl, rfl, hh0, atI_nat (j := 0) rfl, ?_⟩
      refine ⟨.ref p0, rfl, .int k, rfl, (k : Int), rfl, slA_one rfl hp0 fun a1 H1 s1 e1 => ?_⟩
      refine ⟨.ref p0, rfl, .int k, rfl, (k : Int), 1, rfl, rfl, (k : Int) + 1, rfl, ?_⟩
      unfold tNoPart
      refine slA_one rfl (s1.sqt hp0) fun a2 H2 s2 e2 => ?_
      rw [cut_lo] at e1
      rw [cut_hi] at e2
      have big : 3000 ≤ sizeLine := by decide
      refine catA_one rfl rfl (s2.sqt e1) e2 (by rw [List.length_take, List.length_drop]; omega) fun a3 H3 s3 e3 => ?_
      have s4 := (s1.trans s2).trans s3
      refine ⟨D0, t0, a3, _, s0.tab, cutAt s0.vows k, s0 :: r, rfl, hd.same s4, (fun z => nomatch z), ht0.same s4, e3, paired_cut k (Paired.mapP hpv0 fun _ _ z => z.ts s4.ts), fun H5 f5 d5 => ?_⟩
      exact q1 _ rfl H5 ((s4.fr _).trans f5) d5
    · rw [if_neg hi] at q2
      have ht : (decide ((0 : Int) ≤ i) && decide (i ≤ (ys0.length : Int) - 1)) = false := by
        rw [Bool.and_eq_false_iff]
        by_cases h0 : 0 ≤ i
        · exact .inr (decide_eq_false (by omega))
        · exact .inl (decide_eq_false h0)
      refine ifT (by rw [ht]; rfl) ⟨.int i, rfl, mk1 fun d nd => ?_⟩
      exact q2 _ rfl _ _ _ (same_upd nd) ⟨rfl, d, rfl, upd_same⟩
def spDUndo (K : PySem.W.Frag) : Sp := fun vs H Q E => ∃ (D : Addr) (s : AS) (r : List AS), vs = [.ref D] ∧ DeskAt K H D (s :: r) ∧ (r ≠ [] → ∀ H', Fr [D] H H' → DeskAt K H' D r → Q .non H') ∧ (r = [] → ∀ H', Same H H' → E (.ref (He.ga K "NothingToUndo")) none H')
/-- NothingToUndo -/
structure ExN (K : PySem.W.Frag) (mg : Str → Option Value) : Prop where
  q : PySem.W.excIn K (He.ga K "NothingToUndo") [.type "ArithmeticError", .type "Exception", .type "BaseException", .type "object"] "ArithmeticError.__new__" = true
  gm : mg "NothingToUndo" = some (.ref (He.ga K "NothingToUndo"))
  kC : PySem.W.keepIn K (.ref (He.ga K "NothingToUndo")) = true
  b1 : PySem.W.subIn K (.ref (He.ga K "NothingToUndo")) (.type "BaseException") = some true
  t1 : PySem.W.typeIn K (.ref (He.ga K "NothingToUndo")) = some (.type "type")
theorem sc_Desk_undo : FnScope ["self"] ["self"] (defScope s_Desk_undo) := ⟨rfl, rfl, rfl, by decide +kernel, rfl, by decide +kernel, by decide +kernel⟩
theorem Desk_undo_ok (D : MethIn K "Desk" "undo" "Desk.undo" s_Desk_undo) (C : DeskC K mg) (N : ExN K mg) : MOk P w K mg base (L2.CX P w) 1 "Desk" "undo" ["self"] (spDUndo K) := by
  refine D.okX sc_Desk_undo (fun vs H Q E h => ?_) (fun _ _ _ _ _ _ us hl => match us, hl with | [_], _ => rfl) (fun cdv A outer s H vs Q E hr h => ?_)
  · obtain ⟨_, _, _, rfl, _⟩ := h
    rfl
  · obtain ⟨D0, s0, r, rfl, hd, q1, q2⟩ := h
    refine ⟨_, (pss_cons (ps_if (pt_cmpR op_isN (pe_ix ix_tup (pe_fld (pv 0) rfl) pe_int (fun _ _ => rfl)) pe_non (nomark _)) (pss_one (ps_raise rfl (takes_of rfl rfl rfl rfl) (pmk_own0 PySem.F.excBase_ArithmeticError N.q N.gm N.kC (raises_own N.b1 N.t1) rfl))) pss_nil)
      (pss_one (ps_fld (pv 0) (pe_ix ix_tup (pe_fld (pv 0) rfl) pe_int (fun _ _ => rfl)) rfl))), ?_⟩
    obtain ⟨dx, v, eD, ⟨h0, t0, p0, ys0, prev, rfl, hh0, ht0, hp0, hpv0, hpr⟩⟩ := id hd
    refine ⟨.ref D0, rfl, D0, _, dx, _, .ref h0, rfl, eD, C.cl, C.nh, rfl, h0, _, _, _, rfl, rfl, hh0, atI_nat (j := 2) rfl, rfl, _, rfl, ?_⟩
    cases r with
    | nil =>
      have hp : prev = .non := hpr
      subst hp
      exact ifT (by simp) (q2 rfl H (Same.refl H))
    | cons s1 r =>
      have hne : decide (prev = V.non) = false := decide_eq_false fun e => by
        obtain ⟨_, _, _, _, _, e2, _⟩ := hpr
        rw [e] at e2
        cases e2
      refine ifF hne ⟨.ref D0, rfl, D0, _, dx, _, .ref h0, rfl, eD, C.cl, C.nh, rfl, h0, _, _, _, rfl, rfl, hh0, atI_nat (j := 2) rfl, .ref D0, rfl, D0, _, dx, _, rfl, eD, C.cl, C.nh, by show 1 < 1000; decide, ?_⟩
      obtain ⟨z1, z2⟩ := desk_set (Same.refl H) eD hpr rfl
      exact q1 (fun z => nomatch z) _ z1 z2
end
end Kr

set_option Elab.async false
set_option linter.all false
set_option maxRecDepth 100000
set_option maxHeartbeats 4000000
/-! The desk: put, promise, remove. -/
namespace Kr
open PySem PySem.Spec PyProof.Rows L2
theorem drop_at {α : Type} {l : List α} {i : Nat} {x : α} (h : l[i]? = some x) : l.drop i = x :: l.drop (i + 1) := by
  obtain ⟨hl, e⟩ := List.getElem?_eq_some_iff.mp h
  rw [List.drop_eq_getElem_cons hl, e]
theorem firstBad_turn {tab : Tab} {x : Str} {vows : List Vow} {i : Nat} {u : Vow} (h : vows[i]? = some u) :
    firstBad tab x i (vows.drop i) = if u.has x = true then (match truthS tab u with | some sh => some (i, sh) | none => firstBad tab x (i + 1) (vows.drop (i + 1))) else firstBad tab x (i + 1) (vows.drop (i + 1)) := by
  rw [drop_at h]
  rfl
theorem firstUse_turn {x : Str} {vows : List Vow} {i : Nat} {u : Vow} (h : vows[i]? = some u) :
    firstUse x i (vows.drop i) = if u.has x = true then some i else firstUse x (i + 1) (vows.drop (i + 1)) := by
  rw [drop_at h]
  rfl
section
variable {P : Program} {w : World} {K : PySem.W.Frag} {mg : Str → Option Value} {base : Heap}
def spDSet (K : PySem.W.Frag) : Sp := fun vs H Q E => ∃ (D : Addr) (x : Str) (v : V) (F : List Fct) (n : Nat) (s : AS) (r : List AS), vs = [.ref D, .str x, v] ∧ GoodName x ∧ FactsV K H v F ∧ Base n ∧ FOk n F ∧ DeskAt K H D (s :: r) ∧ AOk n s ∧ s.tab.length ≤ 900 ∧ DeedR K H D (s :: r) (putA s x F) Q E
theorem sc_Desk_setitem : FnScope ["self", "name", "facts", "table", "index", "promise"] ["self", "name", "facts"] (defScope s_Desk_setitem) := ⟨rfl, rfl, rfl, by decide +kernel, rfl, by decide +kernel, by decide +kernel⟩
theorem Desk_setitem_ok (D : MethIn K "Desk" "__setitem__" "Desk.__setitem__" s_Desk_setitem) (C : DeskC K mg) (T : Fre mg) (hMF : ∃ t, mg "MOST_FACTS" = some (.int 40 t)) (D_is_name : DOk P w K mg base CX0 1 "is_name" ["value"] spName) (D_check_facts : DOk P w K mg base CX0 4 "check_facts" ["facts", "most"] (spChkFacts K))
    (D_names_in : DOk P w K mg base CX0 1 "names_in" ["promise"] (spNamesIn K)) (D_check_promise : DOk P w K mg base (L2.CX P w) 8 "check_promise" ["table", "index", "promise"] (spChkP K)) (MB : MOk P w K mg base CX0 1 "Desk" "become" ["self", "table", "promises"] (spBecome K)) :
    MOk P w K mg base (L2.CX P w) 9 "Desk" "__setitem__" ["self", "name", "facts"] (spDSet K) := by
  obtain ⟨tMF, hMF⟩ := hMF
  obtain ⟨fdB, FB, bB⟩ := MB.ok
  refine D.okX sc_Desk_setitem (fun vs H Q E h => ?_) (fun _ _ _ _ _ _ us hl => match us, hl with | [_, _, _], _ => rfl) (fun cdv A outer s H vs Q E hr h => ?_)
  · obtain ⟨_, _, _, _, _, _, _, rfl, _⟩ := h
    rfl
  · obtain ⟨D0, x, v, F, n, s0, r, rfl, gx, hv, hn, fo, hd, ao, htl, q1, q2⟩ := h
    refine ⟨_, (pss_cons (ps_if (pt_not (pt_val (pe_fn D_is_name hr (pa_cons (pv 1) pa_nil)))) (pss_one ps_never) pss_nil)
      (pss_cons (ps_expr (pe_fn D_check_facts hr (pa_cons (pv 2) (pa_cons (pe_glob (v := .int 40) rfl hMF ⟨_, rfl⟩) pa_nil))))
      (pss_cons (ps_set (i := 3) sc_Desk_setitem.nd rfl (.inl rfl) (pe_dictPut (pe_ix ix_tup (pe_fld (pv 0) rfl) pe_int (fun _ _ => rfl)) (pv 1) (pv 2)))
      (pss_cons (ps_for (passes_of rfl) rfl (pi_enumT T.enumerate (pa_cons (pe_ix ix_tup (pe_fld (pv 0) rfl) pe_int (fun _ _ => rfl)) pa_nil)) (pg_tup rfl (pgs_cons (pg_name (i := 4) sc_Desk_setitem.nd rfl (.inl rfl)) (pgs_cons (pg_name (i := 5) sc_Desk_setitem.nd rfl (.inl rfl)) pgs_nil)))
        (pss_one (ps_if (pt_cmpR op_in_seq (pv 1) (pe_fn D_names_in hr (pa_cons (pv 5) pa_nil)) (by rfl)) (pss_one (ps_expr (pe_fn D_check_promise hr (pa_cons (pv 3) (pa_cons (pv 4) (pa_cons (pv 5) pa_nil))) (hx := passes_call (takes_of rfl rfl rfl rfl) (fun _ _ _ _ h => h))))) pss_nil)))
      (pss_one (ps_expr (pe_meth (pv 0) C.cl ⟨MB.at_, MB.fn, MB.kp⟩ FB (hr.mono (by decide)) bB .nil pass0 (pa_cons (pv 3) (pa_cons (pe_ix ix_tup (pe_fld (pv 0) rfl) pe_int (fun _ _ => rfl)) pa_nil))))))))), ?_⟩
    refine ⟨.str x, rfl, x, rfl, gx, fun H1 s1 => ⟨true, rfl, iteF ?_⟩⟩
    refine ⟨v, rfl, v, F, rfl, hv.ts s1.ts, fo.p0, Nat.le_trans fo.len (by decide), fun H2 s2 => ?_⟩
    have s12 := s1.trans s2
    intro p np
    have s23 := same_upd (o := .dK []) np
    obtain ⟨dx, v0, eD, ⟨h0, t0, p0, ys0, prev, rfl, hh0, ht0, hp0, hpv0, hpr⟩⟩ := hd.same s12
    obtain ⟨kvs, et, tv⟩ := id ht0
    have npt : t0 ≠ p := fun e => by
      rw [e, np] at et
      cases et
    have pk : upd H2 p (.dK []) p = some (.dK []) := upd_same
    refine ⟨.ref D0, rfl, D0, _, dx, _, .ref h0, rfl, s23 _ _ eD, C.cl, C.nh, rfl, h0, _, _, _, rfl, rfl, s23.sqt hh0, atI_nat (j := 0) rfl, t0, kvs, rfl, s23 _ _ et, npt, pk, fun qa nq => ?_⟩
    have nqp : qa ≠ p := fun e => by
      rw [e, upd_same] at nq
      cases nq
    rw [upd_ne nqp, upd_ne nqp] at nq
    refine ⟨.str x, rfl, v, rfl, Sum.inr x, rfl, ?_, upd_same, ?_, ?_⟩
    · rw [upd_ne nqp.symm, upd_same]
    · rw [tv.length]
      omega
    -- the new table
    have sN : Same H2 (upd (upd (upd (upd (upd (upd H2 p (.dK [])) p (.dK kvs)) qa (.dK [])) qa (.dK [(Sum.inr x, v)])) p (.dK (putK kvs (Sum.inr x) v))) p (.dK (putK kvs (Sum.inr x) v))) :=
      same_set (same_set (same_set (same_set (same_set (same_upd np) np) nq) nq) np) np
    rw [upd_upd] at sN
    have tN : TabAt K (upd (upd (upd (upd (upd H2 p (.dK [])) p (.dK kvs)) qa (.dK [])) qa (.dK [(Sum.inr x, v)])) p (.dK (putK kvs (Sum.inr x) v))) p (putF s0.tab x F) :=
      ⟨_, upd_same, (tv.ts sN.ts).put ((hv.ts s12.ts).ts sN.ts)⟩
    generalize upd (upd (upd (upd (upd H2 p (.dK [])) p (.dK kvs)) qa (.dK [])) qa (.dK [(Sum.inr x, v)])) p (.dK (putK kvs (Sum.inr x) v)) = H3 at sN tN ⊢
    have s4 := s12.trans sN
    refine ⟨.ref D0, rfl, D0, _, dx, _, .ref h0, rfl, sN _ _ eD, C.cl, C.nh, rfl, h0, _, _, _, rfl, rfl, sN.sqt hh0, atI_nat (j := 1) rfl, p0, ys0, rfl, sN.sqt hp0, ?_⟩
    have hl := hpv0.length
    refine for_enumT (xs := ys0) (fun i σ H4 => ∃ t4 t5, σ = [some (.ref D0), some (.str x), some v, some (.ref p), t4, t5] ∧ Same H3 H4 ∧ firstBad (putF s0.tab x F) x 0 s0.vows = firstBad (putF s0.tab x F) x i (s0.vows.drop i)) ⟨none, none, rfl, Same.refl _, by rw [List.drop_zero]⟩ ?_ ?_ ?_
    · rintro i σ H4 hi ⟨_, _, rfl, sm, _⟩
      exact (sN.trans sm).sqt hp0
    · rintro i y σ H4 t hy ⟨t4, t5, rfl, sm, hb⟩ nt
      obtain ⟨u, hu, uv⟩ := paired_get hpv0 hy
      have s5 := sm.trans (same_upd (o := .tup [.int (i : Nat), y]) nt)
      refine ⟨t, _, rfl, .inl (.inl upd_same), rfl, _, _, rfl, _, _, rfl, rfl, ?_⟩
      generalize upd H4 t (.tup [.int (i : Nat), y]) = H5 at s5 ⊢
      have uv5 := uv.ts (sN.trans s5).ts
      rw [firstBad_turn hu] at hb
      refine ⟨.str x, rfl, y, rfl, y, u, rfl, uv5, fun H6 a s6 ha => ?_⟩
      refine ⟨a, _, rfl, .inr ha, rfl, flat_str _, _, rfl, ?_⟩
      rw [inV_str]
      have s7 := s5.trans s6
      have ux : (u.names.any fun z => decide (z = x)) = u.has x := rfl
      rw [ux]
      cases hx : u.has x with
      | false =>
        rw [hx, if_neg Bool.false_ne_true] at hb
        exact iteF ⟨_, _, rfl, s7, hb⟩
      | true =>
        rw [hx, if_pos rfl] at hb
        have vok := ao.v u (List.mem_of_getElem? hu)
        refine iteT ⟨.ref p, rfl, .int i, rfl, y, rfl, p, (i : Int), y, n, _, u, rfl, tN.same s7, uv5.ts s6.ts, hn, ao.t.put fo, vok.ok.put, fun hT H8 s8 => ?_, fun sh hT H8 d z s8 ed hz => ?_⟩
        · rw [hT] at hb
          exact ⟨_, _, rfl, s7.trans s8, hb⟩
        · rw [hT] at hb
          have hb' : firstBad (putF s0.tab x F) x 0 s0.vows = some (i, sh) := hb
          refine q2 (.broken i sh) ?_ H8 _ _ ((s4.trans s7).trans s8) ⟨rfl, d, z, rfl, ed, hz⟩
          unfold putA
          rw [hb']
    · rintro σ H4 ⟨_, _, rfl, sm, hb⟩
      have he : putA s0 x F = .ok ⟨putF s0.tab x F, s0.vows⟩ := by
        have hb' : firstBad (putF s0.tab x F) x 0 s0.vows = none := by
          rw [hb, hl, List.drop_length]
          rfl
        unfold putA
        rw [hb']
      have s5 := s4.trans sm
      have s6 := sN.trans sm
      refine ⟨.ref D0, rfl, D0, dx, _, rfl, s6 _ _ eD, rfl, .ref p, rfl, ?_⟩
      refine ⟨.ref D0, rfl, D0, _, dx, _, .ref h0, rfl, s6 _ _ eD, C.cl, C.nh, rfl, h0, _, _, _, rfl, rfl, s6.sqt hh0, atI_nat (j := 1) rfl, ?_⟩
      refine ⟨D0, p, p0, ys0, _, s0.vows, s0 :: r, rfl, hd.same s5, (fun z => nomatch z), tN.same sm, s6.sqt hp0, Paired.mapP hpv0 fun _ _ z => z.ts s6.ts, fun H7 f7 d7 => ?_⟩
      exact q1 _ he H7 ((s5.fr _).trans f7) d7
def spDVow (K : PySem.W.Frag) : Sp := fun vs H Q E => ∃ (D : Addr) (v : V) (u : Vow) (n : Nat) (s : AS) (r : List AS), vs = [.ref D, v] ∧ VowV K H v u ∧ (∀ x ∈ u.names, GoodName x) ∧ (∀ a f, u = .sure a f → 0 ≤ f.p) ∧ Base n ∧ DeskAt K H D (s :: r) ∧ AOk n s ∧ s.vows.length ≤ 900 ∧ DeedR K H D (s :: r) (vowA s u) Q E
theorem sc_Desk_promise : FnScope ["self", "promise", "name"] ["self", "promise"] (defScope s_Desk_promise) := ⟨rfl, rfl, rfl, by decide +kernel, rfl, by decide +kernel, by decide +kernel⟩
theorem Desk_promise_ok (D : MethIn K "Desk" "promise" "Desk.promise" s_Desk_promise) (C : DeskC K mg) (T : Fre mg) (D_is_promise : DOk P w K mg base CX0 4 "is_promise" ["value"] (spIsPromise K)) (MI : MOk P w K mg base CX0 2 "Desk" "__contains__" ["self", "value"] (spDIn K))
    (D_names_in : DOk P w K mg base CX0 1 "names_in" ["promise"] (spNamesIn K)) (D_check_promise : DOk P w K mg base (L2.CX P w) 8 "check_promise" ["table", "index", "promise"] (spChkP K)) (MB : MOk P w K mg base CX0 1 "Desk" "become" ["self", "table", "promises"] (spBecome K))
    (B : ExIn K mg "UnknownName") (BI : MOk P w K mg base CX0 1 "UnknownName" "__init__" ["self", "given"] (spIni1 (He.ga K "UnknownName") "given")) :
    MOk P w K mg base (L2.CX P w) 9 "Desk" "promise" ["self", "promise"] (spDVow K) := by
  obtain ⟨fdB, FB, bB⟩ := MB.ok
  obtain ⟨fdI, FI, bI⟩ := MI.ok
  obtain ⟨fdU, FU, bU⟩ := BI.ok
  refine D.okX sc_Desk_promise (fun vs H Q E h => ?_) (fun _ _ _ _ _ _ us hl => match us, hl with | [_, _], _ => rfl) (fun cdv A outer s H vs Q E hr h => ?_)
  · obtain ⟨_, _, _, _, _, _, rfl, _⟩ := h
    rfl
  · obtain ⟨D0, v, u, n, s0, r, rfl, hv, hgn, hp0', hn, hd, ao, hvl, q1, q2⟩ := h
    refine ⟨_, (pss_cons (ps_if (pt_not (pt_val (pe_fn D_is_promise hr (pa_cons (pv 1) pa_nil)))) (pss_one ps_never) pss_nil)
      (pss_cons (ps_for (passes_of rfl) rfl (pi_tup (pe_fn D_names_in hr (pa_cons (pv 1) pa_nil))) (pg_name (i := 2) sc_Desk_promise.nd rfl (.inl rfl))
        (pss_one (ps_if (pt_cmpR (op_notInOwn ⟨MI.at_, MI.fn⟩ FI (hr.mono (by decide)) bI pass0) (pv 2) (pv 0) (by rfl)) (pss_one (ps_raise rfl (takes_of rfl rfl rfl rfl) (pmk_oexG B.T BI.at_ B.tI FU (hr.mono (by decide)) bU pass0 rfl B.gm (pa_cons (pv 2) pa_nil)))) pss_nil)))
      (pss_cons (ps_expr (pe_fn D_check_promise hr (pa_cons (pe_ix ix_tup (pe_fld (pv 0) rfl) pe_int (fun _ _ => rfl)) (pa_cons (pe_callB call_len_seq (by rfl) T.len_ (by decide +kernel) (pa_cons (pe_ix ix_tup (pe_fld (pv 0) rfl) pe_int (fun _ _ => rfl)) pa_nil)) (pa_cons (pv 1) pa_nil))) (hx := passes_call (takes_of rfl rfl rfl rfl) (fun _ _ _ _ h => h))))
      (pss_one (ps_expr (pe_meth (pv 0) C.cl ⟨MB.at_, MB.fn, MB.kp⟩ FB (hr.mono (by decide)) bB .nil pass0 (pa_cons (pe_ix ix_tup (pe_fld (pv 0) rfl) pe_int (fun _ _ => rfl)) (pa_cons (pe_tup (StX.pa_star (pe_ix ix_tup (pe_fld (pv 0) rfl) pe_int (fun _ _ => rfl)) (pa_cons (pv 1) pa_nil))) pa_nil)))))))), ?_⟩
    refine ⟨v, rfl, v, u, rfl, hv, hgn, hp0', fun H1 s1 => ⟨true, rfl, iteF ?_⟩⟩
    refine ⟨v, rfl, v, u, rfl, hv.ts s1.ts, fun H2 a s2 ha => ⟨a, rfl, ⟨_, ha⟩, ?_⟩⟩
    have s12 := s1.trans s2
    refine for_tup (xs := u.names.map V.str) (fun i σ H3 => ∃ t2, σ = [some (.ref D0), some v, t2] ∧ Same H2 H3 ∧ firstNo s0.tab u.names = firstNo s0.tab (u.names.drop i)) ⟨none, rfl, Same.refl _, by rw [List.drop_zero]⟩ ?_ ?_ ?_
    · rintro i σ H3 hi ⟨_, rfl, sm, _⟩
      exact sm.sqt ha
    · rintro i y σ H3 hy ⟨t2, rfl, sm, hb⟩
      rw [List.getElem?_map] at hy
      cases hz : u.names[i]? with
      | none =>
        rw [hz] at hy
        cases hy
      | some z =>
        rw [hz] at hy
        cases hy
        have gz := hgn z (List.mem_of_getElem? hz)
        have s3 := s12.trans sm
        obtain ⟨dx, v0, eD, _⟩ := hd.same s3
        rw [drop_at hz] at hb
        have hb2 : firstNo s0.tab (z :: u.names.drop (i + 1)) = if (getF s0.tab z).isSome = true then firstNo s0.tab (u.names.drop (i + 1)) else some z := rfl
        rw [hb2] at hb
        refine ⟨.str z, rfl, .ref D0, rfl, D0, dx, _, rfl, eD, D0, z, s0, r, rfl, gz, hd.same s3, fun H4 s4 => ⟨_, rfl, _, rfl, ?_⟩⟩
        cases hs : (getF s0.tab z).isSome with
        | true =>
          rw [hs, if_pos rfl] at hb
          exact iteF ⟨_, rfl, sm.trans s4, hb⟩
        | false =>
          rw [hs, if_neg Bool.false_ne_true] at hb
          refine iteT ⟨.str z, rfl, mk1 fun d nd => ?_⟩
          refine q2 (.unknown z) ?_ _ _ _ ((s3.trans s4).trans (same_upd nd)) ⟨rfl, d, rfl, upd_same⟩
          unfold vowA
          rw [hb]
    · rintro σ H3 ⟨t2, rfl, sm, hb⟩
      rw [List.length_map, List.drop_length] at hb
      have hb' : firstNo s0.tab u.names = none := hb
      have s3 := s12.trans sm
      obtain ⟨dx, v0, eD, ⟨h0, t0, p0, ys0, prev, rfl, hh0, ht0, hp0, hpv0, hpr⟩⟩ := hd.same s3
      have hl := hpv0.length
      refine ⟨.ref D0, rfl, D0, _, dx, _, .ref h0, rfl, eD, C.cl, C.nh, rfl, h0, _, _, _, rfl, rfl, hh0, atI_nat (j := 0) rfl, ?_⟩
      refine ⟨.ref D0, rfl, D0, _, dx, _, .ref h0, rfl, eD, C.cl, C.nh, rfl, h0, _, _, _, rfl, rfl, hh0, atI_nat (j := 1) rfl, p0, ys0, rfl, .inr hp0, ?_⟩
      have uok : UOk s0.tab u := ⟨firstNo_none hb', hp0'⟩
      refine ⟨v, rfl, t0, (ys0.length : Int), v, n, s0.tab, u, rfl, ht0, hv.ts s3.ts, hn, ao.t, uok, fun hT H4 s4 => ?_, fun sh hT H4 d z s4 ed hz => ?_⟩
      · have he : vowA s0 u = .ok ⟨s0.tab, s0.vows ++ [u]⟩ := by
          unfold vowA
          rw [hb', hT]
        have s5 := s3.trans s4
        refine ⟨.ref D0, rfl, D0, dx, _, rfl, s4 _ _ eD, rfl, ?_⟩
        refine ⟨.ref D0, rfl, D0, _, dx, _, .ref h0, rfl, s4 _ _ eD, C.cl, C.nh, rfl, h0, _, _, _, rfl, rfl, s4.sqt hh0, atI_nat (j := 0) rfl, ?_⟩
        refine ⟨.ref D0, rfl, D0, _, dx, _, .ref h0, rfl, s4 _ _ eD, C.cl, C.nh, rfl, h0, _, _, _, rfl, rfl, s4.sqt hh0, atI_nat (j := 1) rfl, ?_⟩
        refine ⟨p0, ys0, rfl, .inl (s4.sqt hp0), v, rfl, ?_⟩
        have big : 2000 ≤ sizeLine := by decide
        refine ⟨by rw [List.length_append, List.length_singleton]; omega, fun k nk => ?_⟩
        have s6 := s5.trans (same_upd (o := .tup (ys0 ++ [v])) nk)
        have s46 := s4.trans (same_upd (o := .tup (ys0 ++ [v])) nk)
        refine ⟨D0, t0, k, ys0 ++ [v], s0.tab, s0.vows ++ [u], s0 :: r, rfl, hd.same s6, (fun z => nomatch z), ht0.same s46, .inl (.inl upd_same), paired_append (Paired.mapP hpv0 fun _ _ z => z.ts s46.ts) (.cons ((hv.ts s3.ts).ts s46.ts) .nil), fun H7 f7 d7 => ?_⟩
        exact q1 _ he H7 ((s6.fr _).trans f7) d7
      · refine q2 (.broken s0.vows.length sh) ?_ H4 _ _ (s3.trans s4) ⟨rfl, d, z, rfl, by rw [← hl]; exact ed, hz⟩
        unfold vowA
        rw [hb', hT]
end
end Kr

set_option Elab.async false
set_option linter.all false
set_option maxRecDepth 100000
set_option maxHeartbeats 4000000
/-! The desk: remove. -/
namespace Kr
open PySem PySem.Spec PyProof.Rows L2
theorem dc_items {d D : Addr} {o : Obj} {kvs : List (Key × V)} {g : TG} {tt : TT} {tk tv : TE} {vs : List Nat} {σ : L2.St} {H1 : Hp} {Qd : Hp → Prop} (Pv : Nat → Hp → Prop) (h0 : Pv 0 (upd H1 D (.dK []))) (hl : ∀ i H, Pv i H → H d = some (.frz o (.dK kvs)))
    (hs : ∀ i k v H T, kvs[i]? = some (k, v) → Pv i H → H T = none → g (.ref T) (wipe σ vs) (upd H T (.tup [kV k, v])) fun σ2 H2 => wipe σ2 vs = wipe σ vs ∧ tt σ2 H2 fun b H3 =>
      if b = true then tk σ2 H3 fun y H4 => tv σ2 H4 fun z H5 => ∃ kvs k, y = kV k ∧ H5 D = some (.dK kvs) ∧ kvs.length < sizeLine ∧ Pv (i + 1) (upd H5 D (.dK (putK kvs k z))) else Pv (i + 1) H3) (hd : ∀ H, Pv kvs.length H → Qd H) :
    ∃ W : Nat → Nat → Hp → Prop, (∃ m, W 0 m (upd H1 D (.dK []))) ∧ ∀ i m H, W i m H →
      ((Iti d o kvs).stop i H ∧ Qd H) ∨ ((Iti d o kvs).go i H ∧ ∃ Nx : Hp → Prop, (∀ H', Nx H' → ∃ m', m' < m ∧ W (i + 1) m' H') ∧ ∀ x H', (Iti d o kvs).yld i H x H' → g x (wipe σ vs) H' fun σ2 H2 => wipe σ2 vs = wipe σ vs ∧ tt σ2 H2 fun b H3 =>
        if b = true then tk σ2 H3 fun y H4 => tv σ2 H4 fun z H5 => ∃ kvs k, y = kV k ∧ H5 D = some (.dK kvs) ∧ kvs.length < sizeLine ∧ Nx (upd H5 D (.dK (putK kvs k z))) else Nx H3) := by
  refine ⟨fun i m H => m = kvs.length - i ∧ i ≤ kvs.length ∧ Pv i H, ⟨kvs.length, by simp, Nat.zero_le _, h0⟩, ?_⟩
  rintro i m H ⟨rfl, hi, p⟩
  have q := hl i H p
  by_cases hlt : i < kvs.length
  · refine .inr ⟨⟨q, hlt⟩, Pv (i + 1), fun H' p' => ⟨kvs.length - (i + 1), by omega, rfl, hlt, p'⟩, fun v H' y => ?_⟩
    obtain ⟨T, k, z, hk, rfl, hT, rfl⟩ := y
    exact hs i k z H T hk p hT
  · have e : i = kvs.length := by omega
    subst e
    exact .inl ⟨⟨q, Nat.le_refl _⟩, hd H p⟩
theorem putK_new {kvs : List (Key × V)} {k : Key} {v : V} (h : ∀ p ∈ kvs, p.1 ≠ k) : putK kvs k v = kvs ++ [(k, v)] := by
  unfold putK
  rw [if_neg]
  intro hx
  obtain ⟨p, hp, e⟩ := List.any_eq_true.mp hx
  exact h p hp (of_decide_eq_true e)
theorem drop_step {kvs : List (Key × V)} {i : Nat} {k x : Key} {v : V} (nd : (kvs.map (·.1)).Nodup) (h : kvs[i]? = some (k, v)) : dropK (kvs.take (i + 1)) x = if k = x then dropK (kvs.take i) x else putK (dropK (kvs.take i) x) k v := by
  have et : kvs.take (i + 1) = kvs.take i ++ [(k, v)] := by
    rw [List.take_add_one, h]
    rfl
  rw [et]
  unfold dropK
  rw [List.filter_append]
  by_cases hk : k = x
  · rw [if_pos hk, List.filter_cons_of_neg (by simp [hk])]
    simp
  · rw [if_neg hk, List.filter_cons_of_pos (by simp [hk]), List.filter_nil, putK_new]
    intro p hp e
    have hp' := (List.mem_filter.mp hp).1
    have hn : ((kvs.take (i + 1)).map (·.1)).Nodup := List.Nodup.sublist (List.Sublist.map _ (List.take_sublist _ _)) nd
    rw [et, List.map_append, List.nodup_append] at hn
    exact hn.2.2 p.1 (List.mem_map.mpr ⟨p, hp', rfl⟩) k (by simp) e
section
variable {P : Program} {w : World} {K : PySem.W.Frag} {mg : Str → Option Value} {base : Heap}
def spDRem (K : PySem.W.Frag) : Sp := fun vs H Q E => ∃ (D : Addr) (x : Str) (n : Nat) (s : AS) (r : List AS), vs = [.ref D, .str x] ∧ GoodName x ∧ DeskAt K H D (s :: r) ∧ AOk n s ∧ s.tab.length ≤ 900 ∧ DeedR K H D (s :: r) (remA s x) Q E
theorem sc_Desk_remove : FnScope ["self", "name", "index", "promise", "one", "facts"] ["self", "name"] (defScope s_Desk_remove) := ⟨rfl, rfl, rfl, by decide +kernel, rfl, by decide +kernel, by decide +kernel⟩
theorem Desk_remove_ok (D : MethIn K "Desk" "remove" "Desk.remove" s_Desk_remove) (C : DeskC K mg) (T : Fre mg) (MI : MOk P w K mg base CX0 2 "Desk" "__contains__" ["self", "value"] (spDIn K))
    (D_names_in : DOk P w K mg base CX0 1 "names_in" ["promise"] (spNamesIn K)) (MB : MOk P w K mg base CX0 1 "Desk" "become" ["self", "table", "promises"] (spBecome K))
    (B : ExIn K mg "UnknownName") (BI : MOk P w K mg base CX0 1 "UnknownName" "__init__" ["self", "given"] (spIni1 (He.ga K "UnknownName") "given"))
    (B2 : ExIn K mg "InUse") (BI2 : MOk P w K mg base CX0 1 "InUse" "__init__" ["self", "index"] (spIni1 (He.ga K "InUse") "index")) :
    MOk P w K mg base (L2.CX P w) 3 "Desk" "remove" ["self", "name"] (spDRem K) := by
  obtain ⟨fdB, FB, bB⟩ := MB.ok
  obtain ⟨fdI, FI, bI⟩ := MI.ok
  obtain ⟨fdU, FU, bU⟩ := BI.ok
  obtain ⟨fdX, FX, bX⟩ := BI2.ok
  refine D.okX sc_Desk_remove (fun vs H Q E h => ?_) (fun _ _ _ _ _ _ us hl => match us, hl with | [_, _], _ => rfl) (fun cdv A outer s H vs Q E hr h => ?_)
  · obtain ⟨_, _, _, _, _, rfl, _⟩ := h
    rfl
  · obtain ⟨D0, x, n, s0, r, rfl, gx, hd, ao, htl, q1, q2⟩ := h
    refine ⟨_, (pss_cons (ps_if (pt_cmpR (op_notInOwn ⟨MI.at_, MI.fn⟩ FI (hr.mono (by decide)) bI pass0) (pv 1) (pv 0) (by rfl)) (pss_one (ps_raise rfl (takes_of rfl rfl rfl rfl) (pmk_oexG B.T BI.at_ B.tI FU (hr.mono (by decide)) bU pass0 rfl B.gm (pa_cons (pv 1) pa_nil)))) pss_nil)
      (pss_cons (ps_for (passes_of rfl) rfl (pi_enumT T.enumerate (pa_cons (pe_ix ix_tup (pe_fld (pv 0) rfl) pe_int (fun _ _ => rfl)) pa_nil)) (pg_tup rfl (pgs_cons (pg_name (i := 2) sc_Desk_remove.nd rfl (.inl rfl)) (pgs_cons (pg_name (i := 3) sc_Desk_remove.nd rfl (.inl rfl)) pgs_nil)))
        (pss_one (ps_if (pt_cmpR op_in_seq (pv 1) (pe_fn D_names_in hr (pa_cons (pv 3) pa_nil)) (by rfl)) (pss_one (ps_raise rfl (takes_of rfl rfl rfl rfl) (pmk_oexG B2.T BI2.at_ B2.tI FX (hr.mono (by decide)) bX pass0 rfl B2.gm (pa_cons (pv 2) pa_nil)))) pss_nil)))
      (pss_one (ps_expr (pe_meth (pv 0) C.cl ⟨MB.at_, MB.fn, MB.kp⟩ FB (hr.mono (by decide)) bB .nil pass0 (pa_cons
        (pe_lock (pe_dc (own := [("one", 4), ("facts", 5)]) (g := gTup K 2 (gCons (gName 4) (gCons (gName 5) gNil))) rfl sc_Desk_remove.nd (pi_items (pe_ix ix_tup (pe_fld (pv 0) rfl) pe_int (fun _ _ => rfl))) (blkOk_by (N := ["self", "name", "index", "promise", "one", "facts"]) (sc := defScope s_Desk_remove) (by decide +kernel)) (fun _ _ _ _ _ => (pg_tup rfl (pgs_cons (pg_name (i := 4) sc_Desk_remove.nd rfl (.inl rfl)) (pgs_cons (pg_name (i := 5) sc_Desk_remove.nd rfl (.inl rfl)) pgs_nil)))) (fun _ _ _ _ _ => (pts_one (pt_cmpR op_ne (pv 4) (pv 1) (nomark _)))) (fun _ _ _ _ _ => pv 4) (fun _ _ _ _ _ => pv 5)))
        (pa_cons (pe_ix ix_tup (pe_fld (pv 0) rfl) pe_int (fun _ _ => rfl)) pa_nil))))))), ?_⟩
    obtain ⟨dx0, v0, eD0, _⟩ := id hd
    refine ⟨.str x, rfl, .ref D0, rfl, D0, dx0, _, rfl, eD0, D0, x, s0, r, rfl, gx, hd, fun H1 s1 => ⟨_, rfl, _, rfl, ?_⟩⟩
    cases hx : (getF s0.tab x).isSome with
    | false =>
      refine iteT ⟨.str x, rfl, mk1 fun d nd => ?_⟩
      refine q2 (.unknown x) ?_ _ _ _ (s1.trans (same_upd nd)) ⟨rfl, d, rfl, upd_same⟩
      unfold remA
      rw [hx, if_neg Bool.false_ne_true]
    | true =>
      obtain ⟨dx, v1, eD, ⟨h0, t0, p0, ys0, prev, rfl, hh0, ht0, hp0, hpv0, hpr⟩⟩ := hd.same s1
      obtain ⟨kvs, et, tv⟩ := id ht0
      have hl := hpv0.length
      refine iteF ⟨.ref D0, rfl, D0, _, dx, _, .ref h0, rfl, eD, C.cl, C.nh, rfl, h0, _, _, _, rfl, rfl, hh0, atI_nat (j := 1) rfl, p0, ys0, rfl, hp0, ?_⟩
      refine for_enumT (xs := ys0) (fun i σ H4 => ∃ t2 t3 t4 t5, σ = [some (.ref D0), some (.str x), t2, t3, t4, t5] ∧ Same H1 H4 ∧ firstUse x 0 s0.vows = firstUse x i (s0.vows.drop i)) ⟨none, none, none, none, rfl, Same.refl _, by rw [List.drop_zero]⟩ ?_ ?_ ?_
      · rintro i σ H4 hi ⟨_, _, _, _, rfl, sm, _⟩
        exact sm.sqt hp0
      · rintro i y σ H4 t hy ⟨t2, t3, t4, t5, rfl, sm, hb⟩ nt
        obtain ⟨u, hu, uv⟩ := paired_get hpv0 hy
        have s5 := sm.trans (same_upd (o := .tup [.int (i : Nat), y]) nt)
        refine ⟨t, _, rfl, .inl (.inl upd_same), rfl, _, _, rfl, _, _, rfl, rfl, ?_⟩
        generalize upd H4 t (.tup [.int (i : Nat), y]) = H5 at s5 ⊢
        rw [firstUse_turn hu] at hb
        refine ⟨.str x, rfl, y, rfl, y, u, rfl, uv.ts s5.ts, fun H6 a s6 ha => ?_⟩
        refine ⟨a, _, rfl, .inr ha, rfl, flat_str _, _, rfl, ?_⟩
        rw [inV_str]
        have s7 := s5.trans s6
        have ux : (u.names.any fun z => decide (z = x)) = u.has x := rfl
        rw [ux]
        cases hux : u.has x with
        | false =>
          rw [hux, if_neg Bool.false_ne_true] at hb
          exact iteF ⟨_, _, _, _, rfl, s7, hb⟩
        | true =>
          rw [hux, if_pos rfl] at hb
          refine iteT ⟨.int i, rfl, mk1 fun d nd => ?_⟩
          refine q2 (.use i) ?_ _ _ _ ((s1.trans s7).trans (same_upd nd)) ⟨rfl, d, rfl, upd_same⟩
          unfold remA
          rw [hx, if_pos rfl, hb]
      · rintro σ H4 ⟨t2, t3, t4, t5, rfl, sm, hb⟩
        rw [hl, List.drop_length] at hb
        have hb' : firstUse x 0 s0.vows = none := hb
        have he : remA s0 x = .ok ⟨dropF s0.tab x, s0.vows⟩ := by
          unfold remA
          rw [hx, if_pos rfl, hb']
        have nd : (kvs.map (·.1)).Nodup := by
          rw [tv.keys]
          exact List.Pairwise.map _ (fun a b h e => h (Sum.inr.inj e)) ao.nd
        have et4 := sm _ _ et
        have eD4 := sm _ _ eD
        have hh4 := sm.sqt hh0
        refine ⟨.ref D0, rfl, D0, dx, _, rfl, eD4, rfl, t0, .dK kvs, et4, True.intro, fun od => ?_⟩
        have nDt : D0 ≠ t0 := fun e => by
          rw [e, et4] at eD4
          cases eD4
        -- under the lock
        have lk : ∀ b o, b ≠ t0 → H4 b = some o → upd H4 t0 (.frz od (.dK kvs)) b = some o := fun b o hb e => by rw [upd_ne hb]; exact e
        have tupL : ∀ {a : Addr} {xs : List V}, SqT K H4 a xs → SqT K (upd H4 t0 (.frz od (.dK kvs))) a xs := fun {a xs} h => by
          rcases h with (h | ⟨o, h⟩) | h
          · exact .inl (.inl (lk _ _ (fun e => by rw [e, et4] at h; cases h) h))
          · exact .inl (.inr ⟨o, lk _ _ (fun e => by rw [e, et4] at h; cases h) h⟩)
          · exact .inr h
        refine ⟨.ref D0, rfl, D0, _, dx, _, .ref h0, rfl, lk _ _ nDt eD4, C.cl, C.nh, rfl, h0, _, _, _, rfl, rfl, tupL hh4, atI_nat (j := 0) rfl, t0, od, kvs, rfl, upd_same, fun Dn nDn => ?_⟩
        generalize hHL : upd H4 t0 (.frz od (.dK kvs)) = HL at nDn ⊢
        refine dc_items (fun i H5 => Same HL H5 ∧ H5 Dn = some (.dK (dropK (kvs.take i) (Sum.inr x)))) ⟨same_upd nDn, upd_same⟩ ?_ ?_ ?_
        · rintro i H5 ⟨s5, _⟩
          exact s5 _ _ (by rw [← hHL]; exact upd_same)
        · rintro i k z H5 T0 hk ⟨s5, e5⟩ nT
          obtain ⟨pq, hpq, rk, _⟩ := paired_get tv hk
          have ek : k = Sum.inr pq.1 := rk
          have s6 := s5.trans (same_upd (o := .tup [kV k, z]) nT)
          have e6 := same_upd (o := .tup [kV k, z]) nT _ _ e5
          have hst := drop_step (x := Sum.inr x) nd hk
          have hll : (dropK (kvs.take i) (Sum.inr x)).length ≤ 900 := by
            refine Nat.le_trans (List.length_filter_le _ _) ?_
            rw [List.length_take, tv.length]
            omega
          refine ⟨T0, _, rfl, .inl (.inl upd_same), rfl, _, _, rfl, _, _, rfl, rfl, rfl, ?_⟩
          subst ek
          refine ⟨.str pq.1, rfl, .str x, rfl, ?_⟩
          refine ⟨rfl, _, rfl, ?_⟩
          by_cases hk2 : pq.1 = x
          · rw [if_pos (by rw [hk2])] at hst
            refine ifF (by rw [hk2]; simp) ⟨s6, by rw [hst]; exact e6⟩
          · rw [if_neg (fun e => hk2 (inr_eq.mp e))] at hst
            refine ifT (by simpa using hk2) ⟨.str pq.1, rfl, z, rfl, _, Sum.inr pq.1, rfl, e6, small1000 (by omega), same_set s6 nDn, ?_⟩
            rw [upd_same, hst]
        · rintro H5 ⟨s5, e5⟩
          rw [List.take_length] at e5
          have et5 : H5 t0 = some (.frz od (.dK kvs)) := s5 _ _ (by rw [← hHL]; exact upd_same)
          have nDnt : Dn ≠ t0 := fun e => by
            rw [e, ← hHL, upd_same] at nDn
            cases nDn
          have s6 : Same H4 (upd H5 t0 (.dK kvs)) := fun b o e => by
            by_cases hb : b = t0
            · rw [hb, upd_same]
              rw [hb, et4] at e
              exact e
            · rw [upd_ne hb]
              exact s5 _ _ (by rw [← hHL]; exact lk _ _ hb e)
          have e6 : upd H5 t0 (.dK kvs) Dn = some (.dK (dropK kvs (Sum.inr x))) := by
            rw [upd_ne nDnt]
            exact e5
          refine ⟨et5, ?_⟩
          generalize upd H5 t0 (.dK kvs) = H6 at s6 e6 ⊢
          have s7 := sm.trans s6
          have s8 := s1.trans s7
          refine ⟨.ref D0, rfl, D0, _, dx, _, .ref h0, rfl, s6 _ _ eD4, C.cl, C.nh, rfl, h0, _, _, _, rfl, rfl, s6.sqt hh4, atI_nat (j := 1) rfl, ?_⟩
          refine ⟨D0, Dn, p0, ys0, dropF s0.tab x, s0.vows, s0 :: r, rfl, hd.same s8, (fun z => nomatch z), ⟨_, e6, (tv.ts s7.ts).drop⟩, s7.sqt hp0, Paired.mapP hpv0 fun _ _ z => z.ts s7.ts, fun H7 f7 d7 => ?_⟩
          exact q1 _ he H7 ((s8.fr _).trans f7) d7
end
end Kr

set_option Elab.async false
set_option linter.all false
set_option maxRecDepth 100000
set_option maxHeartbeats 4000000
/-! The law's draws. -/
namespace Kr
open PySem PySem.Spec PyProof.Rows L2
def Vial (H : Hp) (p : Addr) : Prop := ∃ a b : Int, H p = some (.lst [.int a, .int b]) ∧ 0 ≤ a ∧ 0 ≤ b ∧ b < 2147482951
theorem Vial.noT {H : Hp} {p : Addr} (h : Vial H p) : NoT [p] H := fun b hb => by
  obtain ⟨x, y, e, _⟩ := h
  rw [List.mem_singleton.mp hb]
  exact .inl ⟨_, e⟩
theorem Vial.same {H H' : Hp} {p : Addr} (e : Same H H') (h : Vial H p) : Vial H' p := by
  obtain ⟨x, y, h1, h2⟩ := h
  exact ⟨x, y, e _ _ h1, h2⟩
theorem Fr.sql {K : PySem.W.Frag} {S : List Addr} {H H' : Hp} {a : Addr} {xs : List V} (e : Fr S H H') (n : a ∉ S) (h : SqL K H a xs) : SqL K H' a xs := by
  rcases h with (h | ⟨o, h⟩) | h
  · exact .inl (.inl (e _ _ n h))
  · exact .inl (.inr ⟨o, e _ _ n h⟩)
  · exact .inr h
theorem Fr.new {S : List Addr} {H H1 : Hp} {p : Addr} {o : HO} (e : Fr S H H1) (n : H1 p = none) : Fr S H (upd H1 p o) := e.trans (fr_new n)
theorem Fr.fresh {H H' : Hp} {p c : Addr} (e : Fr [p] H H') (v : Vial H' p) (h : H' c = none) : H c = none ∧ c ≠ p := by
  have hc : c ≠ p := fun z => by
    obtain ⟨_, _, q, _⟩ := v
    rw [z, q] at h
    cases h
  refine ⟨?_, hc⟩
  cases q : H c with
  | none => rfl
  | some o =>
    rw [e c o (by simpa using hc) q] at h
    cases h
section
variable {P : Program} {w : World} {K : PySem.W.Frag} {mg : Str → Option Value} {base : Heap}
def spDrop : Sp := fun vs H Q _ => ∃ (p : Addr) (n : Int), vs = [.ref p, .int n] ∧ Vial H p ∧ 1 ≤ n ∧ n < 1073741824 ∧ ∀ H' d, Fr [p] H H' → Vial H' p → 0 ≤ d → d < n → Q (.int d) H'
theorem sc_l_drop : FnScope ["_law_vial_here", "_law_size", "_law_digit"] ["_law_vial_here", "_law_size"] (defScope s_l_drop) := ⟨rfl, rfl, rfl, by decide +kernel, rfl, by decide +kernel, by decide +kernel⟩
theorem l_drop_ok (D : DefIn K mg "_law_drop" s_l_drop) (T : Fre mg) : DOk P w K mg base CX0 1 "_law_drop" ["_law_vial_here", "_law_size"] spDrop := by
  refine D.ok sc_l_drop (fun vs H Q E h => ?_) (fun _ _ _ _ _ _ us hl => match us, hl with | [_, _], _ => rfl) (fun cdv A outer s H vs Q E hr h => ?_)
  · obtain ⟨_, _, rfl, _⟩ := h
    rfl
  · obtain ⟨p, n, rfl, ⟨a, b, e, a0, b0, b1⟩, n0, n1, q⟩ := h
    refine ⟨_, (pss_cons (ps_if (pt_cmpR op_gt (pe_ix ix_list (pv 0) pe_int (fun _ _ => rfl)) pe_int (nomark _)) (pss_cons (ps_asg (pe_callB call_divmod (by rfl) T.divmod (by decide +kernel) (pa_cons (pe_ix ix_list (pv 0) pe_int (fun _ _ => rfl)) (pa_cons (pv 1) pa_nil))) (pg_tup rfl (pgs_cons (pg_sub (pv 0) pe_int set_list) (pgs_cons (pg_name (i := 2) sc_l_drop.nd rfl (.inl rfl)) pgs_nil))))
        (pss_one (ps_ret (pv 2)))) pss_nil)
      (pss_cons (ps_asg (pe_op op_modN (pe_callTy call_int1 (by rfl) T.int_ (by decide +kernel) (pa_cons (pe_op op_add (pe_op op_mul (pe_ix ix_list (pv 0) pe_int (fun _ _ => rfl)) pe_int) pe_int) pa_nil)) pe_int) (pg_sub (pv 0) pe_int set_list))
      (pss_one (ps_ret (pe_op op_modN (pe_callTy call_int1 (by rfl) T.int_ (by decide +kernel) (pa_cons (pe_op op_fdivN (pe_ix ix_list (pv 0) pe_int (fun _ _ => rfl)) pe_int) pa_nil)) (pv 1)))))), ?_⟩
    refine ⟨.ref p, rfl, p, _, _, _, rfl, rfl, .inl (.inl e), atI_nat (j := 0) rfl, _, _, rfl, rfl, _, rfl, ite2 (fun ha => ?_) fun ha => ?_⟩
    · refine ⟨.ref p, rfl, p, _, _, _, rfl, rfl, .inl (.inl e), atI_nat (j := 0) rfl, .int n, rfl, a, n, rfl, ⟨by omega, n1⟩, fun t nt => ?_⟩
      have e1 := same_upd (o := .tup [.int (a / n), .int (a % n)]) nt p _ e
      have f1 : Fr [p] H (upd H t (.tup [.int (a / n), .int (a % n)])) := fr_new nt
      refine ⟨t, _, rfl, .inl (.inl upd_same), rfl, _, _, rfl, .ref p, rfl, p, _, 0, 0, rfl, rfl, e1, rfl, _, _, rfl, rfl, .int (a % n), rfl, ?_⟩
      refine q _ (a % n) (f1.trans (fr_upd (List.mem_singleton_self _))) ⟨a / n, b, upd_same, Int.ediv_nonneg a0 (by omega), b0, b1⟩ (Int.emod_nonneg _ (by omega)) (Int.emod_lt_of_pos _ (by omega))
    · refine ⟨.ref p, rfl, p, _, _, _, rfl, rfl, .inl (.inl e), atI_nat (j := 1) rfl, b, _, rfl, rfl, .inl ⟨by omega, by omega⟩, _, _, rfl, rfl, .inl ⟨_, rfl, _, _, rfl, rfl, (show (2147482951 : Int) ≠ 0 by decide), ?_⟩⟩
      have m := fmod_bd (a := b * 66041 + 17027) (show (0 : Int) < 2147482951 by decide)
      refine ⟨.ref p, rfl, p, _, 1, 1, rfl, rfl, e, rfl, ?_⟩
      refine ⟨.ref p, rfl, p, _, _, _, rfl, rfl, .inl (.inl upd_same), atI_nat (j := 1) rfl, _, _, rfl, rfl, ⟨by decide, by decide⟩, .inl ⟨_, rfl, .int n, rfl, _, n, rfl, rfl, by omega, ?_⟩⟩
      obtain ⟨m3, m4⟩ := fmod_bd (a := ((b * 66041 + 17027).fmod 2147482951).fdiv 883) (show 0 < n by omega)
      exact q _ _ (fr_upd (List.mem_singleton_self _)) ⟨a, _, upd_same, a0, m.1, m.2⟩ m3 m4
def spAny (K : PySem.W.Frag) : Sp := fun vs H Q _ => ∃ (p a : Addr) (xs : List V), vs = [.ref p, .ref a] ∧ Vial H p ∧ SqL K H a xs ∧ a ≠ p ∧ xs ≠ [] ∧ xs.length ≤ 1000 ∧ ∀ H' x, Fr [p] H H' → Vial H' p → x ∈ xs → Q x H'
theorem sc_l_any : FnScope ["_law_vial_here", "_law_some"] ["_law_vial_here", "_law_some"] (defScope s_l_any) := ⟨rfl, rfl, rfl, by decide +kernel, rfl, by decide +kernel, by decide +kernel⟩
theorem l_any_ok (D : DefIn K mg "_law_any" s_l_any) (T : Fre mg) (D_l_drop : DOk P w K mg base CX0 1 "_law_drop" ["_law_vial_here", "_law_size"] spDrop) : DOk P w K mg base CX0 2 "_law_any" ["_law_vial_here", "_law_some"] (spAny K) := by
  refine D.ok sc_l_any (fun vs H Q E h => ?_) (fun _ _ _ _ _ _ us hl => match us, hl with | [_, _], _ => rfl) (fun cdv A outer s H vs Q E hr h => ?_)
  · obtain ⟨_, _, _, rfl, _⟩ := h
    rfl
  · obtain ⟨p, a, xs, rfl, hv, ha, nap, hne, hl, q⟩ := h
    refine ⟨_, (pss_one (ps_ret (pe_ix ix_list (pv 1) (pe_fn D_l_drop hr (pa_cons (pv 0) (pa_cons (pe_callB call_len_seq (by rfl) T.len_ (by decide +kernel) (pa_cons (pv 1) pa_nil)) pa_nil))) (fun _ _ => rfl)))), ?_⟩
    have h0 : 0 < xs.length := List.length_pos_iff.mpr hne
    refine ⟨.ref a, rfl, .ref p, rfl, .ref a, rfl, a, xs, rfl, .inl ha, p, _, rfl, hv, by omega, by omega, fun H1 d f1 v1 d0 d1 => ?_⟩
    obtain ⟨k, rfl⟩ := Int.eq_ofNat_of_zero_le d0
    have hk : k < xs.length := by omega
    exact ⟨a, _, _, _, rfl, rfl, f1.sql (by simpa using nap) ha, atI_nat (List.getElem?_eq_getElem hk), q _ _ f1 v1 (List.getElem_mem hk)⟩
theorem cutV_mem {xs : List V} {lo hi : Option Int} {x : V} (h : x ∈ cutV xs lo hi) : x ∈ xs := by
  unfold cutV at h
  exact List.mem_of_mem_drop (List.mem_of_mem_take h)
def spMixed (K : PySem.W.Frag) : Sp := fun vs H Q _ => ∃ (p a : Addr) (xs : List V), vs = [.ref p, .ref a] ∧ Vial H p ∧ SqL K H a xs ∧ a ≠ p ∧ xs.length ≤ 900 ∧ ∀ H' g ys, Fr [p] H H' → Vial H' p → H' g = some (.lst ys) → H g = none → ys.length = xs.length → (∀ y ∈ ys, y ∈ xs) → Q (.ref g) H'
theorem sc_l_mixed : FnScope ["_law_vial_here", "_law_some", "_law_found", "_law_left", "_law_turn", "_law_at"] ["_law_vial_here", "_law_some"] (defScope s_l_mixed) := ⟨rfl, rfl, rfl, by decide +kernel, rfl, by decide +kernel, by decide +kernel⟩
theorem l_mixed_ok (D : DefIn K mg "_law_mixed" s_l_mixed) (T : Fre mg) (D_l_drop : DOk P w K mg base CX0 1 "_law_drop" ["_law_vial_here", "_law_size"] spDrop) : DOk P w K mg base CX0 2 "_law_mixed" ["_law_vial_here", "_law_some"] (spMixed K) := by
  refine D.ok sc_l_mixed (fun vs H Q E h => ?_) (fun _ _ _ _ _ _ us hl => match us, hl with | [_, _], _ => rfl) (fun cdv A outer s H vs Q E hr h => ?_)
  · obtain ⟨_, _, _, rfl, _⟩ := h
    rfl
  · obtain ⟨p, a, xs, rfl, hv, ha, nap, hl, q⟩ := h
    have big : 2000 ≤ sizeLine := by decide
    refine ⟨_, (pss_cons (ps_par (i := 2) (j := 3) rfl sc_l_mixed.nd rfl rfl (by decide) rfl rfl (pa_cons (pe_lst pa_nil) (pa_cons (pe_callTy call_list_of (by rfl) T.list_ (by decide +kernel) (pa_cons (pv 1) pa_nil)) pa_nil)) (by rfl))
      (pss_cons (ps_for PassesOwn.never rfl (pi_range1 (by rfl) T.range_ (pa_cons (pe_callB call_len_seq (by rfl) T.len_ (by decide +kernel) (pa_cons (pv 1) pa_nil)) pa_nil)) (pg_name (i := 4) sc_l_mixed.nd rfl (.inl rfl))
        (pss_cons (ps_set (i := 5) sc_l_mixed.nd rfl (.inl rfl) (pe_fn D_l_drop hr (pa_cons (pv 0) (pa_cons (pe_callB call_len_seq (by rfl) T.len_ (by decide +kernel) (pa_cons (pv 3) pa_nil)) pa_nil))))
        (pss_one (ps_par (i := 2) (j := 3) rfl sc_l_mixed.nd rfl rfl (by decide) rfl rfl (pa_cons (pe_op op_cat (pv 2) (pe_lst (pa_cons (pe_ix ix_list (pv 3) (pv 5) (fun _ _ => rfl)) pa_nil))) (pa_cons (pe_op op_cat (pe_slice sl_list (pv 3) po_none (po_some (pv 5))) (pe_slice sl_list (pv 3) (po_some (pe_op op_add (pv 5) pe_int)) po_none)) pa_nil)) (by rfl)))))
      (pss_one (ps_ret (pv 2))))), ?_⟩
    refine ⟨Nat.zero_le _, fun f nf => ?_⟩
    have s1 := same_upd (o := .lst []) nf
    refine ⟨.ref a, rfl, a, xs, rfl, .inl (s1.seq ha), fun l nl => ?_⟩
    have s2 := s1.trans (same_upd (o := .lst xs) nl)
    have ef := same_upd (o := .lst xs) nl f _ upd_same
    refine ⟨_, _, rfl, .ref a, rfl, a, xs, rfl, .inl (s2.seq ha), (xs.length : Int), rfl, by omega, by omega, ?_⟩
    rw [Int.toNat_natCast]
    have nfp : f ≠ p := fun e => by
      obtain ⟨_, _, ep, _⟩ := hv
      rw [e, ep] at nf
      cases nf
    have nlp : l ≠ p := fun e => by
      obtain ⟨_, _, ep, _⟩ := hv.same s1
      rw [e, ep] at nl
      cases nl
    refine for_range (lo := 0) (n := xs.length) (fun i σ H1 => ∃ f l t4 t5 ys zs, σ = [some (.ref p), some (.ref a), some (.ref f), some (.ref l), t4, t5] ∧ Fr [p] H H1 ∧ Vial H1 p ∧ H1 f = some (.lst ys) ∧ H1 l = some (.lst zs) ∧ f ≠ p ∧ l ≠ p ∧ H f = none ∧ ys.length = i ∧ zs.length + i = xs.length ∧ (∀ y ∈ ys, y ∈ xs) ∧ ∀ z ∈ zs, z ∈ xs) ⟨f, l, none, none, [], xs, rfl, s2.fr _, hv.same s2, ef, upd_same, nfp, nlp, nf, rfl, rfl, fun y h => absurd h (by simp), fun _ h => h⟩ ?_ ?_
    · rintro i σ H1 hi ⟨f, l, t4, t5, ys, zs, rfl, f1, v1, ef, el, nfp, nlp, nf, hy, hz, my, mz⟩
      refine ⟨.ref p, rfl, .ref l, rfl, l, zs, rfl, .inl (.inl (.inl el)), p, _, rfl, v1, by omega, by omega, fun H2 d f2 v2 d0 d1 => ?_⟩
      have ef2 := f2 _ _ (by simpa using nfp) ef
      have el2 := f2 _ _ (by simpa using nlp) el
      have f12 := f1.trans f2
      obtain ⟨k, rfl⟩ := Int.eq_ofNat_of_zero_le d0
      have hk : k < zs.length := by omega
      refine ⟨.ref f, rfl, .ref l, rfl, .int k, rfl, l, _, _, _, rfl, rfl, .inl (.inl el2), atI_nat (List.getElem?_eq_getElem hk), by show 1 ≤ sizeLine; decide, fun b nb => ?_⟩
      have s3 := same_upd (o := .lst [zs[k]]) nb
      refine ⟨f, b, ys, _, rfl, rfl, s3 _ _ ef2, upd_same, by rw [List.length_singleton]; omega, fun c nc => ?_⟩
      have s4 := s3.trans (same_upd (o := .lst (ys ++ [zs[k]])) nc)
      have ec : upd (upd H2 b (.lst [zs[k]])) c (.lst (ys ++ [zs[k]])) c = some (.lst (ys ++ [zs[k]])) := upd_same
      generalize upd (upd H2 b (.lst [zs[k]])) c (.lst (ys ++ [zs[k]])) = H3 at s4 ec ⊢
      refine ⟨.ref l, rfl, .int k, rfl, (k : Int), rfl, l, zs, rfl, .inl (.inl (s4 _ _ el2)), fun m nm => ?_⟩
      have s5 := s4.trans (same_upd (o := .lst (cutV zs none (some (k : Int)))) nm)
      have em : upd H3 m (.lst (cutV zs none (some (k : Int)))) m = some (.lst (cutV zs none (some (k : Int)))) := upd_same
      have ec4 := same_upd (o := .lst (cutV zs none (some (k : Int)))) nm _ _ ec
      generalize upd H3 m (.lst (cutV zs none (some (k : Int)))) = H4 at s5 em ec4 ⊢
      refine ⟨.ref l, rfl, .int k, rfl, (k : Int), 1, rfl, rfl, (k : Int) + 1, rfl, ?_⟩
      unfold tNoPart
      refine ⟨l, zs, rfl, .inl (.inl (s5 _ _ el2)), fun m2 nm2 => ?_⟩
      rw [cut_hi, cut_lo] at *
      have s6 := s5.trans (same_upd (o := .lst (zs.drop (k + 1))) nm2)
      have em5 := same_upd (o := .lst (zs.drop (k + 1))) nm2 _ _ em
      have ec5 := same_upd (o := .lst (zs.drop (k + 1))) nm2 _ _ ec4
      refine ⟨m, m2, _, _, rfl, rfl, em5, upd_same, by rw [List.length_take, List.length_drop]; omega, fun l2 nl2 => ?_⟩
      have s7 := s6.trans (same_upd (o := .lst (zs.take k ++ zs.drop (k + 1))) nl2)
      have ec6 := same_upd (o := .lst (zs.take k ++ zs.drop (k + 1))) nl2 _ _ ec5
      obtain ⟨n1, n2⟩ := (f12.trans (s3.fr _)).fresh (v2.same s3) nc
      obtain ⟨n3, n4⟩ := (f12.trans (s6.fr _)).fresh (v2.same s6) nl2
      refine ⟨_, _, rfl, c, l2, _, _, ys ++ [zs[k]], _, rfl, f12.trans (s7.fr _), v2.same s7, ec6, upd_same, n2, n4, n1, by rw [List.length_append, hy]; rfl, by rw [List.length_append, List.length_take, List.length_drop]; omega, fun y h => ?_, fun z h => mz z (mem_cut h)⟩
      rcases List.mem_append.mp h with h | h
      · exact my y h
      · rw [List.mem_singleton.mp h]
        exact mz _ (List.getElem_mem hk)
    · rintro σ H1 ⟨f, l, t4, t5, ys, zs, rfl, f1, v1, ef, el, nfp, nlp, nf, hy, hz, my, mz⟩
      exact ⟨.ref f, rfl, q _ f ys f1 v1 ef nf hy my⟩
end
end Kr

set_option Elab.async false
set_option linter.all false
set_option maxRecDepth 100000
set_option maxHeartbeats 4000000
/-! The law's words and vials. -/
namespace Kr
open PySem PySem.Spec PyProof.Rows L2
def pool : List Str := ["a", "b", "c", "as", "much", "sure", "abcdefgh", "zz", "none", "x", "fits", "undo"]
def goodB (z : Str) : Bool := decide (1 ≤ z.length) && decide (z.length ≤ 8) && z.cps.toList.all fun c => decide (c ∈ lettersS.cps.toList)
theorem good_of {z : Str} (h : goodB z = true) : GoodName z := by
  unfold goodB at h
  simp only [Bool.and_eq_true, decide_eq_true_eq, List.all_eq_true] at h
  exact ⟨h.1.1, h.1.2, h.2⟩
theorem pool_good : ∀ z ∈ pool, GoodName z := fun z hz => good_of (List.all_eq_true.mp (show pool.all goodB = true by decide +kernel) z hz)
theorem strs_of {l : List Str} : ∀ {ys : List V}, (∀ y ∈ ys, y ∈ l.map V.str) → ∃ zs : List Str, ys = zs.map V.str ∧ ∀ z ∈ zs, z ∈ l
  | [], _ => ⟨[], rfl, fun z h => absurd h (by simp)⟩
  | y :: ys, h => by
    obtain ⟨zs, rfl, hz⟩ := strs_of (ys := ys) fun y hy => h y (List.mem_cons_of_mem _ hy)
    obtain ⟨z, hm, rfl⟩ := List.mem_map.mp (h y List.mem_cons_self)
    refine ⟨z :: zs, rfl, fun x hx => ?_⟩
    rcases List.mem_cons.mp hx with rfl | hx
    · exact hm
    · exact hz x hx
section
variable {P : Program} {w : World} {K : PySem.W.Frag} {mg : Str → Option Value} {base : Heap}
def spWords (K : PySem.W.Frag) : Sp := fun vs H Q _ => ∃ (p : Addr), vs = [.ref p, .int 3] ∧ Vial H p ∧ ∀ H' g zs, Fr [p] H H' → Vial H' p → H' g = some (.lst (zs.map V.str)) → g ≠ p → zs ≠ [] → zs.length ≤ 12 → (∀ z ∈ zs, GoodName z) → Q (.ref g) H'
theorem sc_l_words : FnScope ["_law_vial_here", "_law_many", "_law_pool"] ["_law_vial_here", "_law_many"] (defScope s_l_words) := ⟨rfl, rfl, rfl, by decide +kernel, rfl, by decide +kernel, by decide +kernel⟩
theorem l_words_ok (D : DefIn K mg "_law_words" s_l_words) (D_l_mixed : DOk P w K mg base CX0 2 "_law_mixed" ["_law_vial_here", "_law_some"] (spMixed K)) : DOk P w K mg base CX0 3 "_law_words" ["_law_vial_here", "_law_many"] (spWords K) := by
  refine D.ok sc_l_words (fun vs H Q E h => ?_) (fun _ _ _ _ _ _ us hl => match us, hl with | [_, _], _ => rfl) (fun cdv A outer s H vs Q E hr h => ?_)
  · obtain ⟨_, rfl, _⟩ := h
    rfl
  · obtain ⟨p, rfl, hv, q⟩ := h
    refine ⟨_, (pss_cons (ps_set (i := 2) sc_l_words.nd rfl (.inl rfl) (pe_lst (pa_cons pe_str (pa_cons pe_str (pa_cons pe_str (pa_cons pe_str (pa_cons pe_str (pa_cons pe_str (pa_cons pe_str (pa_cons pe_str (pa_cons pe_str (pa_cons pe_str (pa_cons pe_str (pa_cons pe_str pa_nil))))))))))))))
      (pss_one (ps_ret (pe_slice sl_list (pe_fn D_l_mixed hr (pa_cons (pv 0) (pa_cons (pv 2) pa_nil))) po_none (po_some (pv 1)))))), ?_⟩
    refine ⟨by show 12 ≤ sizeLine; decide, fun f nf => ?_⟩
    have s1 := same_upd (o := .lst (pool.map V.str)) nf
    have v1 := hv.same s1
    have nfp := ((Fr.refl [p] H).fresh hv nf).2
    refine ⟨.ref p, rfl, .ref f, rfl, p, f, pool.map V.str, rfl, v1, .inl (.inl upd_same), nfp, by decide, fun H1 g ys f1 v2 eg ng hl hm => ?_⟩
    obtain ⟨zs, rfl, hz⟩ := strs_of hm
    refine ⟨.int 3, rfl, 3, rfl, g, zs.map V.str, rfl, .inl (.inl eg), fun k nk => ?_⟩
    have f2 := ((s1.fr [p]).trans f1).new (o := .lst (cutV (zs.map V.str) none (some 3))) nk
    have hlz : zs.length = 12 := by
      rw [List.length_map] at hl
      exact hl
    have ec : cutV (zs.map V.str) none (some 3) = (zs.take 3).map V.str := by
      rw [show (3 : Int) = ((3 : Nat) : Int) from rfl, cut_lo, List.map_take]
    refine q _ k (zs.take 3) f2 (v2.same (same_upd nk)) (by rw [upd_same, ec]) (((s1.fr [p]).trans f1).fresh v2 nk).2 ?_ ?_ fun z h => pool_good z (hz z (List.mem_of_mem_take h))
    · intro e
      have := congrArg List.length e
      rw [List.length_take, hlz] at this
      cases this
    · rw [List.length_take]
      omega
def spVial (K : PySem.W.Frag) : Sp := fun vs H Q _ => ∃ (a : Addr) (ns : List Int) (k : Nat), vs = [.ref a, .int k] ∧ SqL K H a (ns.map V.int) ∧ ns.length ≤ 1000 ∧ k ≤ 10 ∧ ∀ H' p, Same H H' → H p = none → Vial H' p → Q (.ref p) H'
theorem sc_l_vial : FnScope ["_law_script", "_law_turn", "_law_cell", "_law_stirred", "_law_each"] ["_law_script", "_law_turn"] (defScope s_l_vial) := ⟨rfl, rfl, rfl, by decide +kernel, rfl, by decide +kernel, by decide +kernel⟩
theorem ints_of {l : List Int} {m : Int} : ∀ {ys : List V}, (∀ y ∈ ys, y ∈ l.map V.int ∨ y = .int m) → ∃ zs : List Int, ys = zs.map V.int
  | [], _ => ⟨[], rfl⟩
  | y :: ys, h => by
    obtain ⟨zs, rfl⟩ := ints_of (ys := ys) fun y hy => h y (List.mem_cons_of_mem _ hy)
    rcases h y List.mem_cons_self with h | rfl
    · obtain ⟨z, hm, rfl⟩ := List.mem_map.mp h
      exact ⟨z :: zs, rfl⟩
    · exact ⟨m :: zs, rfl⟩
theorem l_vial_ok (D : DefIn K mg "_law_vial" s_l_vial) (T : Fre mg) : DOk P w K mg base CX0 1 "_law_vial" ["_law_script", "_law_turn"] (spVial K) := by
  refine D.ok sc_l_vial (fun vs H Q E h => ?_) (fun _ _ _ _ _ _ us hl => match us, hl with | [_, _], _ => rfl) (fun cdv A outer s H vs Q E hr h => ?_)
  · obtain ⟨_, _, _, rfl, _⟩ := h
    rfl
  · obtain ⟨a, ns, k, rfl, ha, hl, hk, q⟩ := h
    have big : 2000 ≤ sizeLine := by decide
    have rest : ∃ t, PSs (cxOf CX0 P w K mg base ["_law_script", "_law_turn", "_law_cell", "_law_stirred", "_law_each"] "_law_vial" (defScope s_l_vial) (He.ga K "_law_vial") cdv A outer s H E).nox ((defBody s_l_vial).drop 1) t ∧
        ∀ c : Int, t { nx := fun _ H' => Q .non H', rt := Q } [some (.ref a), some (.int k), some (.int c), none, none] H := by
      refine ⟨_, (pss_cons (ps_set (i := 3) sc_l_vial.nd rfl (.inl rfl) (pe_op op_add pe_int (pe_op op_mul pe_int (pv 1))))
      (pss_cons (ps_for PassesOwn.never rfl (pi_list (pe_op op_cat (pe_slice sl_list (pv 0) po_none (po_some pe_int)) (pe_lst (pa_cons (pv 2) pa_nil)))) (pg_name (i := 4) sc_l_vial.nd rfl (.inl rfl))
        (pss_one (ps_set (i := 3) sc_l_vial.nd rfl (.inl rfl) (pe_op op_modN (pe_callTy call_int1 (by rfl) T.int_ (by decide +kernel) (pa_cons (pe_op op_add (pe_op op_add (pe_op op_mul (pv 3) pe_int) (pe_op op_modN (pe_callTy call_int1 (by rfl) T.int_ (by decide +kernel) (pa_cons (pv 4) pa_nil)) pe_int)) pe_int) pa_nil)) pe_int))))
      (pss_one (ps_ret (pe_lst (pa_cons (pe_ifExp (PW.pt (pw_or (pt_cmpR op_lt (pv 2) pe_int (nomark _)) (pw_or1 (pt_cmpR op_ge (pv 2) (pe_op op_pow pe_int pe_int) (nomark _))))) (pe_callB call_abs (by rfl) T.abs_ (by decide +kernel) (pa_cons (pv 2) pa_nil)) pe_int) (pa_cons (pv 3) pa_nil))))))), ?_⟩
      intro c
      refine ⟨.int k, rfl, _, _, rfl, rfl, .inl ⟨by decide, by decide⟩, _, _, rfl, rfl, ?_⟩
      refine ⟨.ref a, rfl, 5, rfl, a, _, rfl, ha, fun b nb => ?_⟩
      have s1 := same_upd (o := .lst (cutV (ns.map V.int) none (some 5))) nb
      refine ⟨.int c, rfl, by show 1 ≤ sizeLine; decide, fun b2 nb2 => ?_⟩
      have s2 := s1.trans (same_upd (o := .lst [.int c]) nb2)
      have hcl : (cutV (ns.map V.int) none (some 5)).length ≤ 1000 := by
        have := cutV_length (ns.map V.int) none (some 5)
        rw [List.length_map] at this
        omega
      refine ⟨b, b2, _, _, rfl, rfl, same_upd (o := .lst [.int c]) nb2 _ _ upd_same, upd_same, by rw [List.length_singleton]; omega, fun b3 nb3 => ?_⟩
      have s3 := s2.trans (same_upd (o := .lst (cutV (ns.map V.int) none (some 5) ++ [.int c])) nb3)
      obtain ⟨zs, hz⟩ := ints_of (l := ns) (m := c) (ys := cutV (ns.map V.int) none (some 5) ++ [.int c]) fun y hy => by
        rcases List.mem_append.mp hy with h | h
        · exact .inl (cutV_mem h)
        · exact .inr (List.mem_singleton.mp h)
      have e3 : upd (upd (upd H b (.lst (cutV (ns.map V.int) none (some 5)))) b2 (.lst [.int c])) b3 (.lst (cutV (ns.map V.int) none (some 5) ++ [.int c])) b3 = some (.lst (zs.map V.int)) := by
        rw [upd_same, hz]
      generalize upd (upd (upd H b (.lst (cutV (ns.map V.int) none (some 5)))) b2 (.lst [.int c])) b3 (.lst (cutV (ns.map V.int) none (some 5) ++ [.int c])) = H3 at s3 e3 ⊢
      refine ⟨b3, rfl, ⟨_, .inl (.inl e3)⟩, ?_⟩
      refine for_list (xs := zs.map V.int) (fun i σ H4 => H4 = H3 ∧ ∃ (st : Int) (t4 : Option V), σ = [some (.ref a), some (.int k), some (.int c), some (.int st), t4] ∧ 0 ≤ st ∧ st < 2147482951) ⟨rfl, _, none, rfl, by omega, by omega⟩ ?_ ?_ ?_
      · rintro i σ H4 hi ⟨rfl, _⟩
        exact .inl (.inl e3)
      · rintro i y σ H4 hy ⟨rfl, st, t4, rfl, z0, z1⟩
        rw [List.getElem?_map] at hy
        cases hz : zs[i]? with
        | none =>
          rw [hz] at hy
          cases hy
        | some z =>
          rw [hz] at hy
          cases hy
          refine ⟨.int st, rfl, st, _, rfl, rfl, .inl ⟨by omega, by omega⟩, .int z, rfl, .inl ⟨z, rfl, _, _, rfl, rfl, (show (2147482951 : Int) ≠ 0 by decide), _, _, rfl, rfl, _, _, rfl, rfl, .inl ⟨_, rfl, _, _, rfl, rfl, (show (2147482951 : Int) ≠ 0 by decide), ?_⟩⟩⟩
          obtain ⟨m1, m2⟩ := fmod_bd (a := st * 39019 + z.fmod 2147482951 + 41) (show (0 : Int) < 2147482951 by decide)
          exact ⟨rfl, _, _, rfl, m1, m2⟩
      · rintro σ H4 ⟨rfl, st, t4, rfl, z0, z1⟩
        have fin : ∀ c' : Int, 0 ≤ c' → ∀ p, H4 p = none → Q (.ref p) (upd H4 p (.lst [.int c', .int st])) := fun c' h0 p np => q _ p (s3.trans (same_upd np)) (s3.free np) ⟨c', st, upd_same, h0, z0, z1⟩
        refine ⟨.int c, rfl, _, _, rfl, rfl, _, rfl, ite2 (fun h1 => ?_) fun h1 => ?_⟩
        · refine iteT ⟨.int c, rfl, c, rfl, .int st, rfl, by show 2 ≤ sizeLine; decide, fun p np => fin _ ?_ p np⟩
          rw [abs_eq]
          omega
        · refine ⟨.int c, rfl, _, _, rfl, rfl, ⟨by decide, by decide, by decide⟩, _, _, rfl, rfl, _, rfl, ite2 (fun h2 => ?_) fun h2 => ?_⟩
          · refine ⟨.int c, rfl, c, rfl, .int st, rfl, by show 2 ≤ sizeLine; decide, fun p np => fin _ ?_ p np⟩
            rw [abs_eq]
            omega
          · exact ⟨.int st, rfl, by show 2 ≤ sizeLine; decide, fun p np => fin 0 (by decide) p np⟩
    obtain ⟨t2, h2, key⟩ := rest
    refine ⟨_, pss_cons (ps_set (i := 2) sc_l_vial.nd rfl (.inl rfl) (pe_ifExp (pt_cmpR op_lt (pv 1) (pe_callB call_len_seq (by rfl) T.len_ (by decide +kernel) (pa_cons (pv 0) pa_nil)) (nomark _)) (pe_ix ix_list (pv 0) (pv 1) (fun _ _ => rfl)) (pe_op op_mul pe_int (pe_op op_add (pv 1) pe_int)))) h2, ?_⟩
    refine ⟨.int k, rfl, .ref a, rfl, a, _, rfl, .inl ha, _, _, rfl, rfl, _, rfl, ite2 (fun hlt => ?_) fun hlt => ?_⟩
    · have hlt' : k < ns.length := by
        have := of_decide_eq_true hlt
        rw [List.length_map] at this
        omega
      exact ⟨.ref a, rfl, .int k, rfl, a, _, _, _, rfl, rfl, ha, atI_nat (by rw [List.getElem?_map, List.getElem?_eq_getElem hlt']; rfl), key _⟩
    · exact ⟨.int k, rfl, _, _, rfl, rfl, _, _, rfl, rfl, .inl ⟨by decide, by decide⟩, key _⟩
end
end Kr

set_option Elab.async false
set_option linter.all false
set_option maxRecDepth 100000
set_option maxHeartbeats 4000000
/-! The law's maps. -/
namespace Kr
open PySem PySem.Spec PyProof.Rows L2
def MapV (K : PySem.W.Frag) (H : Hp) (v : V) (m : List Int) : Prop := ∃ a, v = .ref a ∧ SqT K H a (m.map V.int)
theorem MapV.ts {K : PySem.W.Frag} {H H' : Hp} {v : V} {m : List Int} (e : Ts H H') (h : MapV K H v m) : MapV K H' v m := by
  obtain ⟨a, rfl, h⟩ := h
  exact ⟨a, rfl, e.sqt h⟩
def extK (n x : Nat) (h : List Int) (k : Nat) : List (List Int) := (((List.range k).map fun v : Nat => (v : Int)).filter (okV n h x)).map fun v => h ++ [v]
theorem extK_succ (n x : Nat) (h : List Int) (k : Nat) : extK n x h (k + 1) = extK n x h k ++ (if okV n h x k = true then [h ++ [(k : Int)]] else []) := by
  unfold extK
  rw [List.range_succ, List.map_append, List.filter_append, List.map_append]
  congr 1
  by_cases hk : okV n h x k = true
  · rw [if_pos hk]
    simp [hk]
  · rw [if_neg hk]
    simp [hk]
theorem mapsUp_len {n : Nat} (hn : Base n) {x : Nat} (hx : x ≤ n) : (mapsUp n x).length ≤ 200 := by
  have h : ∀ n, Base n → (List.range (n + 1)).all (fun x => decide ((mapsUp n x).length ≤ 200)) = true := by
    rintro n (rfl | rfl | rfl | rfl) <;> decide +kernel
  exact of_decide_eq_true (List.all_eq_true.mp (h n hn) x (List.mem_range.mpr (by omega)))
theorem mapsUp_each {n : Nat} (hn : Base n) {x : Nat} (hx : x ≤ n) {h : List Int} (hm : h ∈ mapsUp n x) : h.length = x := by
  have key : ∀ n, Base n → (List.range (n + 1)).all (fun x => (mapsUp n x).all fun h => decide (h.length = x)) = true := by
    rintro n (rfl | rfl | rfl | rfl) <;> decide +kernel
  exact of_decide_eq_true (List.all_eq_true.mp (List.all_eq_true.mp (key n hn) x (List.mem_range.mpr (by omega))) h hm)
theorem flat_take {α β : Type} {f : α → List β} {l : List α} {j : Nat} {h : α} (hj : l[j]? = some h) : (l.take (j + 1)).flatMap f = (l.take j).flatMap f ++ f h := by
  rw [List.take_add_one, hj]
  simp
theorem Base.le {n : Nat} (h : Base n) : n ≤ 6 := by
  rcases h with rfl | rfl | rfl | rfl <;> decide
section
variable {P : Program} {w : World} {K : PySem.W.Frag} {mg : Str → Option Value} {base : Heap}
def spMaps (K : PySem.W.Frag) : Sp := fun vs H Q _ => ∃ n : Nat, vs = [.int n] ∧ Base n ∧ ∀ H' p ys, Same H H' → H' p = some (.lst ys) → H p = none → Paired (MapV K H') ys (maps n) → Q (.ref p) H'
theorem sc_l_maps : FnScope ["_law_size", "_law_found", "_law_x", "_law_parts", "_law_y", "_law_longer", "_law_head", "_law_v"] ["_law_size"] (defScope s_l_maps) := ⟨rfl, rfl, rfl, by decide +kernel, rfl, by decide +kernel, by decide +kernel⟩
theorem l_maps_ok (D : DefIn K mg "_law_maps" s_l_maps) (T : Fre mg) (D_l_shared : DOk P w K mg base CX0 1 "_law_shared" ["_law_a", "_law_b"] spGcd) : DOk P w K mg base CX0 2 "_law_maps" ["_law_size"] (spMaps K) := by
  refine D.ok sc_l_maps (fun vs H Q E h => ?_) (fun _ _ _ _ _ _ us hl => match us, hl with | [_], _ => rfl) (fun cdv A outer s H vs Q E hr h => ?_)
  · obtain ⟨_, rfl, _⟩ := h
    rfl
  · obtain ⟨n, rfl, hn, q⟩ := h
    have n6 := hn.le
    have big : 3000 ≤ sizeLine := by decide
    refine ⟨_, (pss_cons (ps_set (i := 1) sc_l_maps.nd rfl (.inl rfl) (pe_lst (pa_cons (pe_tup pa_nil) pa_nil)))
      (pss_cons (ps_for PassesOwn.never rfl (pi_range1 (by rfl) T.range_ (pa_cons (pv 0) pa_nil)) (pg_name (i := 2) sc_l_maps.nd rfl (.inr rfl))
        (pss_cons (ps_set (i := 3) sc_l_maps.nd rfl (.inr rfl) (pe_lc (own := [("_law_y", 4)]) (g := gName 4) (tt := tYes) rfl sc_l_maps.nd (pi_range1 (by rfl) T.range_ (pa_cons (pv 2) pa_nil)) (blkOk_by (N := ["_law_size", "_law_found", "_law_x", "_law_parts", "_law_y", "_law_longer", "_law_head", "_law_v"]) (sc := defScope s_l_maps) (by decide +kernel)) (fun _ _ _ _ _ => (pg_name (i := 4) sc_l_maps.nd rfl (.inl rfl))) (fun _ _ _ _ _ => pts_nil) (fun _ _ _ _ _ => (pe_fn D_l_shared hr (pa_cons (pv 0) (pa_cons (pe_op op_sub (pv 2) (pv 4)) pa_nil))))))
        (pss_cons (ps_set (i := 5) sc_l_maps.nd rfl (.inl rfl) (pe_lst pa_nil))
        (pss_cons (ps_for PassesOwn.never rfl (pi_list (pv 1)) (pg_name (i := 6) sc_l_maps.nd rfl (.inr rfl))
          (pss_one (ps_for PassesOwn.never rfl (pi_range1 (by rfl) T.range_ (pa_cons (pv 0) pa_nil)) (pg_name (i := 7) sc_l_maps.nd rfl (.inr rfl))
            (pss_one (ps_if (pt_val (pe_callB (cr_all rfl) (by rfl) T.all_ (by decide +kernel) (pa_cons (pe_lc (own := [("_law_y", 4)]) (g := gName 4) (tt := tYes) rfl sc_l_maps.nd (pi_range1 (by rfl) T.range_ (pa_cons (pv 2) pa_nil)) (blkOk_by (N := ["_law_size", "_law_found", "_law_x", "_law_parts", "_law_y", "_law_longer", "_law_head", "_law_v"]) (sc := defScope s_l_maps) (by decide +kernel)) (fun _ _ _ _ _ => (pg_name (i := 4) sc_l_maps.nd rfl (.inl rfl))) (fun _ _ _ _ _ => pts_nil) (fun _ _ _ _ _ => (pe_cmpR op_eq (pe_op op_modN (pe_callTy call_int1 (by rfl) T.int_ (by decide +kernel) (pa_cons (pe_op op_sub (pv 7) (pe_ix (r := rIxT K) ix_tup (pv 6) (pv 4) (fun _ _ => rfl))) pa_nil)) (pe_ix (r := rIxL K) ix_list (pv 3) (pv 4) (fun _ _ => rfl))) pe_int (nomark _)))) pa_nil))) (pss_one (ps_expr (pe_bm PySem.F.plainAttrs_list PySem.F.slot_list_append PySem.F.type_list_append mt_append (pv 5) (pa_cons (pe_op op_catA (pv 6) (pe_tup (pa_cons (pv 7) pa_nil))) pa_nil)))) pss_nil)))))
        (pss_one (ps_set (i := 1) sc_l_maps.nd rfl (.inl rfl) (pv 5)))))))
      (pss_one (ps_ret (pv 1))))), ?_⟩
    refine ⟨Nat.zero_le _, fun e0 ne0 => ⟨by show 1 ≤ sizeLine; decide, fun f nf => ?_⟩⟩
    have s1 := (same_upd (o := .tup []) ne0).trans (same_upd (o := .lst [.ref e0]) nf)
    have et := same_upd (o := .lst [.ref e0]) nf _ _ (upd_same (H := H) (a := e0) (o := .tup []))
    have fr : ∀ {H1 : Hp} {a : Addr}, Same H H1 → H1 a = none → H a = none := fun s h => s.free h
    refine ⟨.int n, rfl, (n : Int), rfl, by omega, by omega, ?_⟩
    rw [Int.toNat_natCast]
    refine for_range (lo := 0) (n := n) (fun x σ H1 => ∃ f ys t2 t3 t4 t5 t6 t7, σ = [some (.int n), some (.ref f), t2, t3, t4, t5, t6, t7] ∧ Same H H1 ∧ H1 f = some (.lst ys) ∧ H f = none ∧ Paired (MapV K H1) ys (mapsUp n x))
      ⟨f, _, none, none, none, none, none, none, rfl, s1, upd_same, (same_upd ne0).free nf, .cons ⟨e0, rfl, .inl (.inl et)⟩ .nil⟩ ?_ ?_
    · rintro x σ H1 hx ⟨f, ys, t2, t3, t4, t5, t6, t7, rfl, sm, ef, nf, hp⟩
      refine ⟨.int (0 + x), rfl, ((0 : Int) + x), rfl, by omega, by omega, ?_⟩
      have ex : ((0 : Int) + x).toNat = x := by omega
      rw [ex]
      intro c nc
      refine lc_range (lo := 0) (n := x) (fun y H2 => Same H1 H2 ∧ H2 c = some (.lst ((List.range y).map fun y : Nat => V.int (Int.gcd n ((x : Int) - y) : Int)))) ⟨same_upd nc, upd_same⟩ ?_ ?_
      · rintro y H2 hy ⟨s2, ec⟩
        refine ⟨rfl, .int n, rfl, .int _, rfl, .int _, rfl, _, _, rfl, rfl, (n : Int), _, rfl, _, ec, small1000 (by rw [List.length_map, List.length_range]; omega), same_set s2 nc, ?_⟩
        rw [upd_same, List.range_succ, List.map_append]
        show some (HO.lst (_ ++ [V.int (Int.gcd n (0 + (x : Int) - (0 + (y : Int))) : Int)])) = _
        rw [Int.zero_add, Int.zero_add]
        rfl
      · rintro H2 ⟨s2, ec⟩
        refine ⟨Nat.zero_le _, fun l nl => ?_⟩
        have s3 := s2.trans (same_upd (o := .lst []) nl)
        have nlH1 := s2.free nl
        have ncl : c ≠ l := fun e => by
          rw [e, nl] at ec
          cases ec
        have ec3 := same_upd (o := .lst []) nl _ _ ec
        have ef3 := s3 _ _ ef
        have el3 : upd H2 l (.lst []) l = some (.lst []) := upd_same
        generalize upd H2 l (.lst []) = H3 at s3 ec3 ef3 el3 ⊢
        have hly : ys.length = (mapsUp n x).length := hp.length
        have hl200 := mapsUp_len hn (Nat.le_of_lt hx)
        refine ⟨.ref f, rfl, f, rfl, ⟨ys, .inl (.inl ef3)⟩, ?_⟩
        refine for_list (xs := ys) (fun j σ H4 => ∃ zs t4 t6 t7, σ = [some (.int n), some (.ref f), some (.int (0 + (x : Int))), some (.ref c), t4, some (.ref l), t6, t7] ∧ Same H1 H4 ∧ H4 c = some (.lst ((List.range x).map fun y : Nat => V.int (Int.gcd n ((x : Int) - y) : Int))) ∧ H4 l = some (.lst zs) ∧
          Paired (MapV K H4) zs (((mapsUp n x).take j).flatMap fun h => extK n x h n) ∧ zs.length ≤ 6 * j) ⟨[], _, _, _, rfl, s3, ec3, el3, by simp; exact .nil, by simp⟩ ?_ ?_ ?_
        · rintro j σ H4 hj ⟨zs, t4, t6, t7, rfl, s4, _⟩
          exact .inl (.inl (s4 _ _ ef))
        · rintro j v0 σ H4 hv ⟨zs, t4, t6, t7, rfl, s4, ec4, el4, hp4, hz4⟩
          obtain ⟨h, hh, ⟨a, rfl, ha⟩⟩ := paired_get hp hv
          have hj : j < ys.length := (List.getElem?_eq_some_iff.mp hv).1
          have hxl : h.length = x := mapsUp_each hn (Nat.le_of_lt hx) (List.mem_of_getElem? hh)
          refine ⟨.int n, rfl, (n : Int), rfl, by omega, by omega, ?_⟩
          rw [Int.toNat_natCast]
          refine for_range (lo := 0) (n := n) (fun k σ H5 => ∃ zs t4 t7, σ = [some (.int n), some (.ref f), some (.int (0 + (x : Int))), some (.ref c), t4, some (.ref l), some (.ref a), t7] ∧ Same H1 H5 ∧ H5 c = some (.lst ((List.range x).map fun y : Nat => V.int (Int.gcd n ((x : Int) - y) : Int))) ∧ H5 l = some (.lst zs) ∧
            Paired (MapV K H5) zs ((((mapsUp n x).take j).flatMap fun h => extK n x h n) ++ extK n x h k) ∧ zs.length ≤ 6 * j + k) ⟨zs, _, _, rfl, s4, ec4, el4, by simpa [extK] using hp4, hz4⟩ ?_ ?_
          · rintro k σ H5 hk ⟨zs, t4, t7, rfl, s5, ec5, el5, hp5, hz5⟩
            refine ⟨.int (0 + x), rfl, ((0 : Int) + x), rfl, by omega, by omega, ?_⟩
            have ex : ((0 : Int) + x).toNat = x := by omega
            rw [ex]
            intro d nd
            refine lc_range (lo := 0) (n := x) (fun y H6 => Same H5 H6 ∧ H6 d = some (.lst (((List.range y).map fun y : Nat => decide (((k : Int) - h.getD y 0) % (Int.gcd n ((x : Int) - y) : Int) = 0)).map V.bl))) ⟨same_upd nd, upd_same⟩ ?_ ?_
            · rintro y H6 hy ⟨s6, ed⟩
              have hyl : y < h.length := by omega
              have g0 : (0 : Int) < (Int.gcd n ((x : Int) - y) : Int) := by
                have : Int.gcd n ((x : Int) - y) ≠ 0 := fun e => by
                  have := (Int.gcd_eq_zero_iff.mp e).1
                  have := hn.pos
                  omega
                omega
              refine ⟨rfl, .int _, rfl, .ref a, rfl, .int _, rfl, a, _, _, _, rfl, rfl, (s5.trans s6).sqt ha, by rw [Int.zero_add]; exact atI_nat (by rw [List.getElem?_map, List.getElem?_eq_getElem hyl]; rfl), _, _, rfl, rfl, .inl ⟨_, rfl, .ref c, rfl, .int _, rfl, c, _, _, _, rfl, rfl, .inl (.inl (s6 _ _ ec5)), by rw [Int.zero_add]; exact atI_nat (by rw [List.getElem?_map, List.getElem?_range hy]; rfl), _, _, rfl, rfl, (by omega), rfl, _, ed, small1000 (by rw [List.length_map, List.length_map, List.length_range]; omega), same_set s6 nd, ?_⟩⟩
              rw [upd_same, List.range_succ, List.map_append, List.map_append]
              show some (HO.lst (_ ++ [V.bl (decide (V.int ((0 + (k : Int) - h[y]).fmod (Int.gcd n ((x : Int) - y) : Int)) = V.int 0))])) = _
              rw [vint_eq, fmod_pos g0, Int.zero_add]
              have eg : h.getD y 0 = h[y] := by
                rw [List.getD_eq_getElem?_getD, List.getElem?_eq_getElem hyl]
                rfl
              show _ = some (HO.lst (_ ++ [V.bl (decide (((k : Int) - h.getD y 0) % (Int.gcd n ((x : Int) - y) : Int) = 0))]))
              rw [eg]
            · rintro H6 ⟨s6, ed⟩
              have ok : ((List.range x).map fun y : Nat => decide (((k : Int) - h.getD y 0) % (Int.gcd n ((x : Int) - y) : Int) = 0)).all id = okV n h x k := by
                rw [List.all_map]
                rfl
              refine ⟨d, _, rfl, .inl (.inl ed), _, rfl, ?_⟩
              rw [ok]
              have es := extK_succ n x h k
              have s16 := s5.trans s6
              have el6 := s6 _ _ el5
              cases hok : okV n h x k with
              | false =>
                rw [hok, if_neg Bool.false_ne_true, List.append_nil] at es
                refine iteF ⟨zs, _, _, rfl, s16, s6 _ _ ec5, el6, ?_, by omega⟩
                rw [es]
                exact Paired.mapP hp5 fun _ _ z => z.ts s6.ts
              | true =>
                rw [hok, if_pos rfl] at es
                refine iteT ⟨.ref l, rfl, .inl ⟨rfl, _, .inl (.inl el6)⟩, .ref a, rfl, .int _, rfl, by show 1 ≤ sizeLine; decide, fun b nb => ?_⟩
                have s7 := same_upd (o := .tup [.int (0 + (k : Int))]) nb
                refine catA_one rfl rfl ((s16.trans s7).sqt ha) (.inl (.inl upd_same)) (by rw [List.length_map, List.length_singleton]; omega) fun p0 H0 s0 h0 => ?_
                have s8 := s7.trans s0
                have el8 := s8 _ _ el6
                refine ⟨l, zs, _, rfl, rfl, el8, by omega, zs ++ [.ref p0], _, _, rfl, same_set (s16.trans s8) nlH1, ?_, upd_same, ?_, by rw [List.length_append, List.length_singleton]; omega⟩
                · have ec8 := (s6.trans s8) _ _ ec5
                  rw [upd_ne ncl]
                  exact ec8
                · rw [es, ← List.append_assoc]
                  refine paired_append (Paired.mapP hp5 fun _ _ z => z.ts ((s6.trans s8).ts.trans (ts_set el8))) (.cons ⟨p0, rfl, (ts_set el8).sqt ?_⟩ .nil)
                  rw [List.map_append]
                  rw [Int.zero_add] at h0
                  exact h0
          · rintro σ H5 ⟨zs, t4, t7, rfl, s5, ec5, el5, hp5, hz5⟩
            refine ⟨zs, _, _, _, rfl, s5, ec5, el5, ?_, by omega⟩
            rw [flat_take hh]
            exact hp5
        · rintro σ H4 ⟨zs, t4, t6, t7, rfl, s4, ec4, el4, hp4, hz4⟩
          rw [hly, List.take_length] at hp4
          exact ⟨.ref l, rfl, l, zs, _, _, _, _, _, _, rfl, sm.trans s4, el4, sm.free nlH1, hp4⟩
    · rintro σ H1 ⟨f, ys, t2, t3, t4, t5, t6, t7, rfl, sm, ef, nf, hp⟩
      exact ⟨.ref f, rfl, q _ f ys sm ef nf hp⟩
end
end Kr

set_option Elab.async false
set_option linter.all false
set_option maxRecDepth 100000
set_option maxHeartbeats 4000000
/-! The law's judgements of facts. -/
namespace Kr
open PySem PySem.Spec PyProof.Rows L2
def MapsAt (K : PySem.W.Frag) (H : Hp) (M : Addr) (n : Nat) : Prop := ∃ ys, H M = some (.lst ys) ∧ Paired (MapV K H) ys (maps n)
theorem MapsAt.same {K : PySem.W.Frag} {H H' : Hp} {M : Addr} {n : Nat} (e : Same H H') (h : MapsAt K H M n) : MapsAt K H' M n := by
  obtain ⟨ys, h1, h2⟩ := h
  exact ⟨ys, e _ _ h1, Paired.mapP h2 fun _ _ z => z.ts e.ts⟩
theorem MapsAt.fr {K : PySem.W.Frag} {S : List Addr} {H H' : Hp} {M : Addr} {n : Nat} (h : MapsAt K H M n) (e : Fr S H H') (nt : NoT S H) (hM : M ∉ S) : MapsAt K H' M n := by
  obtain ⟨ys, h1, h2⟩ := h
  exact ⟨ys, e _ _ hM h1, Paired.mapP h2 fun _ _ z => z.ts (e.ts nt)⟩
section
variable {P : Program} {w : World} {K : PySem.W.Frag} {mg : Str → Option Value} {base : Heap}
def spKeeps (K : PySem.W.Frag) : Sp := fun vs H Q _ => ∃ v u m f, vs = [v, u] ∧ MapV K H v m ∧ FactV K H u f ∧ 0 < m.length ∧ 0 < f.p ∧ Q (.bl (fits1 m f)) H
theorem sc_l_keeps_fact : FnScope ["_law_each", "_law_fact_here", "_law_spot", "_law_low", "_law_part"] ["_law_each", "_law_fact_here"] (defScope s_l_keeps_fact) := ⟨rfl, rfl, rfl, by decide +kernel, rfl, by decide +kernel, by decide +kernel⟩
/-- m[x % len(m)] -/
theorem val_at {m : List Int} (h : 0 < m.length) (x : Int) : atI (m.map V.int) (x.fmod (m.length : Nat)) = some (.int (valAt m x)) := by
  rw [fmod_pos (by omega)]
  have h1 := Int.emod_nonneg x (show (m.length : Int) ≠ 0 by omega)
  have h2 := Int.emod_lt_of_pos x (show (0 : Int) < m.length by omega)
  have e : x % (m.length : Int) = ((x % (m.length : Int)).toNat : Nat) := by omega
  have hlt : (x % (m.length : Int)).toNat < m.length := by omega
  rw [e]
  refine atI_nat ?_
  unfold valAt
  rw [List.getElem?_map, List.getD_eq_getElem?_getD, List.getElem?_eq_getElem hlt]
  rfl
theorem l_keeps_fact_ok (D : DefIn K mg "_law_keeps_fact" s_l_keeps_fact) (T : Fre mg) : DOk P w K mg base CX0 1 "_law_keeps_fact" ["_law_each", "_law_fact_here"] (spKeeps K) := by
  refine D.ok sc_l_keeps_fact (fun vs H Q E h => ?_) (fun _ _ _ _ _ _ us hl => match us, hl with | [_, _], _ => rfl) (fun cdv A outer s H vs Q E hr h => ?_)
  · obtain ⟨_, _, _, _, rfl, _⟩ := h
    rfl
  · obtain ⟨_, _, m, f, rfl, ⟨a, rfl, ha⟩, ⟨b, rfl, hb⟩, hm, hf, q⟩ := h
    refine ⟨_, (pss_cons (ps_asg (pv 1) (pg_tup rfl (pgs_cons (pg_name (i := 2) sc_l_keeps_fact.nd rfl (.inl rfl)) (pgs_cons (pg_name (i := 3) sc_l_keeps_fact.nd rfl (.inl rfl)) (pgs_cons (pg_name (i := 4) sc_l_keeps_fact.nd rfl (.inl rfl)) pgs_nil)))))
      (pss_one (ps_ret (pe_cmpR op_eq (pe_op op_modN (pe_callTy call_int1 (by rfl) T.int_ (by decide +kernel) (pa_cons (pe_op op_sub (pe_ix ix_tup (pv 0) (pe_op op_modN (pe_callTy call_int1 (by rfl) T.int_ (by decide +kernel) (pa_cons (pv 2) pa_nil)) (pe_callB call_len_seq (by rfl) T.len_ (by decide +kernel) (pa_cons (pv 0) pa_nil))) (fun _ _ => rfl)) (pv 3)) pa_nil)) (pv 4)) pe_int (nomark _))))), ?_⟩
    refine ⟨.ref b, rfl, b, _, rfl, hb, rfl, _, _, rfl, _, _, rfl, _, _, rfl, rfl, ?_⟩
    refine ⟨.ref a, rfl, .int f.s, rfl, .inl ⟨f.s, rfl, .ref a, rfl, a, _, rfl, .inr ha, f.s, _, rfl, rfl, by rw [List.length_map]; omega, ?_⟩⟩
    refine ⟨a, _, _, _, rfl, rfl, ha, by rw [List.length_map]; exact val_at hm f.s, .int f.l, rfl, _, _, rfl, rfl, .inl ⟨_, rfl, .int f.p, rfl, _, _, rfl, rfl, by omega, rfl, ?_⟩⟩
    refine qbl ?_ q
    unfold fits1
    rw [vint_eq, fmod_pos hf]
theorem fits_nil (n : Nat) : (maps n).filter (fitsAll []) = maps n := List.filter_eq_self.mpr fun _ _ => rfl
def spFitT (K : PySem.W.Frag) : Sp := fun vs H Q _ => ∃ (M a : Addr) (xs : List V) (F : List Fct) (n : Nat), vs = [.ref M, .ref a] ∧ Base n ∧ MapsAt K H M n ∧ SqT K H a xs ∧ Paired (FactV K H) xs F ∧ (∀ f ∈ F, 0 < f.p) ∧ ∀ H' p ys, Same H H' → H' p = some (.lst ys) → Paired (MapV K H') ys (fitting n F) → Q (.ref p) H'
def spFitL (K : PySem.W.Frag) : Sp := fun vs H Q _ => ∃ (M a : Addr) (xs : List V) (F : List Fct) (n : Nat), vs = [.ref M, .ref a] ∧ Base n ∧ MapsAt K H M n ∧ SqL K H a xs ∧ Paired (FactV K H) xs F ∧ (∀ f ∈ F, 0 < f.p) ∧ ∀ H' p ys, Same H H' → H' p = some (.lst ys) → Paired (MapV K H') ys (fitting n F) → Q (.ref p) H'
theorem sc_l_fitting : FnScope ["_law_maps_here", "_law_heap_here", "_law_found", "_law_fact_here", "_law_each"] ["_law_maps_here", "_law_heap_here"] (defScope s_l_fitting) := ⟨rfl, rfl, rfl, by decide +kernel, rfl, by decide +kernel, by decide +kernel⟩
theorem l_fitting_okT (D : DefIn K mg "_law_fitting" s_l_fitting) (D_l_keeps_fact : DOk P w K mg base CX0 1 "_law_keeps_fact" ["_law_each", "_law_fact_here"] (spKeeps K)) : DOk P w K mg base CX0 2 "_law_fitting" ["_law_maps_here", "_law_heap_here"] (spFitT K) := by
  refine D.ok sc_l_fitting (fun vs H Q E h => ?_) (fun _ _ _ _ _ _ us hl => match us, hl with | [_, _], _ => rfl) (fun cdv A outer s H vs Q E hr h => ?_)
  · obtain ⟨_, _, _, _, _, rfl, _⟩ := h
    rfl
  · obtain ⟨M, a, xs, F, n, rfl, hn, ⟨ms, eM, hM⟩, ha, hp, h0, q⟩ := h
    refine ⟨_, (pss_cons (ps_set (i := 2) sc_l_fitting.nd rfl (.inl rfl) (pv 0))
      (pss_cons (ps_for PassesOwn.never rfl (pi_tup (pv 1)) (pg_name (i := 3) sc_l_fitting.nd rfl (.inr rfl))
        (pss_one (ps_setLc (i := 2) (own := [("_law_each", 4)]) (g := gName 4) rfl sc_l_fitting.nd rfl rfl (sw_true rfl rfl rfl (by decide +kernel)) (pi_list (pv 2)) (blkOk_by (N := ["_law_maps_here", "_law_heap_here", "_law_found", "_law_fact_here", "_law_each"]) (sc := defScope s_l_fitting) (by decide +kernel)) (fun _ _ _ _ _ => (pg_name (i := 4) sc_l_fitting.nd rfl (.inl rfl))) (fun _ _ _ _ _ => (pts_one (pt_val (pe_fn D_l_keeps_fact hr (pa_cons (pv 4) (pa_cons (pv 3) pa_nil)))))) (fun _ _ _ _ _ => (pv 4)))))
      (pss_one (ps_ret (pv 2))))), ?_⟩
    refine ⟨.ref M, rfl, .ref a, rfl, a, rfl, ⟨_, ha⟩, ?_⟩
    refine for_tup (xs := xs) (fun i σ H1 => ∃ p ys t3 t4, σ = [some (.ref M), some (.ref a), some (.ref p), t3, t4] ∧ Same H H1 ∧ H1 p = some (.lst ys) ∧ Paired (MapV K H1) ys ((maps n).filter (fitsAll (F.take i)))) ⟨M, ms, none, none, rfl, Same.refl H, eM, by rw [List.take_zero, fits_nil]; exact hM⟩ ?_ ?_ ?_
    · rintro i σ H1 hi ⟨_, _, _, _, rfl, sm, _⟩
      exact sm.sqt ha
    · rintro i x σ H1 hx ⟨p, ys, t3, t4, rfl, sm, ep, hy⟩
      obtain ⟨f, hf, fv⟩ := paired_get hp hx
      have f0 := h0 f (List.mem_of_getElem? hf)
      refine ⟨.ref p, rfl, p, rfl, ⟨ys, .inl (.inl ep)⟩, fun d nd => ?_⟩
      refine lc_list (K := K) (a := p) (xs := ys) (fun j H2 => ∃ zs, Same H1 H2 ∧ H2 d = some (.lst zs) ∧ zs.length ≤ j ∧ Paired (MapV K H2) zs ((((maps n).filter (fitsAll (F.take i))).take j).filter (fits1 · f))) ⟨[], same_upd nd, upd_same, Nat.le_refl _, by simp; exact .nil⟩ ?_ ?_ ?_
      · rintro j H2 hj ⟨_, s2, _⟩
        exact .inl (.inl (s2 _ _ ep))
      · rintro j y H2 hj ⟨zs, s2, ed, hz, hzs⟩
        obtain ⟨m, hm, mv⟩ := paired_get hy hj
        have hmm : m ∈ maps n := (List.mem_filter.mp (List.mem_of_getElem? hm)).1
        have im := maps_is hn hmm
        have hl : j < ys.length := (List.getElem?_eq_some_iff.mp hj).1
        have h200 : ys.length ≤ 200 := by
          rw [hy.length]
          exact Nat.le_trans (List.length_filter_le _ _) (mapsUp_len hn (Nat.le_refl n))
        refine ⟨rfl, y, rfl, x, rfl, y, x, m, f, rfl, mv.ts s2.ts, fv.ts (sm.trans s2).ts, by rw [im.len]; exact hn.pos, f0, _, rfl, ?_⟩
        have et : ((((maps n).filter (fitsAll (F.take i))).take (j + 1)).filter (fits1 · f)) = ((((maps n).filter (fitsAll (F.take i))).take j).filter (fits1 · f)) ++ (if fits1 m f = true then [m] else []) := by
          rw [List.take_add_one, hm, List.filter_append]
          congr 1
          by_cases hb : fits1 m f = true
          · rw [if_pos hb]
            simp [hb]
          · rw [if_neg hb]
            simp [hb]
        cases hb : fits1 m f with
        | false =>
          rw [hb, if_neg Bool.false_ne_true, List.append_nil] at et
          exact iteF ⟨zs, s2, ed, by omega, by rw [et]; exact hzs⟩
        | true =>
          rw [hb, if_pos rfl] at et
          refine iteT ⟨y, rfl, zs, ed, small1000 (by omega), zs ++ [y], same_set s2 nd, upd_same, by rw [List.length_append, List.length_singleton]; omega, ?_⟩
          rw [et]
          exact paired_append (Paired.mapP hzs fun _ _ z => z.ts (ts_set ed)) (.cons ((mv.ts s2.ts).ts (ts_set ed)) .nil)
      · rintro H2 ⟨zs, s2, ed, hz, hzs⟩
        rw [hy.length, List.take_length] at hzs
        refine ⟨d, zs, _, _, rfl, sm.trans s2, ed, ?_⟩
        have et : F.take (i + 1) = F.take i ++ [f] := by
          rw [List.take_add_one, hf]
          rfl
        have ef : (maps n).filter (fitsAll (F.take (i + 1))) = ((maps n).filter (fitsAll (F.take i))).filter (fits1 · f) := by
          rw [List.filter_filter]
          refine List.filter_congr fun m _ => ?_
          rw [et]
          unfold fitsAll
          rw [List.all_append, Bool.and_comm]
          simp
        rw [ef]
        exact hzs
    · rintro σ H1 ⟨p, ys, t3, t4, rfl, sm, ep, hy⟩
      rw [hp.length, List.take_length] at hy
      exact ⟨.ref p, rfl, q _ p ys sm ep hy⟩
theorem l_fitting_okL (D : DefIn K mg "_law_fitting" s_l_fitting) (D_l_keeps_fact : DOk P w K mg base CX0 1 "_law_keeps_fact" ["_law_each", "_law_fact_here"] (spKeeps K)) : DOk P w K mg base CX0 2 "_law_fitting" ["_law_maps_here", "_law_heap_here"] (spFitL K) := by
  refine D.ok sc_l_fitting (fun vs H Q E h => ?_) (fun _ _ _ _ _ _ us hl => match us, hl with | [_, _], _ => rfl) (fun cdv A outer s H vs Q E hr h => ?_)
  · obtain ⟨_, _, _, _, _, rfl, _⟩ := h
    rfl
  · obtain ⟨M, a, xs, F, n, rfl, hn, ⟨ms, eM, hM⟩, ha, hp, h0, q⟩ := h
    refine ⟨_, (pss_cons (ps_set (i := 2) sc_l_fitting.nd rfl (.inl rfl) (pv 0))
      (pss_cons (ps_for PassesOwn.never rfl (pi_list (pv 1)) (pg_name (i := 3) sc_l_fitting.nd rfl (.inr rfl))
        (pss_one (ps_setLc (i := 2) (own := [("_law_each", 4)]) (g := gName 4) rfl sc_l_fitting.nd rfl rfl (sw_true rfl rfl rfl (by decide +kernel)) (pi_list (pv 2)) (blkOk_by (N := ["_law_maps_here", "_law_heap_here", "_law_found", "_law_fact_here", "_law_each"]) (sc := defScope s_l_fitting) (by decide +kernel)) (fun _ _ _ _ _ => (pg_name (i := 4) sc_l_fitting.nd rfl (.inl rfl))) (fun _ _ _ _ _ => (pts_one (pt_val (pe_fn D_l_keeps_fact hr (pa_cons (pv 4) (pa_cons (pv 3) pa_nil)))))) (fun _ _ _ _ _ => (pv 4)))))
      (pss_one (ps_ret (pv 2))))), ?_⟩
    refine ⟨.ref M, rfl, .ref a, rfl, a, rfl, ⟨_, ha⟩, ?_⟩
    refine for_list (xs := xs) (fun i σ H1 => ∃ p ys t3 t4, σ = [some (.ref M), some (.ref a), some (.ref p), t3, t4] ∧ Same H H1 ∧ H1 p = some (.lst ys) ∧ Paired (MapV K H1) ys ((maps n).filter (fitsAll (F.take i)))) ⟨M, ms, none, none, rfl, Same.refl H, eM, by rw [List.take_zero, fits_nil]; exact hM⟩ ?_ ?_ ?_
    · rintro i σ H1 hi ⟨_, _, _, _, rfl, sm, _⟩
      exact sm.seq ha
    · rintro i x σ H1 hx ⟨p, ys, t3, t4, rfl, sm, ep, hy⟩
      obtain ⟨f, hf, fv⟩ := paired_get hp hx
      have f0 := h0 f (List.mem_of_getElem? hf)
      refine ⟨.ref p, rfl, p, rfl, ⟨ys, .inl (.inl ep)⟩, fun d nd => ?_⟩
      refine lc_list (K := K) (a := p) (xs := ys) (fun j H2 => ∃ zs, Same H1 H2 ∧ H2 d = some (.lst zs) ∧ zs.length ≤ j ∧ Paired (MapV K H2) zs ((((maps n).filter (fitsAll (F.take i))).take j).filter (fits1 · f))) ⟨[], same_upd nd, upd_same, Nat.le_refl _, by simp; exact .nil⟩ ?_ ?_ ?_
      · rintro j H2 hj ⟨_, s2, _⟩
        exact .inl (.inl (s2 _ _ ep))
      · rintro j y H2 hj ⟨zs, s2, ed, hz, hzs⟩
        obtain ⟨m, hm, mv⟩ := paired_get hy hj
        have hmm : m ∈ maps n := (List.mem_filter.mp (List.mem_of_getElem? hm)).1
        have im := maps_is hn hmm
        have hl : j < ys.length := (List.getElem?_eq_some_iff.mp hj).1
        have h200 : ys.length ≤ 200 := by
          rw [hy.length]
          exact Nat.le_trans (List.length_filter_le _ _) (mapsUp_len hn (Nat.le_refl n))
        refine ⟨rfl, y, rfl, x, rfl, y, x, m, f, rfl, mv.ts s2.ts, fv.ts (sm.trans s2).ts, by rw [im.len]; exact hn.pos, f0, _, rfl, ?_⟩
        have et : ((((maps n).filter (fitsAll (F.take i))).take (j + 1)).filter (fits1 · f)) = ((((maps n).filter (fitsAll (F.take i))).take j).filter (fits1 · f)) ++ (if fits1 m f = true then [m] else []) := by
          rw [List.take_add_one, hm, List.filter_append]
          congr 1
          by_cases hb : fits1 m f = true
          · rw [if_pos hb]
            simp [hb]
          · rw [if_neg hb]
            simp [hb]
        cases hb : fits1 m f with
        | false =>
          rw [hb, if_neg Bool.false_ne_true, List.append_nil] at et
          exact iteF ⟨zs, s2, ed, by omega, by rw [et]; exact hzs⟩
        | true =>
          rw [hb, if_pos rfl] at et
          refine iteT ⟨y, rfl, zs, ed, small1000 (by omega), zs ++ [y], same_set s2 nd, upd_same, by rw [List.length_append, List.length_singleton]; omega, ?_⟩
          rw [et]
          exact paired_append (Paired.mapP hzs fun _ _ z => z.ts (ts_set ed)) (.cons ((mv.ts s2.ts).ts (ts_set ed)) .nil)
      · rintro H2 ⟨zs, s2, ed, hz, hzs⟩
        rw [hy.length, List.take_length] at hzs
        refine ⟨d, zs, _, _, rfl, sm.trans s2, ed, ?_⟩
        have et : F.take (i + 1) = F.take i ++ [f] := by
          rw [List.take_add_one, hf]
          rfl
        have ef : (maps n).filter (fitsAll (F.take (i + 1))) = ((maps n).filter (fitsAll (F.take i))).filter (fits1 · f) := by
          rw [List.filter_filter]
          refine List.filter_congr fun m _ => ?_
          rw [et]
          unfold fitsAll
          rw [List.all_append, Bool.and_comm]
          simp
        rw [ef]
        exact hzs
    · rintro σ H1 ⟨p, ys, t3, t4, rfl, sm, ep, hy⟩
      rw [hp.length, List.take_length] at hy
      exact ⟨.ref p, rfl, q _ p ys sm ep hy⟩
def spSeen (K : PySem.W.Frag) : Sp := fun vs H Q _ => ∃ (M : Addr) (v : V) (x : Int) (F : List Fct) (n : Nat), vs = [.ref M, v, .int x] ∧ Base n ∧ MapsAt K H M n ∧ FactsV K H v F ∧ By n F ∧ Comp F ∧ ∀ H' p, Same H H' → H' p = some (.tup [.int (knownOf F x).1, .int (knownOf F x).2]) → Q (.ref p) H'
theorem sc_l_seen : FnScope ["_law_maps_here", "_law_heap_here", "_law_spot", "_law_some", "_law_each", "_law_part", "_law_v"] ["_law_maps_here", "_law_heap_here", "_law_spot"] (defScope s_l_seen) := ⟨rfl, rfl, rfl, by decide +kernel, rfl, by decide +kernel, by decide +kernel⟩
theorem l_seen_ok (D : DefIn K mg "_law_seen" s_l_seen) (T : Fre mg) (D_l_fitting : DOk P w K mg base CX0 2 "_law_fitting" ["_law_maps_here", "_law_heap_here"] (spFitT K)) (D_l_shared : DOk P w K mg base CX0 1 "_law_shared" ["_law_a", "_law_b"] spGcd) : DOk P w K mg base CX0 3 "_law_seen" ["_law_maps_here", "_law_heap_here", "_law_spot"] (spSeen K) := by
  refine D.ok sc_l_seen (fun vs H Q E h => ?_) (fun _ _ _ _ _ _ us hl => match us, hl with | [_, _, _], _ => rfl) (fun cdv A outer s H vs Q E hr h => ?_)
  · obtain ⟨_, _, _, _, _, rfl, _⟩ := h
    rfl
  · obtain ⟨M, _, x, F, n, rfl, hn, hM, ⟨a, xs, rfl, ha, hp⟩, hby, hc, q⟩ := h
    refine ⟨_, (pss_cons (ps_setLc (i := 3) (own := [("_law_each", 4)]) (g := gName 4) (tt := tYes) rfl sc_l_seen.nd rfl rfl (sw_true rfl rfl rfl (by decide +kernel)) (pi_list (pe_fn D_l_fitting hr (pa_cons (pv 0) (pa_cons (pv 1) pa_nil)))) (blkOk_by (N := ["_law_maps_here", "_law_heap_here", "_law_spot", "_law_some", "_law_each", "_law_part", "_law_v"]) (sc := defScope s_l_seen) (by decide +kernel)) (fun _ _ _ _ _ => (pg_name (i := 4) sc_l_seen.nd rfl (.inl rfl))) (fun _ _ _ _ _ => pts_nil) (fun _ _ _ _ _ => (pe_ix (r := rIxT K) ix_tup (pv 4) (pe_op op_modN (pe_callTy call_int1 (by rfl) T.int_ (by decide +kernel) (pa_cons (pv 2) pa_nil)) (pe_callB (r := fun xs H Q => ∃ p ys, xs = [.ref p] ∧ (SqL K H p ys ∨ SqT K H p ys) ∧ Q (.int ys.length) H) call_len_seq (by rfl) T.len_ (by decide +kernel) (pa_cons (pv 4) pa_nil))) (fun _ _ => rfl))))
      (pss_cons (ps_set (i := 5) sc_l_seen.nd rfl (.inl rfl) (pe_callB call_len_seq (by rfl) T.len_ (by decide +kernel) (pa_cons (pe_ix ix_list (pv 0) pe_int (fun _ _ => rfl)) pa_nil)))
      (pss_cons (ps_for PassesOwn.never rfl (pi_list (pv 3)) (pg_name (i := 6) sc_l_seen.nd rfl (.inl rfl))
        (pss_one (ps_set (i := 5) sc_l_seen.nd rfl (.inl rfl) (pe_fn D_l_shared hr (pa_cons (pv 5) (pa_cons (pe_op op_sub (pv 6) (pe_ix ix_list (pv 3) pe_int (fun _ _ => rfl))) pa_nil))))))
      (pss_one (ps_ret (pe_tup (pa_cons (pe_op op_modN (pe_callTy call_int1 (by rfl) T.int_ (by decide +kernel) (pa_cons (pe_ix ix_list (pv 3) pe_int (fun _ _ => rfl)) pa_nil)) (pv 5)) (pa_cons (pv 5) pa_nil)))))))), ?_⟩
    obtain ⟨hne, hpart, hrest⟩ := seen_eq hn hby hc x
    refine ⟨.ref M, rfl, .ref a, rfl, M, a, xs, F, n, rfl, hn, hM, ha, hp, fun f hf => (hby f hf).1, fun H1 p ys s1 ep hys => ⟨p, rfl, ⟨ys, .inl (.inl ep)⟩, fun d nd => ?_⟩⟩
    have h200 : ys.length ≤ 200 := by
      rw [hys.length]
      exact Nat.le_trans (List.length_filter_le _ _) (mapsUp_len hn (Nat.le_refl n))
    refine lc_list (K := K) (a := p) (xs := ys) (fun j H2 => Same H1 H2 ∧ H2 d = some (.lst ((((fitting n F).take j).map (valAt · x)).map V.int))) ⟨same_upd nd, upd_same⟩ ?_ ?_ ?_
    · rintro j H2 hj ⟨s2, _⟩
      exact .inl (.inl (s2 _ _ ep))
    · rintro j y H2 hj ⟨s2, ed⟩
      obtain ⟨m, hm, ⟨b, rfl, hb⟩⟩ := paired_get hys hj
      have hl : j < ys.length := (List.getElem?_eq_some_iff.mp hj).1
      have im := maps_is hn (List.mem_filter.mp (List.mem_of_getElem? hm)).1
      have hml : 0 < m.length := by
        rw [im.len]
        exact hn.pos
      refine ⟨rfl, .ref b, rfl, .int x, rfl, .inl ⟨x, rfl, .ref b, rfl, b, _, rfl, .inr (s2.sqt hb), x, _, rfl, rfl, by rw [List.length_map]; omega, ?_⟩⟩
      refine ⟨b, _, _, _, rfl, rfl, s2.sqt hb, by rw [List.length_map]; exact val_at hml x, _, ed, small1000 (by rw [List.length_map, List.length_map, List.length_take]; omega), same_set s2 nd, ?_⟩
      rw [upd_same, List.take_add_one, hm, List.map_append, List.map_append]
      rfl
    · rintro H2 ⟨s2, ed⟩
      rw [hys.length, List.take_length] at ed
      have s12 := s1.trans s2
      generalize hvs : (fitting n F).map (valAt · x) = vs at *
      obtain ⟨v0, hv0⟩ : ∃ v0, vs[0]? = some v0 := by
        cases vs with
        | nil =>
          cases hfi : fitting n F with
          | nil => exact absurd hfi hne
          | cons m r =>
            rw [hfi] at hvs
            cases hvs
        | cons v0 r => exact ⟨v0, rfl⟩
      have hv0' : (vs.map V.int)[0]? = some (.int v0) := by
        rw [List.getElem?_map, hv0]
        rfl
      obtain ⟨ms, eM, hms⟩ := hM.same s12
      have hmn : 0 < ms.length := by
        rw [hms.length]
        refine List.length_pos_iff.mpr fun e => hne ?_
        unfold fitting
        rw [e]
        rfl
      obtain ⟨m0, hm0, ⟨b0, eb0, hb0⟩⟩ := paired_get hms (List.getElem?_eq_getElem hmn)
      have im0 := maps_is hn (List.mem_of_getElem? hm0)
      refine ⟨.ref M, rfl, M, _, _, _, rfl, rfl, .inl (.inl eM), atI_nat (j := 0) (List.getElem?_eq_getElem hmn), b0, _, by rw [eb0], .inr hb0, ?_⟩
      refine ⟨.ref d, rfl, d, rfl, ⟨_, .inl (.inl ed)⟩, ?_⟩
      refine for_list (xs := vs.map V.int) (fun i σ H3 => H3 = H2 ∧ ∃ t4 t6, σ = [some (.ref M), some (.ref a), some (.int x), some (.ref d), t4, some (.int ((vs.take i).foldl (fun a v => (Int.gcd a (v - v0) : Int)) n)), t6]) ⟨rfl, none, none, ?_⟩ ?_ ?_ ?_
      · rw [List.length_map, im0.len]
        rfl
      · rintro i σ H3 hi ⟨rfl, _⟩
        exact .inl (.inl ed)
      · rintro i y σ H3 hy ⟨rfl, t4, t6, rfl⟩
        rw [List.getElem?_map] at hy
        cases hv : vs[i]? with
        | none =>
          rw [hv] at hy
          cases hy
        | some v =>
          rw [hv] at hy
          cases hy
          refine ⟨.int _, rfl, .int v, rfl, .ref d, rfl, d, _, _, _, rfl, rfl, .inl (.inl ed), atI_nat (j := 0) hv0', _, _, rfl, rfl, _, _, rfl, ?_⟩
          refine ⟨rfl, t4, some (.int v), ?_⟩
          rw [List.take_add_one, hv, List.foldl_append]
          rfl
      · rintro σ H3 ⟨rfl, t4, t6, rfl⟩
        have e1 : (vs.take (vs.map V.int).length).foldl (fun a v => (Int.gcd a (v - v0) : Int)) n = (knownOf F x).2 := by
          rw [List.length_map, List.take_length, ← hpart]
          unfold partOf
          have : vs.getD 0 0 = v0 := by
            rw [List.getD_eq_getElem?_getD, hv0]
            rfl
          rw [this]
        have e2 : v0 % (knownOf F x).2 = (knownOf F x).1 := by
          rw [← hrest]
          have : vs.getD 0 0 = v0 := by
            rw [List.getD_eq_getElem?_getD, hv0]
            rfl
          rw [this]
        have kd := (known_of (By.parts hn hby) hc x).d.1
        rw [e1]
        refine ⟨.ref d, rfl, d, _, _, _, rfl, rfl, .inl (.inl ed), atI_nat (j := 0) hv0', .inl ⟨v0, rfl, .int _, rfl, _, _, rfl, rfl, by omega, .int _, rfl, by show 2 ≤ sizeLine; decide, fun r nr => ?_⟩⟩
        refine q _ r (s12.trans (same_upd nr)) (upd_same.trans ?_)
        show some (HO.tup [.int (v0.fmod (knownOf F x).2), .int (knownOf F x).2]) = _
        rw [fmod_pos kd, e2]
def spLSure (K : PySem.W.Frag) : Sp := fun vs H Q _ => ∃ (M : Addr) (v u : V) (F : List Fct) (f : Fct) (n : Nat), vs = [.ref M, v, u] ∧ Base n ∧ MapsAt K H M n ∧ FactsV K H v F ∧ FactV K H u f ∧ By n F ∧ Comp F ∧ 0 ≤ f.p ∧ ∀ H', Same H H' → Q (.bl (sureB F f)) H'
theorem sc_l_is_sure : FnScope ["_law_maps_here", "_law_heap_here", "_law_fact_here", "_law_low", "_law_part"] ["_law_maps_here", "_law_heap_here", "_law_fact_here"] (defScope s_l_is_sure) := ⟨rfl, rfl, rfl, by decide +kernel, rfl, by decide +kernel, by decide +kernel⟩
theorem l_is_sure_ok (D : DefIn K mg "_law_is_sure" s_l_is_sure) (T : Fre mg) (D_l_seen : DOk P w K mg base CX0 3 "_law_seen" ["_law_maps_here", "_law_heap_here", "_law_spot"] (spSeen K)) : DOk P w K mg base CX0 4 "_law_is_sure" ["_law_maps_here", "_law_heap_here", "_law_fact_here"] (spLSure K) := by
  refine D.ok sc_l_is_sure (fun vs H Q E h => ?_) (fun _ _ _ _ _ _ us hl => match us, hl with | [_, _, _], _ => rfl) (fun cdv A outer s H vs Q E hr h => ?_)
  · obtain ⟨_, _, _, _, _, _, rfl, _⟩ := h
    rfl
  · obtain ⟨M, v, _, F, f, n, rfl, hn, hM, hv, ⟨b, rfl, hb⟩, hby, hc, hf0, q⟩ := h
    refine ⟨_, (pss_cons (ps_asg (pe_fn D_l_seen hr (pa_cons (pv 0) (pa_cons (pv 1) (pa_cons (pe_ix ix_tup (pv 2) pe_int (fun _ _ => rfl)) pa_nil)))) (pg_tup rfl (pgs_cons (pg_name (i := 3) sc_l_is_sure.nd rfl (.inl rfl)) (pgs_cons (pg_name (i := 4) sc_l_is_sure.nd rfl (.inl rfl)) pgs_nil))))
      (pss_cons (ps_if (PW.pt (pw_or (pt_cmpR op_eq (pe_ix ix_tup (pv 2) pe_int (fun _ _ => rfl)) pe_int (nomark _)) (pw_or1 (pt_cmpR op_ne (pe_op op_modN (pe_callTy call_int1 (by rfl) T.int_ (by decide +kernel) (pa_cons (pv 4) pa_nil)) (pe_ix ix_tup (pv 2) pe_int (fun _ _ => rfl))) pe_int (nomark _))))) (pss_one (ps_ret pe_bl)) pss_nil)
      (pss_one (ps_ret (pe_cmpR op_eq (pe_op op_modN (pe_callTy call_int1 (by rfl) T.int_ (by decide +kernel) (pa_cons (pe_op op_sub (pv 3) (pe_ix ix_tup (pv 2) pe_int (fun _ _ => rfl))) pa_nil)) (pe_ix ix_tup (pv 2) pe_int (fun _ _ => rfl))) pe_int (nomark _)))))), ?_⟩
    refine ⟨.ref M, rfl, v, rfl, .ref b, rfl, b, _, _, _, rfl, rfl, hb, atI_nat (j := 0) rfl, M, v, f.s, F, n, rfl, hn, hM, hv, hby, hc, fun H1 p s1 ep => ?_⟩
    have kd := (known_of (By.parts hn hby) hc f.s).d.1
    have hq := q H1 s1
    unfold sureB restBy at hq
    refine ⟨p, _, rfl, .inl (.inl ep), rfl, _, _, rfl, _, _, rfl, rfl, ?_⟩
    refine ⟨.ref b, rfl, b, _, _, _, rfl, rfl, s1.sqt hb, atI_nat (j := 2) rfl, rfl, _, rfl, ?_⟩
    by_cases h0 : f.p = 0
    · refine ifT (by rw [h0]; simp) (iteT ?_)
      rw [if_pos h0, decide_eq_false (show ¬ (knownOf F f.s).2 = 0 by omega)] at hq
      exact hq
    · have fp : 0 < f.p := by omega
      rw [if_neg h0] at hq
      refine ifF (vint_ne h0) ⟨.int _, rfl, .inl ⟨_, rfl, .ref b, rfl, b, _, _, _, rfl, rfl, s1.sqt hb, atI_nat (j := 2) rfl, _, _, rfl, rfl, h0, rfl, _, rfl, ?_⟩⟩
      by_cases hz : (knownOf F f.s).2 % f.p = 0
      · refine ifF (by show (!decide (V.int ((knownOf F f.s).2.fmod f.p) = V.int 0)) = false; rw [fmod_pos fp, hz]; rfl) ⟨.int _, rfl, .ref b, rfl, b, _, _, _, rfl, rfl, s1.sqt hb, atI_nat (j := 1) rfl, _, _, rfl, rfl, .inl ⟨_, rfl, .ref b, rfl, b, _, _, _, rfl, rfl, s1.sqt hb, atI_nat (j := 2) rfl, _, _, rfl, rfl, h0, rfl, ?_⟩⟩
        rw [decide_eq_true hz] at hq
        refine qbl ?_ hq
        rw [vint_eq, fmod_pos fp, Bool.true_and]
        exact decide_eq_decide.mpr Int.dvd_iff_emod_eq_zero.symm
      · refine ifT (by show (!decide (V.int ((knownOf F f.s).2.fmod f.p) = V.int 0)) = true; rw [fmod_pos fp, vint_ne hz]; rfl) ?_
        rw [decide_eq_false hz] at hq
        exact hq
def PairR (ys : List V) : Option (Nat × Nat) → Prop
  | none => ys = []
  | some p => ys = [.int (p.1 : Nat), .int (p.2 : Nat)]
def spPair (K : PySem.W.Frag) : Sp := fun vs H Q _ => ∃ (M : Addr) (v : V) (F : List Fct) (n : Nat), vs = [.ref M, v] ∧ Base n ∧ MapsAt K H M n ∧ FactsV K H v F ∧ By n F ∧ F.length ≤ 100 ∧ ∀ H' p ys, Same H H' → H' p = some (.lst ys) → PairR ys (firstQ F) → Q (.ref p) H'
theorem sc_l_pair : FnScope ["_law_maps_here", "_law_heap_here", "_law_i", "_law_j"] ["_law_maps_here", "_law_heap_here"] (defScope s_l_pair) := ⟨rfl, rfl, rfl, by decide +kernel, rfl, by decide +kernel, by decide +kernel⟩
theorem pair_quar {n : Nat} (hn : Base n) {f g : Fct} (hb : By n [f, g]) : fitting n [f, g] = [] ↔ quar f g = true := by
  rw [fitting_nil hn hb]
  unfold Comp
  rw [List.pairwise_cons, List.pairwise_cons]
  cases e : quar f g <;> simp [e]
theorem l_pair_ok (D : DefIn K mg "_law_pair" s_l_pair) (T : Fre mg) (D_l_fitting : DOk P w K mg base CX0 2 "_law_fitting" ["_law_maps_here", "_law_heap_here"] (spFitL K)) : DOk P w K mg base CX0 3 "_law_pair" ["_law_maps_here", "_law_heap_here"] (spPair K) := by
  refine D.ok sc_l_pair (fun vs H Q E h => ?_) (fun _ _ _ _ _ _ us hl => match us, hl with | [_, _], _ => rfl) (fun cdv A outer s H vs Q E hr h => ?_)
  · obtain ⟨_, _, _, _, rfl, _⟩ := h
    rfl
  · obtain ⟨M, _, F, n, rfl, hn, hM, ⟨a, xs, rfl, ha, hp⟩, hby, hl, q⟩ := h
    have hu := hu_of hr
    have hu0 := Nat.lt_of_succ_lt hu
    have hxl := hp.length
    refine ⟨_, (pss_cons (ps_for PassesOwn.never rfl (pi_range1 (by rfl) T.range_ (pa_cons (pe_callB call_len_seq (by rfl) T.len_ (by decide +kernel) (pa_cons (pv 1) pa_nil)) pa_nil)) (pg_name (i := 2) sc_l_pair.nd rfl (.inl rfl))
        (pss_one (ps_for PassesOwn.never rfl (pi_range2 (by rfl) T.range_ (pa_cons (pe_op op_add (pv 2) pe_int) (pa_cons (pe_callB call_len_seq (by rfl) T.len_ (by decide +kernel) (pa_cons (pv 1) pa_nil)) pa_nil))) (pg_name (i := 3) sc_l_pair.nd rfl (.inl rfl))
          (pss_one (ps_if (pt_cmpR (op_eq0L hu0) (pe_fn D_l_fitting hr (pa_cons (pv 0) (pa_cons (pe_lst (pa_cons (pe_ix ix_tup (pv 1) (pv 2) (fun _ _ => rfl)) (pa_cons (pe_ix ix_tup (pv 1) (pv 3) (fun _ _ => rfl)) pa_nil))) pa_nil))) (pe_lst pa_nil) (nomark _)) (pss_one (ps_ret (pe_lst (pa_cons (pv 2) (pa_cons (pv 3) pa_nil))))) pss_nil)))))
      (pss_one (ps_ret (pe_lst pa_nil)))), ?_⟩
    refine ⟨.ref a, rfl, a, xs, rfl, .inr ha, (xs.length : Int), rfl, by omega, by omega, ?_⟩
    rw [Int.toNat_natCast]
    refine for_range (lo := 0) (n := xs.length) (fun i σ H1 => ∃ t2 t3, σ = [some (.ref M), some (.ref a), t2, t3] ∧ Same H H1 ∧ ∀ i' j', i' < i → i' < j' → ¬ quarAt F i' j') ⟨none, none, rfl, Same.refl H, fun i' j' h => absurd h (Nat.not_lt_zero _)⟩ ?_ ?_
    · rintro i σ H1 hi ⟨t2, t3, rfl, sm, hno⟩
      refine ⟨.int (0 + i), rfl, _, _, rfl, rfl, .ref a, rfl, a, xs, rfl, .inr (sm.sqt ha), _, _, rfl, ⟨by omega, by omega, by omega, by omega⟩, ?_⟩
      refine for_range (lo := 0 + (i : Int) + 1) (n := ((xs.length : Int) - (0 + (i : Int) + 1)).toNat) (fun k σ H2 => ∃ t3, σ = [some (.ref M), some (.ref a), some (.int (0 + (i : Int))), t3] ∧ Same H H2 ∧ ∀ j', i < j' → j' < i + 1 + k → ¬ quarAt F i j') ⟨t3, rfl, sm, fun j' h1 h2 => by omega⟩ ?_ ?_
      · rintro k σ H2 hk ⟨t3, rfl, s2, hno2⟩
        have hj : i + 1 + k < xs.length := by omega
        have ej : (0 + (i : Int) + 1 + (k : Int)) = ((i + 1 + k : Nat) : Int) := by omega
        obtain ⟨f, hf, fv⟩ := paired_get hp (List.getElem?_eq_getElem hi)
        obtain ⟨g, hg, gv⟩ := paired_get hp (List.getElem?_eq_getElem hj)
        refine ⟨.ref M, rfl, .ref a, rfl, .int _, rfl, a, _, _, _, rfl, rfl, s2.sqt ha, by rw [Int.zero_add]; exact atI_nat (List.getElem?_eq_getElem hi), .ref a, rfl, .int _, rfl, a, _, _, _, rfl, rfl, s2.sqt ha, by rw [ej]; exact atI_nat (List.getElem?_eq_getElem hj), by show 2 ≤ sizeLine; decide, fun d nd => ?_⟩
        have s3 := s2.trans (same_upd (o := .lst [xs[i], xs[i + 1 + k]]) nd)
        have hb2 : By n [f, g] := fun z hz => by
          rcases List.mem_cons.mp hz with rfl | hz
          · exact hby _ (List.mem_of_getElem? hf)
          · rw [List.mem_singleton.mp hz]
            exact hby _ (List.mem_of_getElem? hg)
        refine ⟨M, d, _, [f, g], n, rfl, hn, hM.same s3, .inl (.inl upd_same), .cons (fv.ts s3.ts) (.cons (gv.ts s3.ts) .nil), fun z hz => (hb2 z hz).1, fun H3 p ys s4 ep hys => ?_⟩
        have s5 := s3.trans s4
        refine ⟨Nat.zero_le _, fun l nl => ⟨p, l, ys, rfl, rfl, .inl (.inl (same_upd nl _ _ ep)), .inl (.inl upd_same), _, rfl, ?_⟩⟩
        have s6 := s5.trans (same_upd (o := .lst []) nl)
        generalize upd H3 l (.lst []) = H4 at s6 ⊢
        cases hq : quar f g with
        | true =>
          have he := (pair_quar hn hb2).mpr hq
          rw [he] at hys
          cases hys
          refine iteT ⟨.int _, rfl, .int _, rfl, by show 2 ≤ sizeLine; decide, fun r nr => ?_⟩
          have hfi : IsFirst F (i, i + 1 + k) := ⟨by show i < i + 1 + k; omega, ⟨f, g, hf, hg, hq⟩, fun i' j' hij hqq => by
            rcases Nat.lt_trichotomy i' i with h | h | h
            · exact absurd hqq (hno i' j' h hij)
            · subst h
              refine .inr ⟨rfl, ?_⟩
              rcases Nat.lt_or_ge j' (i' + 1 + k) with h2 | h2
              · exact absurd hqq (hno2 j' hij h2)
              · exact h2
            · exact .inl h⟩
          refine q _ r _ (s6.trans (same_upd nr)) upd_same ?_
          rw [firstQ_some hfi]
          show [V.int (0 + (i : Int)), V.int (0 + (i : Int) + 1 + (k : Int))] = [.int (i : Nat), .int ((i + 1 + k : Nat) : Int)]
          rw [ej, Int.zero_add]
        | false =>
          have hne : fitting n [f, g] ≠ [] := fun e => by
            rw [(pair_quar hn hb2).mp e] at hq
            cases hq
          have hys0 : ys.isEmpty = false := by
            cases ys with
            | nil =>
              generalize fitting n [f, g] = z at hys hne
              cases hys
              exact absurd rfl hne
            | cons _ _ => rfl
          refine ifF hys0 ⟨_, rfl, s6, fun j' h1 h2 => ?_⟩
          rcases Nat.lt_or_ge j' (i + 1 + k) with h3 | h3
          · exact hno2 j' h1 h3
          · have : j' = i + 1 + k := by omega
            subst this
            rintro ⟨f', g', e1, e2, e3⟩
            rw [hf] at e1
            rw [hg] at e2
            cases e1
            cases e2
            rw [hq] at e3
            cases e3
      · rintro σ H2 ⟨t3, rfl, s2, hno2⟩
        refine ⟨_, _, rfl, s2, fun i' j' h1 h2 hqq => ?_⟩
        rcases Nat.lt_or_ge i' i with h | h
        · exact hno i' j' h h2 hqq
        · have : i' = i := by omega
          subst this
          have hj : j' < F.length := by
            obtain ⟨_, _, _, e2, _⟩ := hqq
            exact (List.getElem?_eq_some_iff.mp e2).1
          exact hno2 j' h2 (by omega) hqq
    · rintro σ H1 ⟨t2, t3, rfl, sm, hno⟩
      refine ⟨Nat.zero_le _, fun r nr => ?_⟩
      refine q _ r _ (sm.trans (same_upd nr)) upd_same ?_
      have hc : Comp F := comp_of fun i j hij hqq => hno i j (by
        obtain ⟨_, _, e1, _, _⟩ := hqq
        have := (List.getElem?_eq_some_iff.mp e1).1
        omega) hij hqq
      rw [firstQ_none hc]
      rfl
end
end Kr

set_option Elab.async false
set_option linter.all false
set_option maxRecDepth 100000
set_option maxHeartbeats 4000000
/-! The law's drawn facts. -/
namespace Kr
open PySem PySem.Spec PyProof.Rows L2
abbrev lim : Int := 100000000000000000000000000000
structure FO (n : Nat) (f : Fct) : Prop where
  p0 : 0 < f.p
  pn : f.p ∣ (n : Int)
  s0 : -lim ≤ f.s
  s1 : f.s ≤ lim
  l0 : -lim ≤ f.l
  l1 : f.l ≤ lim
theorem big_eq : big = 1000000000000000000000000000000 := by decide
section
variable {P : Program} {w : World} {K : PySem.W.Frag} {mg : Str → Option Value} {base : Heap}
def spLFact (K : PySem.W.Frag) : Sp := fun vs H Q _ => ∃ (p : Addr) (n : Nat), vs = [.ref p, .int n] ∧ Vial H p ∧ Base n ∧ ∀ H' a f, Fr [p] H H' → Vial H' p → SqT K H' a [.int f.s, .int f.l, .int f.p] → FO n f → Q (.ref a) H'
theorem sc_l_fact : FnScope ["_law_vial_here", "_law_size", "_law_part", "_law_each", "_law_spot", "_law_low"] ["_law_vial_here", "_law_size"] (defScope s_l_fact) := ⟨rfl, rfl, rfl, by decide +kernel, rfl, by decide +kernel, by decide +kernel⟩
theorem l_fact_ok (D : DefIn K mg "_law_fact" s_l_fact) (T : Fre mg) (D_l_drop : DOk P w K mg base CX0 1 "_law_drop" ["_law_vial_here", "_law_size"] spDrop) (D_l_any : DOk P w K mg base CX0 2 "_law_any" ["_law_vial_here", "_law_some"] (spAny K)) : DOk P w K mg base CX0 3 "_law_fact" ["_law_vial_here", "_law_size"] (spLFact K) := by
  refine D.ok sc_l_fact (fun vs H Q E h => ?_) (fun _ _ _ _ _ _ us hl => match us, hl with | [_, _], _ => rfl) (fun cdv A outer s H vs Q E hr h => ?_)
  · obtain ⟨_, _, rfl, _⟩ := h
    rfl
  · obtain ⟨p, n, rfl, hv, hn, q⟩ := h
    refine ⟨_, (pss_cons (ps_set (i := 2) sc_l_fact.nd rfl (.inl rfl) (pe_fn D_l_any hr (pa_cons (pv 0) (pa_cons (pe_lc (own := [("_law_each", 3)]) (g := gName 3) rfl sc_l_fact.nd (pi_range2 (by rfl) T.range_ (pa_cons pe_int (pa_cons (pe_op op_add (pv 1) pe_int) pa_nil))) (blkOk_by (N := ["_law_vial_here", "_law_size", "_law_part", "_law_each", "_law_spot", "_law_low"]) (sc := defScope s_l_fact) (by decide +kernel)) (fun _ _ _ _ _ => (pg_name (i := 3) sc_l_fact.nd rfl (.inl rfl))) (fun _ _ _ _ _ => (pts_one (pt_cmpR op_eq (pe_op op_modN (pe_callTy call_int1 (by rfl) T.int_ (by decide +kernel) (pa_cons (pv 1) pa_nil)) (pv 3)) pe_int (nomark _)))) (fun _ _ _ _ _ => (pv 3))) pa_nil))))
      (pss_cons (ps_set (i := 4) sc_l_fact.nd rfl (.inl rfl) (pe_fn D_l_any hr (pa_cons (pv 0) (pa_cons (pe_lst (pa_cons pe_int (pa_cons pe_int (pa_cons (pe_op op_sub (pe_fn D_l_drop hr (pa_cons (pv 0) (pa_cons (pe_op op_mul pe_int (pv 1)) pa_nil))) (pv 1)) (pa_cons (pe_fn D_l_drop hr (pa_cons (pv 0) (pa_cons pe_int pa_nil))) (pa_cons (pe_op op_add (pe_op op_mul (pv 1) (pe_op op_pow pe_int pe_int)) pe_int) pa_nil)))))) pa_nil))))
      (pss_cons (ps_set (i := 5) sc_l_fact.nd rfl (.inl rfl) (pe_op op_sub (pe_fn D_l_drop hr (pa_cons (pv 0) (pa_cons (pe_op op_mul pe_int (pv 1)) pa_nil))) (pv 1)))
      (pss_one (ps_ret (pe_tup (pa_cons (pv 4) (pa_cons (pe_fn D_l_any hr (pa_cons (pv 0) (pa_cons (pe_lst (pa_cons (pv 5) (pa_cons (pv 5) (pa_cons (pe_op op_modN (pe_callTy call_int1 (by rfl) T.int_ (by decide +kernel) (pa_cons (pv 5) pa_nil)) (pv 2)) (pa_cons (pe_op op_add (pv 5) (pe_op op_mul (pv 1) (pe_op op_pow pe_int pe_int))) pa_nil))))) pa_nil))) (pa_cons (pv 2) pa_nil))))))))), ?_⟩
    have n6 := hn.le
    have n0 := hn.pos
    have elim : lim = 100000000000000000000000000000 := rfl
    have e20 : (10 : Int) ^ (20 : Int).toNat = 100000000000000000000 := by decide
    have e25 : (10 : Int) ^ (25 : Int).toNat = 10000000000000000000000000 := by decide
    refine ⟨.ref p, rfl, .int n, rfl, _, _, rfl, rfl, 1, (n : Int) + 1, rfl, ⟨by omega, by omega, by omega, by omega⟩, fun d nd => ?_⟩
    have edn : ((n : Int) + 1 - 1).toNat = n := by omega
    rw [edn]
    have ndp := ((Fr.refl [p] H).fresh hv nd).2
    refine lc_range (lo := 1) (n := n) (fun i H1 => ∃ xs, Same H H1 ∧ H1 d = some (.lst xs) ∧ xs.length ≤ i ∧ (0 < i → xs ≠ []) ∧ ∀ y ∈ xs, ∃ e : Int, y = .int e ∧ 0 < e ∧ e ∣ (n : Int)) ⟨[], same_upd nd, upd_same, Nat.le_refl _, fun h => absurd h (Nat.lt_irrefl 0), fun y hy => absurd hy (by simp)⟩ ?_ ?_
    · rintro i H1 hi ⟨xs, sm, ed, hl, hne, hx⟩
      refine ⟨rfl, .int n, rfl, .inl ⟨_, rfl, .int _, rfl, _, _, rfl, rfl, (show (1 : Int) + i ≠ 0 by omega), rfl, _, rfl, ite2 (fun hz => ?_) fun hz => ?_⟩⟩
      · rw [vint_eq] at hz
        have hz' : (n : Int).fmod (1 + (i : Int)) = 0 := of_decide_eq_true hz
        rw [fmod_pos (by omega)] at hz'
        refine ⟨.int _, rfl, xs, ed, small1000 (by omega), xs ++ [.int (1 + (i : Int))], same_set sm nd, upd_same, by rw [List.length_append, List.length_singleton]; omega, fun _ z => by simp at z, fun y hy => ?_⟩
        rcases List.mem_append.mp hy with hy | hy
        · exact hx y hy
        · exact ⟨_, List.mem_singleton.mp hy, by omega, Int.dvd_iff_emod_eq_zero.mpr hz'⟩
      · refine ⟨xs, sm, ed, by omega, fun _ => ?_, hx⟩
        refine hne ?_
        rcases Nat.eq_zero_or_pos i with h | h
        · subst h
          exfalso
          apply hz
          rw [vint_eq]
          refine decide_eq_true ?_
          show (n : Int).fmod (1 + ((0 : Nat) : Int)) = 0
          rw [fmod_pos (by decide)]
          exact Int.emod_one _
        · exact h
    · rintro H1 ⟨xs, s1, ed, hl, hne, hx⟩
      have v1 := hv.same s1
      refine ⟨p, d, xs, rfl, v1, .inl (.inl ed), ndp, hne n0, by omega, fun H2 y f2 v2 hy => ?_⟩
      obtain ⟨e, rfl, e0, en⟩ := hx y hy
      have g2 := (s1.fr [p]).trans f2
      -- the spot
      refine ⟨.ref p, rfl, .ref p, rfl, .int n, rfl, _, _, rfl, rfl, .inl ⟨by decide, by decide⟩, p, _, rfl, v2, by omega, by omega, fun H3 d3 f3 v3 a3 b3 => ?_⟩
      refine ⟨.int n, rfl, _, _, rfl, rfl, .ref p, rfl, p, 9, rfl, v3, by decide, by decide, fun H4 d4 f4 v4 a4 b4 => ?_⟩
      refine ⟨.int n, rfl, _, _, rfl, rfl, ⟨by decide, by decide, by decide⟩, _, _, rfl, rfl, .inl ⟨by omega, by omega⟩, _, _, rfl, rfl, by show 5 ≤ sizeLine; decide, fun k nk => ?_⟩
      have g4 := (g2.trans f3).trans f4
      have nkp := (g4.fresh v4 nk).2
      have v4' := v4.same (same_upd (o := .lst [.int 0, .int 1, .int (d3 - (n : Int)), .int d4, .int ((n : Int) * (10 : Int) ^ (20 : Int).toNat + 1)]) nk)
      refine ⟨p, k, _, rfl, v4', .inl (.inl upd_same), nkp, (fun z => nomatch z), by show 5 ≤ 1000; decide, fun H5 z f5 v5 hz => ?_⟩
      have g5 := (g4.trans (fr_new nk)).trans f5
      obtain ⟨sp, rfl, sp0, sp1⟩ : ∃ sp : Int, z = .int sp ∧ -lim ≤ sp ∧ sp ≤ lim := by
        rw [e20] at hz
        simp only [List.mem_cons, List.not_mem_nil, or_false] at hz
        rcases hz with rfl | rfl | rfl | rfl | rfl
        · exact ⟨_, rfl, by omega, by omega⟩
        · exact ⟨_, rfl, by omega, by omega⟩
        · exact ⟨_, rfl, by omega, by omega⟩
        · exact ⟨_, rfl, by omega, by omega⟩
        · exact ⟨_, rfl, by omega, by omega⟩
      -- the rest
      refine ⟨.ref p, rfl, .int n, rfl, _, _, rfl, rfl, .inl ⟨by decide, by decide⟩, p, _, rfl, v5, by omega, by omega, fun H6 d6 f6 v6 a6 b6 => ?_⟩
      refine ⟨.int n, rfl, _, _, rfl, rfl, ?_⟩
      refine ⟨.int sp, rfl, .ref p, rfl, .int _, rfl, .int _, rfl, .int _, rfl, .inl ⟨_, rfl, .int e, rfl, _, _, rfl, rfl, by omega, .int _, rfl, .int n, rfl, _, _, rfl, rfl, ⟨by decide, by decide, by decide⟩, _, _, rfl, rfl, .inl ⟨by omega, by omega⟩, _, _, rfl, rfl, by show 4 ≤ sizeLine; decide, fun l nl => ?_⟩⟩
      have g6 := g5.trans f6
      have nlp := (g6.fresh v6 nl).2
      refine ⟨p, l, _, rfl, v6.same (same_upd nl), .inl (.inl upd_same), nlp, (fun z => nomatch z), by show 4 ≤ 1000; decide, fun H7 z f7 v7 hz => ?_⟩
      have g7 := (g6.trans (fr_new nl)).trans f7
      have em := fmod_bd (a := d6 - (n : Int)) e0
      have eln : e ≤ n := Int.le_of_dvd (by omega) en
      obtain ⟨lo, rfl, lo0, lo1⟩ : ∃ lo : Int, z = .int lo ∧ -lim ≤ lo ∧ lo ≤ lim := by
        rw [e25] at hz
        simp only [List.mem_cons, List.not_mem_nil, or_false] at hz
        rcases hz with rfl | rfl | rfl | rfl
        · exact ⟨_, rfl, by omega, by omega⟩
        · exact ⟨_, rfl, by omega, by omega⟩
        · exact ⟨_, rfl, by omega, by omega⟩
        · exact ⟨_, rfl, by omega, by omega⟩
      refine ⟨.int e, rfl, by show 3 ≤ sizeLine; decide, fun r nr => ?_⟩
      exact q _ r ⟨sp, lo, e⟩ (g7.new nr) (v7.same (same_upd nr)) (.inl (.inl upd_same)) ⟨e0, en, sp0, sp1, lo0, lo1⟩
end
end Kr

set_option Elab.async false
set_option linter.all false
set_option maxRecDepth 100000
set_option maxHeartbeats 4000000
/-! The law's drawn lists of facts. -/
namespace Kr
open PySem PySem.Spec PyProof.Rows L2
theorem maps_pos {n : Nat} (hn : Base n) : 0 < (maps n).length := by
  rcases hn with rfl | rfl | rfl | rfl <;> decide +kernel
theorem maps_ne {K : PySem.W.Frag} {H : Hp} {M p : Addr} {n : Nat} (hn : Base n) (hM : MapsAt K H M n) (v : Vial H p) : M ≠ p := fun e => by
  obtain ⟨ys, h1, h2⟩ := hM
  obtain ⟨a, b, h3, _⟩ := v
  rw [e, h3] at h1
  have e2 : ys = [.int a, .int b] := by
    have := Option.some.inj h1
    simp only [HO.lst.injEq] at this
    exact this.symm
  subst e2
  have hl := maps_pos hn
  generalize maps n = l at h2 hl
  cases h2 with
  | cons h t =>
    obtain ⟨_, z, _⟩ := h
    cases z
theorem MapsAt.draw {K : PySem.W.Frag} {H H' : Hp} {M p : Addr} {n : Nat} (hn : Base n) (h : MapsAt K H M n) (v : Vial H p) (e : Fr [p] H H') : MapsAt K H' M n := h.fr e v.noT (by simpa using maps_ne hn h v)
/-- len(maps[0]) -/
theorem MapsAt.first {K : PySem.W.Frag} {H : Hp} {M : Addr} {n : Nat} (hn : Base n) (h : MapsAt K H M n) : ∃ (ys : List V) (a : Addr) (m : List Int), H M = some (.lst ys) ∧ ys[0]? = some (.ref a) ∧ SqT K H a (m.map V.int) ∧ m.length = n ∧ ys ≠ [] ∧ ys.length ≤ 200 ∧ ∀ y ∈ ys, ∃ m, MapV K H y m ∧ IsMap n m := by
  obtain ⟨ys, h1, h2⟩ := h
  have hl := maps_pos hn
  rw [← h2.length] at hl
  have hmem : ∀ y ∈ ys, ∃ m, MapV K H y m ∧ IsMap n m := fun y hy => by
    obtain ⟨i, hi⟩ := List.mem_iff_getElem?.mp hy
    obtain ⟨m, hm, mv⟩ := paired_get h2 hi
    exact ⟨m, mv, maps_is hn (List.mem_of_getElem? hm)⟩
  obtain ⟨m, ⟨a, ea, ha⟩, im⟩ := hmem ys[0] (List.getElem_mem hl)
  refine ⟨ys, a, m, h1, by rw [List.getElem?_eq_getElem hl, ea], ha, im.len, List.length_pos_iff.mp hl, ?_, hmem⟩
  rw [h2.length]
  exact mapsUp_len hn (Nat.le_refl n)
section
variable {P : Program} {w : World} {K : PySem.W.Frag} {mg : Str → Option Value} {base : Heap}
def spLHeap (K : PySem.W.Frag) : Sp := fun vs H Q _ => ∃ (p M : Addr) (n : Nat), vs = [.ref p, .ref M, .int 4] ∧ Vial H p ∧ Base n ∧ MapsAt K H M n ∧ ∀ H' v F, Fr [p] H H' → Vial H' p → FactsV K H' v F → FOk n F → Q v H'
/-- facts so far -/
structure FSo (n : Nat) (F : List Fct) : Prop where
  by_ : By n F
  bd : ∀ f ∈ F, -lim ≤ f.s ∧ f.s ≤ lim ∧ -(lim + 1000) ≤ f.l ∧ f.l ≤ lim + 1000
theorem paired_set {α β : Type} {R : α → β → Prop} : ∀ {xs : List α} {ys : List β} (i : Nat) {x : α} {y : β}, Paired R xs ys → R x y → Paired R (xs.set i x) (ys.set i y)
  | _, _, _, _, _, .nil, _ => .nil
  | _, _, 0, _, _, .cons r t, h => .cons h t
  | _, _, i + 1, _, _, .cons r t, h => .cons r (paired_set i t h)
theorem mem_set {α : Type} {l : List α} {i : Nat} {x y : α} (h : y ∈ l.set i x) : y ∈ l ∨ y = x := by
  rcases List.mem_or_eq_of_mem_set h with h | h
  · exact .inl h
  · exact .inr h
theorem sc_l_heap : FnScope ["_law_vial_here", "_law_maps_here", "_law_most", "_law_size", "_law_own", "_law_found", "_law_way", "_law_turn", "_law_spot", "_law_low", "_law_part", "_law_at"] ["_law_vial_here", "_law_maps_here", "_law_most"] (defScope s_l_heap) := ⟨rfl, rfl, rfl, by decide +kernel, rfl, by decide +kernel, by decide +kernel⟩
theorem l_heap_ok (D : DefIn K mg "_law_heap" s_l_heap) (T : Fre mg) (D_l_drop : DOk P w K mg base CX0 1 "_law_drop" ["_law_vial_here", "_law_size"] spDrop) (D_l_any : DOk P w K mg base CX0 2 "_law_any" ["_law_vial_here", "_law_some"] (spAny K)) (D_l_fact : DOk P w K mg base CX0 3 "_law_fact" ["_law_vial_here", "_law_size"] (spLFact K)) : DOk P w K mg base CX0 4 "_law_heap" ["_law_vial_here", "_law_maps_here", "_law_most"] (spLHeap K) := by
  refine D.ok sc_l_heap (fun vs H Q E h => ?_) (fun _ _ _ _ _ _ us hl => match us, hl with | [_, _, _], _ => rfl) (fun cdv A outer s H vs Q E hr h => ?_)
  · obtain ⟨_, _, _, rfl, _⟩ := h
    rfl
  · obtain ⟨p, M, n, rfl, hv, hn, hM, q⟩ := h
    have hu := hu_of hr
    have hu0 := Nat.lt_of_succ_lt hu
    refine ⟨_, (pss_cons (ps_par3 (i := 3) (j := 4) (l := 5) rfl sc_l_heap.nd rfl rfl rfl (by decide) (by decide) (by decide) rfl rfl rfl (pa_cons (pe_callB call_len_seq (by rfl) T.len_ (by decide +kernel) (pa_cons (pe_ix ix_list (pv 1) pe_int (fun _ _ => rfl)) pa_nil)) (pa_cons (pe_fn D_l_any hr (pa_cons (pv 0) (pa_cons (pv 1) pa_nil))) (pa_cons (pe_lst pa_nil) pa_nil))) (by rfl))
      (pss_cons (ps_set (i := 6) sc_l_heap.nd rfl (.inl rfl) (pe_fn D_l_drop hr (pa_cons (pv 0) (pa_cons pe_int pa_nil))))
      (pss_cons (ps_for PassesOwn.never rfl (pi_range1 (by rfl) T.range_ (pa_cons (pe_fn D_l_drop hr (pa_cons (pv 0) (pa_cons (pe_op op_add (pv 2) pe_int) pa_nil))) pa_nil)) (pg_name (i := 7) sc_l_heap.nd rfl (.inl rfl))
        (pss_cons (ps_asg (pe_fn D_l_fact hr (pa_cons (pv 0) (pa_cons (pv 3) pa_nil))) (pg_tup rfl (pgs_cons (pg_name (i := 8) sc_l_heap.nd rfl (.inl rfl)) (pgs_cons (pg_name (i := 9) sc_l_heap.nd rfl (.inl rfl)) (pgs_cons (pg_name (i := 10) sc_l_heap.nd rfl (.inl rfl)) pgs_nil)))))
        (pss_cons (ps_if (pt_cmpR op_gt (pv 6) pe_int (nomark _)) (pss_one (ps_set (i := 9) sc_l_heap.nd rfl (.inl rfl) (pe_op op_add (pe_ix ix_tup (pv 4) (pe_op op_modN (pe_callTy call_int1 (by rfl) T.int_ (by decide +kernel) (pa_cons (pv 8) pa_nil)) (pv 3)) (fun _ _ => rfl)) (pe_op op_mul (pv 10) (pe_op op_sub (pe_fn D_l_drop hr (pa_cons (pv 0) (pa_cons pe_int pa_nil))) pe_int))))) pss_nil)
        (pss_one (ps_expr (pe_bm PySem.F.plainAttrs_list PySem.F.slot_list_append PySem.F.type_list_append mt_append (pv 5) (pa_cons (pe_tup (pa_cons (pv 8) (pa_cons (pv 9) (pa_cons (pv 10) pa_nil)))) pa_nil)))))))
      (pss_cons (ps_if (PW.pt (pw_and (pt_cmpR op_eq (pv 6) pe_int (nomark _)) (pw_and1 (pt_cmpR (op_ne0L hu0) (pv 5) (pe_lst pa_nil) (nomark _))))) (pss_cons (ps_set (i := 11) sc_l_heap.nd rfl (.inl rfl) (pe_fn D_l_drop hr (pa_cons (pv 0) (pa_cons (pe_callB call_len_seq (by rfl) T.len_ (by decide +kernel) (pa_cons (pv 5) pa_nil)) pa_nil))))
        (pss_one (ps_asg (pe_tup (pa_cons (pe_ix ix_tup (pe_ix ix_list (pv 5) (pv 11) (fun _ _ => rfl)) pe_int (fun _ _ => rfl)) (pa_cons (pe_op op_add (pe_ix ix_tup (pe_ix ix_list (pv 5) (pv 11) (fun _ _ => rfl)) pe_int (fun _ _ => rfl)) pe_int) (pa_cons (pe_ix ix_tup (pe_ix ix_list (pv 5) (pv 11) (fun _ _ => rfl)) pe_int (fun _ _ => rfl)) pa_nil)))) (pg_sub (pv 5) (pv 11) set_list)))) pss_nil)
      (pss_one (ps_ret (pe_callTy call_tuple_of (by rfl) T.tuple_ (by decide +kernel) (pa_cons (pv 5) pa_nil)))))))), ?_⟩
    have n6 := hn.le
    have n0 := hn.pos
    have elim : lim = 100000000000000000000000000000 := rfl
    obtain ⟨ys, a0, m0, eM, h0, ha0, hm0, hne, h200, hall⟩ := hM.first hn
    have nMp := maps_ne hn hM hv
    refine ⟨.ref M, rfl, M, _, _, _, rfl, rfl, .inl (.inl eM), atI_nat (j := 0) h0, a0, _, rfl, .inr ha0, ?_⟩
    refine ⟨.ref p, rfl, .ref M, rfl, p, M, ys, rfl, hv, .inl (.inl eM), nMp, hne, by omega, fun H1 y f1 v1 hy => ?_⟩
    obtain ⟨m, ⟨aw, rfl, haw⟩, im⟩ := hall y hy
    have haw1 := (f1.ts hv.noT).sqt haw
    refine ⟨Nat.zero_le _, fun b nb => ⟨_, _, _, rfl, ?_⟩⟩
    have f2 := f1.new (o := .lst []) nb
    have v2 := v1.same (same_upd (o := .lst []) nb)
    obtain ⟨nbH, nbp⟩ := f1.fresh v1 nb
    have hawb := (same_upd (o := .lst []) nb).sqt haw1
    have eb : upd H1 b (.lst []) b = some (.lst []) := upd_same
    generalize upd H1 b (.lst []) = H2 at f2 v2 hawb eb ⊢
    refine ⟨.ref p, rfl, p, 5, rfl, v2, by decide, by decide, fun H3 way f3 v3 w0 w1 => ?_⟩
    have f23 := f2.trans f3
    have eb3 := f3 _ _ (by simpa using nbp) eb
    have haw3 := (f3.ts v2.noT).sqt hawb
    refine ⟨.ref p, rfl, .int 4, rfl, _, _, rfl, rfl, p, _, rfl, v3, by decide, by decide, fun H4 k4 f4 v4 a4 b4 => ?_⟩
    have f24 := f23.trans f4
    have eb4 := f4 _ _ (by simpa using nbp) eb3
    have haw4 := (f4.ts v3.noT).sqt haw3
    have hk4 : k4 < 5 := b4
    refine ⟨k4, rfl, by omega, by omega, ?_⟩
    have hnl : (V.int ((m0.map V.int).length : Nat)) = .int (n : Nat) := by rw [List.length_map, hm0]
    rw [hnl]
    refine for_range (lo := 0) (n := k4.toNat) (fun i σ H5 => ∃ xs F t7 t8 t9 t10, σ = [some (.ref p), some (.ref M), some (.int 4), some (.int (n : Nat)), some (.ref aw), some (.ref b), some (.int way), t7, t8, t9, t10, none] ∧ Fr [p] H H5 ∧ Vial H5 p ∧ H5 b = some (.lst xs) ∧ Paired (FactV K H5) xs F ∧ xs.length = i ∧ FSo n F ∧ SqT K H5 aw (m.map V.int))
      ⟨[], [], none, none, none, none, rfl, f24, v4, eb4, .nil, rfl, ⟨fun f hf => absurd hf (by simp), fun f hf => absurd hf (by simp)⟩, haw4⟩ ?_ ?_
    · rintro i σ H5 hi ⟨xs, F, t7, t8, t9, t10, rfl, f5, v5, eb5, hp5, hl5, so5, haw5⟩
      refine ⟨.ref p, rfl, .int n, rfl, p, n, rfl, v5, hn, fun H6 c f f6 v6 hc fo => ?_⟩
      have f56 := f5.trans f6
      have ts6 := f6.ts v5.noT
      have eb6 := f6 _ _ (by simpa using nbp) eb5
      have haw6 := ts6.sqt haw5
      have hp6 : Paired (FactV K H6) xs F := Paired.mapP hp5 fun _ _ z => z.ts ts6
      refine ⟨c, _, rfl, hc, rfl, _, _, rfl, _, _, rfl, _, _, rfl, rfl, ?_⟩
      -- the end of a turn
      have fin : ∀ (H7 : Hp) (lo : Int), Fr [p] H H7 → Vial H7 p → H7 b = some (.lst xs) → Paired (FactV K H7) xs F → SqT K H7 aw (m.map V.int) → -(lim + 1000) ≤ lo → lo ≤ lim + 1000 → ∀ t, H7 t = none → (fun H8 => ∃ xs' F' t7 t8 t9 t10, [some (V.ref p), some (V.ref M), some (V.int 4), some (V.int (n : Nat)), some (V.ref aw), some (V.ref b), some (V.int way), some (V.int (0 + (i : Int))), some (V.int f.s), some (V.int lo), some (V.int f.p), none] = [some (V.ref p), some (V.ref M), some (V.int 4), some (V.int (n : Nat)), some (V.ref aw), some (V.ref b), some (V.int way), t7, t8, t9, t10, none] ∧ Fr [p] H H8 ∧ Vial H8 p ∧ H8 b = some (.lst xs') ∧ Paired (FactV K H8) xs' F' ∧ xs'.length = i + 1 ∧ FSo n F' ∧ SqT K H8 aw (m.map V.int)) (upd (upd H7 t (.tup [.int f.s, .int lo, .int f.p])) b (.lst (xs ++ [.ref t]))) := by
        intro H7 lo f7 v7 e7 p7 w7 lo0 lo1 t nt
        have s8 := same_upd (o := .tup [.int f.s, .int lo, .int f.p]) nt
        have e8 := s8 _ _ e7
        have ts8 := s8.ts.trans (ts_set (o := .lst (xs ++ [.ref t])) e8)
        refine ⟨xs ++ [.ref t], F ++ [⟨f.s, lo, f.p⟩], _, _, _, _, rfl, ?_, ?_, upd_same, paired_append (Paired.mapP p7 fun _ _ z => z.ts ts8) (.cons ⟨t, rfl, (ts_set e8).sqt (.inl (.inl upd_same))⟩ .nil), by rw [List.length_append, List.length_singleton, hl5], ⟨fun g hg => ?_, fun g hg => ?_⟩, ts8.sqt w7⟩
        · intro x o hx e
          have hxb : x ≠ b := fun z => by
            rw [z, nbH] at e
            cases e
          rw [upd_ne hxb]
          exact s8 _ _ (f7 _ _ hx e)
        · obtain ⟨z1, z2, z3, z4⟩ := v7.same s8
          exact ⟨z1, z2, by rw [upd_ne nbp.symm]; exact z3, z4⟩
        · rcases List.mem_append.mp hg with hg | hg
          · exact so5.by_ g hg
          · rw [List.mem_singleton.mp hg]
            exact ⟨fo.p0, fo.pn⟩
        · rcases List.mem_append.mp hg with hg | hg
          · exact so5.bd g hg
          · rw [List.mem_singleton.mp hg]
            exact ⟨fo.s0, fo.s1, lo0, lo1⟩
      refine ⟨.int way, rfl, _, _, rfl, rfl, _, rfl, ite2 (fun hw => ?_) fun hw => ?_⟩
      · have hml : 0 < m.length := by rw [im.len]; exact n0
        have hva := im.at hn f.s
        have eix : (n : Int) = (m.length : Nat) := by rw [im.len]
        refine ⟨.ref aw, rfl, .int f.s, rfl, .inl ⟨f.s, rfl, .int n, rfl, f.s, _, rfl, rfl, by omega, aw, _, _, _, rfl, rfl, haw6, by rw [eix]; exact val_at hml f.s, .int f.p, rfl, .ref p, rfl, p, 7, rfl, v6, by decide, by decide, fun H7 d7 f7 v7 a7 b7 => ?_⟩⟩
        have ts7 := f7.ts v6.noT
        have pl : f.p ≤ n := Int.le_of_dvd (by omega) fo.pn
        have p0 := fo.p0
        refine ⟨_, _, rfl, rfl, _, _, rfl, rfl, .inl ⟨by omega, by omega⟩, _, _, rfl, rfl, ?_⟩
        have m1 : -(6 * 3) ≤ f.p * (d7 - 3) := by
          have := Int.mul_le_mul_of_nonneg_left (show -3 ≤ d7 - 3 by omega) (Int.le_of_lt p0)
          omega
        have m2 : f.p * (d7 - 3) ≤ 6 * 3 := by
          have := Int.mul_le_mul_of_nonneg_left (show d7 - 3 ≤ 3 by omega) (Int.le_of_lt p0)
          omega
        refine ⟨.ref b, rfl, .inl ⟨rfl, _, .inl (.inl (f7 _ _ (by simpa using nbp) eb6))⟩, .int f.s, rfl, .int _, rfl, .int f.p, rfl, by show 3 ≤ sizeLine; decide, fun t nt => ?_⟩
        refine ⟨b, xs, _, rfl, rfl, same_upd nt _ _ (f7 _ _ (by simpa using nbp) eb6), small1000 (by omega), ?_⟩
        exact fin H7 _ (f56.trans f7) v7 (f7 _ _ (by simpa using nbp) eb6) (Paired.mapP hp6 fun _ _ z => z.ts ts7) (ts7.sqt haw6) (by omega) (by omega) t nt
      · refine ⟨.ref b, rfl, .inl ⟨rfl, _, .inl (.inl eb6)⟩, .int f.s, rfl, .int f.l, rfl, .int f.p, rfl, by show 3 ≤ sizeLine; decide, fun t nt => ?_⟩
        refine ⟨b, xs, _, rfl, rfl, same_upd nt _ _ eb6, small1000 (by omega), ?_⟩
        have := fo.l0
        have := fo.l1
        exact fin H6 f.l f56 v6 eb6 hp6 haw6 (by omega) (by omega) t nt
    · rintro σ H5 ⟨xs, F, t7, t8, t9, t10, rfl, f5, v5, eb5, hp5, hl5, so5, haw5⟩
      -- the end
      have fin : ∀ (H6 : Hp) (xs' : List V) (F' : List Fct), Fr [p] H H6 → Vial H6 p → H6 b = some (.lst xs') → Paired (FactV K H6) xs' F' → F'.length ≤ 4 → By n F' → (∀ f ∈ F', -lim ≤ f.s ∧ f.s ≤ lim ∧ -(lim + 1001) ≤ f.l ∧ f.l ≤ lim + 1001) → ∀ l, H6 l = none → Q (.ref l) (upd H6 l (.tup xs')) := by
        intro H6 xs' F' f6 v6 e6 p6 l6 b6 bd6 l nl
        have s7 := same_upd (o := .tup xs') nl
        refine q _ _ F' (f6.new nl) (v6.same s7) ⟨l, xs', rfl, .inl (.inl upd_same), Paired.mapP p6 fun _ _ z => z.ts s7.ts⟩ ⟨b6, l6, fun f hf => ?_⟩
        have := bd6 f hf
        rw [big_eq]
        omega
      have hlF : F.length ≤ 4 := by
        rw [← hp5.length]
        omega
      have bd5 : ∀ f ∈ F, -lim ≤ f.s ∧ f.s ≤ lim ∧ -(lim + 1001) ≤ f.l ∧ f.l ≤ lim + 1001 := fun f hf => by
        have := so5.bd f hf
        omega
      refine ⟨.int way, rfl, rfl, _, rfl, ite2 (fun hw => ?_) fun hw => ?_⟩
      · refine ⟨.ref b, rfl, Nat.zero_le _, fun l nl => ⟨b, l, xs, rfl, rfl, .inl (.inl (same_upd nl _ _ eb5)), .inl (.inl upd_same), _, rfl, ?_⟩⟩
        have s6 := same_upd (o := .lst []) nl
        have f6 := f5.new (o := .lst []) nl
        have v6 := v5.same s6
        have eb6 := s6 _ _ eb5
        have hp6 : Paired (FactV K (upd H5 l (.lst []))) xs F := Paired.mapP hp5 fun _ _ z => z.ts s6.ts
        generalize upd H5 l (.lst []) = H6 at f6 v6 eb6 hp6 ⊢
        cases xs with
        | nil => exact iteF ⟨.ref b, rfl, b, [], rfl, .inl ⟨.inl (.inl eb6), fin H6 [] F f6 v6 eb6 hp6 hlF so5.by_ bd5⟩⟩
        | cons x0 xr =>
          refine iteT ⟨.ref p, rfl, .ref b, rfl, b, _, rfl, .inl (.inl (.inl eb6)), p, _, rfl, v6, by rw [List.length_cons]; omega, by rw [List.length_cons]; have : (x0 :: xr).length = k4.toNat := hl5; rw [List.length_cons] at this; omega, fun H7 d f7 v7 a7 b7 => ?_⟩
          have eb7 := f7 _ _ (by simpa using nbp) eb6
          have ts7 := f7.ts v6.noT
          have hp7 : Paired (FactV K H7) (x0 :: xr) F := Paired.mapP hp6 fun _ _ z => z.ts ts7
          obtain ⟨j, rfl⟩ := Int.eq_ofNat_of_zero_le a7
          have hj : j < (x0 :: xr).length := by omega
          obtain ⟨f, hf, ⟨c, ec, hc⟩⟩ := paired_get hp7 (List.getElem?_eq_getElem hj)
          have hx : (x0 :: xr)[j]? = some (.ref c) := by rw [List.getElem?_eq_getElem hj, ec]
          have rd : ∀ i : Nat, True := fun _ => trivial
          refine ⟨.ref b, rfl, .int j, rfl, b, _, _, _, rfl, rfl, .inl (.inl eb7), atI_nat hx, c, _, _, _, rfl, rfl, hc, atI_nat (j := 0) rfl, ?_⟩
          refine ⟨.ref b, rfl, .int j, rfl, b, _, _, _, rfl, rfl, .inl (.inl eb7), atI_nat hx, c, _, _, _, rfl, rfl, hc, atI_nat (j := 1) rfl, _, _, rfl, rfl, ?_⟩
          refine ⟨.ref b, rfl, .int j, rfl, b, _, _, _, rfl, rfl, .inl (.inl eb7), atI_nat hx, c, _, _, _, rfl, rfl, hc, atI_nat (j := 2) rfl, by show 3 ≤ sizeLine; decide, fun t nt => ?_⟩
          have s8 := same_upd (o := .tup [.int f.s, .int (f.l + 1), .int f.p]) nt
          have eb8 := s8 _ _ eb7
          have hix : ixN (x0 :: xr).length (j : Int) = some j := by
            unfold ixN
            rw [if_pos (by omega), if_pos (by omega)]
            simp
          refine ⟨.ref b, rfl, .int j, rfl, b, _, j, j, rfl, rfl, eb8, hix, ?_⟩
          have ts8 := s8.ts.trans (ts_set (o := .lst ((x0 :: xr).set j (.ref t))) eb8)
          have f8 : Fr [p] H (upd (upd H7 t (.tup [.int f.s, .int (f.l + 1), .int f.p])) b (.lst ((x0 :: xr).set j (.ref t)))) := by
            intro x o hx e
            have hxb : x ≠ b := fun z => by
              rw [z, nbH] at e
              cases e
            rw [upd_ne hxb]
            exact s8 _ _ ((f6.trans f7) _ _ hx e)
          have v8 : Vial (upd (upd H7 t (.tup [.int f.s, .int (f.l + 1), .int f.p])) b (.lst ((x0 :: xr).set j (.ref t)))) p := by
            obtain ⟨z1, z2, z3, z4⟩ := v7.same s8
            exact ⟨z1, z2, by rw [upd_ne nbp.symm]; exact z3, z4⟩
          refine ⟨.ref b, rfl, b, _, rfl, .inl ⟨.inl (.inl upd_same), fin _ _ (F.set j ⟨f.s, f.l + 1, f.p⟩) f8 v8 upd_same (paired_set j (Paired.mapP hp7 fun _ _ z => z.ts ts8) ⟨t, rfl, (ts_set eb8).sqt (.inl (.inl upd_same))⟩) (by rw [List.length_set]; exact hlF) (fun g hg => ?_) fun g hg => ?_⟩⟩
          · rcases mem_set hg with hg | rfl
            · exact so5.by_ g hg
            · exact so5.by_ f (List.mem_of_getElem? hf)
          · rcases mem_set hg with hg | rfl
            · exact bd5 g hg
            · have := so5.bd f (List.mem_of_getElem? hf)
              dsimp only
              omega
      · exact iteF ⟨.ref b, rfl, b, xs, rfl, .inl ⟨.inl (.inl eb5), fin H5 xs F f5 v5 eb5 hp5 hlF so5.by_ bd5⟩⟩
end
end Kr

set_option Elab.async false
set_option linter.all false
set_option maxRecDepth 100000
set_option maxHeartbeats 4000000
/-! The law's judgement of promises. -/
namespace Kr
open PySem PySem.Spec PyProof.Rows L2
section
variable {P : Program} {w : World} {K : PySem.W.Frag} {mg : Str → Option Value} {base : Heap}
def spNamesOf (K : PySem.W.Frag) : Sp := fun vs H Q _ => ∃ v u, vs = [v] ∧ VowV K H v u ∧ ∀ H' p, Same H H' → H' p = some (.lst (u.names.map V.str)) → Q (.ref p) H'
theorem sc_l_names_of : FnScope ["_law_vow_here"] ["_law_vow_here"] (defScope s_l_names_of) := ⟨rfl, rfl, rfl, by decide +kernel, rfl, by decide +kernel, by decide +kernel⟩
theorem l_names_of_ok (D : DefIn K mg "_law_names_of" s_l_names_of) : DOk P w K mg base CX0 1 "_law_names_of" ["_law_vow_here"] (spNamesOf K) := by
  refine D.ok sc_l_names_of (fun vs H Q E h => ?_) (fun _ _ _ _ _ _ us hl => match us, hl with | [_], _ => rfl) (fun cdv A outer s H vs Q E hr h => ?_)
  · obtain ⟨_, _, rfl, _⟩ := h
    rfl
  · obtain ⟨_, u, rfl, ⟨c, rfl, hc⟩, q⟩ := h
    refine ⟨_, (pss_one (ps_ret (pe_ifExp (pt_cmpR op_eq (pe_ix ix_tup (pv 0) pe_int (fun _ _ => rfl)) pe_str (nomark _)) (pe_lst (pa_cons (pe_ix ix_tup (pv 0) pe_int (fun _ _ => rfl)) pa_nil)) (pe_lst (pa_cons (pe_ix ix_tup (pv 0) pe_int (fun _ _ => rfl)) (pa_cons (pe_ix ix_tup (pv 0) pe_int (fun _ _ => rfl)) pa_nil)))))), ?_⟩
    cases u with
    | sure x f =>
      refine ⟨.ref c, rfl, c, _, _, _, rfl, rfl, hc, atI_nat (j := 0) rfl, rfl, _, rfl, ifT (by decide +kernel) ?_⟩
      exact ⟨.ref c, rfl, c, _, _, _, rfl, rfl, hc, atI_nat (j := 1) rfl, by show 1 ≤ sizeLine; decide, fun p np => q _ p (same_upd np) upd_same⟩
    | much x y =>
      refine ⟨.ref c, rfl, c, _, _, _, rfl, rfl, hc, atI_nat (j := 0) rfl, rfl, _, rfl, ifF (by decide +kernel) ?_⟩
      exact ⟨.ref c, rfl, c, _, _, _, rfl, rfl, hc, atI_nat (j := 1) rfl, .ref c, rfl, c, _, _, _, rfl, rfl, hc, atI_nat (j := 2) rfl, by show 2 ≤ sizeLine; decide, fun p np => q _ p (same_upd np) upd_same⟩
    | tog x y =>
      refine ⟨.ref c, rfl, c, _, _, _, rfl, rfl, hc, atI_nat (j := 0) rfl, rfl, _, rfl, ifF (by decide +kernel) ?_⟩
      exact ⟨.ref c, rfl, c, _, _, _, rfl, rfl, hc, atI_nat (j := 1) rfl, .ref c, rfl, c, _, _, _, rfl, rfl, hc, atI_nat (j := 2) rfl, by show 2 ≤ sizeLine; decide, fun p np => q _ p (same_upd np) upd_same⟩
def BrokR (K : PySem.W.Frag) (H : Hp) (ys : List V) : Option Shown → Prop
  | none => ys = []
  | some sh => ∃ y, ys = [y] ∧ ShownV K H y sh
def spBroken (K : PySem.W.Frag) : Sp := fun vs H Q _ => ∃ (M t : Addr) (v : V) (n : Nat) (tab : Tab) (u : Vow), vs = [.ref M, .ref t, v] ∧ Base n ∧ MapsAt K H M n ∧ TabAt K H t tab ∧ VowV K H v u ∧ TOk n tab ∧ UOk tab u ∧ ∀ H' p ys, Same H H' → H' p = some (.lst ys) → BrokR K H' ys (truthS tab u) → Q (.ref p) H'
theorem sc_l_broken : FnScope ["_law_maps_here", "_law_table", "_law_vow_here", "_law_heap_here", "_law_two", "_law_seen_here", "_law_found", "_law_k"] ["_law_maps_here", "_law_table", "_law_vow_here"] (defScope s_l_broken) := ⟨rfl, rfl, rfl, by decide +kernel, rfl, by decide +kernel, by decide +kernel⟩
theorem fit_empty {K : PySem.W.Frag} {H : Hp} {ys : List V} {n : Nat} {F : List Fct} (hn : Base n) (hb : By n F) (h : Paired (MapV K H) ys (fitting n F)) : (ys.isEmpty = true ∧ ¬ Comp F) ∨ (ys.isEmpty = false ∧ Comp F) := by
  have hf := fitting_nil hn hb
  generalize fitting n F = z at h hf
  cases h with
  | nil => exact .inl ⟨rfl, hf.mp rfl⟩
  | cons _ _ => exact .inr ⟨rfl, Classical.byContradiction fun hc => nomatch hf.mpr hc⟩
theorem l_broken_ok (D : DefIn K mg "_law_broken" s_l_broken) (T : Fre mg) (D_l_pair : DOk P w K mg base CX0 3 "_law_pair" ["_law_maps_here", "_law_heap_here"] (spPair K)) (D_l_fitting : DOk P w K mg base CX0 2 "_law_fitting" ["_law_maps_here", "_law_heap_here"] (spFitT K))
    (D_l_seen : DOk P w K mg base CX0 3 "_law_seen" ["_law_maps_here", "_law_heap_here", "_law_spot"] (spSeen K)) (D_l_is_sure : DOk P w K mg base CX0 4 "_law_is_sure" ["_law_maps_here", "_law_heap_here", "_law_fact_here"] (spLSure K)) : DOk P w K mg base CX0 5 "_law_broken" ["_law_maps_here", "_law_table", "_law_vow_here"] (spBroken K) := by
  refine D.ok sc_l_broken (fun vs H Q E h => ?_) (fun _ _ _ _ _ _ us hl => match us, hl with | [_, _, _], _ => rfl) (fun cdv A outer s H vs Q E hr h => ?_)
  · obtain ⟨_, _, _, _, _, _, rfl, _⟩ := h
    rfl
  · obtain ⟨M, a, _, n, tab, u, rfl, hn, hM, ht, ⟨c, rfl, hc⟩, htk, huk, q⟩ := h
    have hu := hu_of hr
    have hu0 := Nat.lt_of_succ_lt hu
    refine ⟨_, (pss_cons (ps_set (i := 3) sc_l_broken.nd rfl (.inr rfl) (pe_dget hu (pv 1) (pe_ix ix_tup (pv 2) pe_int (fun _ _ => rfl)) (fun _ _ => rfl)))
      (pss_cons (ps_if (pt_cmpR op_eq (pe_ix ix_tup (pv 2) pe_int (fun _ _ => rfl)) pe_str (nomark _)) (pss_cons (ps_set (i := 4) sc_l_broken.nd rfl (.inl rfl) (pe_fn D_l_pair hr (pa_cons (pv 0) (pa_cons (pe_op op_catA (pv 3) (pe_dget hu (pv 1) (pe_ix ix_tup (pv 2) pe_int (fun _ _ => rfl)) (fun _ _ => rfl))) pa_nil))))
        (pss_one (ps_ret (pe_ifExp (pt_cmpR (op_ne0L hu0) (pv 4) (pe_lst pa_nil) (nomark _)) (pe_lst (pa_cons (pe_callTy call_tuple_of (by rfl) T.tuple_ (by decide +kernel) (pa_cons (pv 4) pa_nil)) pa_nil)) (pe_lst pa_nil))))) pss_nil)
      (pss_cons (ps_if (pt_cmpR (op_eq0L hu0) (pe_fn D_l_fitting hr (pa_cons (pv 0) (pa_cons (pv 3) pa_nil))) (pe_lst pa_nil) (nomark _)) (pss_one (ps_ret (pe_lst (pa_cons pe_non pa_nil)))) pss_nil)
      (pss_cons (ps_if (pt_cmpR op_eq (pe_ix ix_tup (pv 2) pe_int (fun _ _ => rfl)) pe_str (nomark _)) (pss_cons (ps_set (i := 5) sc_l_broken.nd rfl (.inl rfl) (pe_fn D_l_seen hr (pa_cons (pv 0) (pa_cons (pv 3) (pa_cons (pe_ix ix_tup (pv 2) pe_int (fun _ _ => rfl)) pa_nil)))))
        (pss_one (ps_ret (pe_ifExp (pt_val (pe_fn D_l_is_sure hr (pa_cons (pv 0) (pa_cons (pv 3) (pa_cons (pe_slice sl_tupA (pv 2) (po_some pe_int) po_none) pa_nil))))) (pe_lst pa_nil) (pe_lst (pa_cons (pv 5) pa_nil)))))) pss_nil)
      (pss_cons (ps_setLc (i := 6) (own := [("_law_k", 7)]) (g := gName 7) rfl sc_l_broken.nd rfl rfl (sw_true rfl rfl rfl (by decide +kernel)) (pi_range1 (by rfl) T.range_ (pa_cons (pe_callB call_len_seq (by rfl) T.len_ (by decide +kernel) (pa_cons (pe_dget hu (pv 1) (pe_ix ix_tup (pv 2) pe_int (fun _ _ => rfl)) (fun _ _ => rfl)) pa_nil)) pa_nil)) (blkOk_by (N := ["_law_maps_here", "_law_table", "_law_vow_here", "_law_heap_here", "_law_two", "_law_seen_here", "_law_found", "_law_k"]) (sc := defScope s_l_broken) (by decide +kernel)) (fun _ _ _ _ _ => (pg_name (i := 7) sc_l_broken.nd rfl (.inl rfl))) (fun _ _ _ _ _ => (pts_one (pt_not (pt_val (pe_fn D_l_is_sure hr (pa_cons (pv 0) (pa_cons (pv 3) (pa_cons (pe_ix (r := rIxT K) ix_tup (pe_dget hu (pv 1) (pe_ix (r := rIxT K) ix_tup (pv 2) pe_int (fun _ _ => rfl)) (fun _ _ => rfl)) (pv 7) (fun _ _ => rfl)) pa_nil)))))))) (fun _ _ _ _ _ => (pv 7)))
      (pss_one (ps_ret (pe_slice sl_list (pv 6) po_none (po_some pe_int))))))))), ?_⟩
    cases u with
    | sure x f =>
      obtain ⟨F, hF⟩ := huk.nm x (by simp [Vow.names])
      obtain ⟨v, hg, hv⟩ := ht.get hF
      have fo := htk.get hF
      have eF : (getF tab x).getD [] = F := by rw [hF]; rfl
      obtain ⟨a1, xs, rfl, hxs, hpx⟩ := id hv
      refine ⟨.ref a, rfl, .ref c, rfl, c, _, _, _, rfl, rfl, hc, atI_nat (j := 1) rfl, a, .ref a1, rfl, hg, ?_⟩
      refine ⟨.ref c, rfl, c, _, _, _, rfl, rfl, hc, atI_nat (j := 0) rfl, rfl, _, rfl, ifF (by decide +kernel) ?_⟩
      refine ⟨.ref M, rfl, .ref a1, rfl, M, a1, xs, F, n, rfl, hn, hM, hxs, hpx, fun f hf => (fo.by_ f hf).1, fun H1 p ys s1 ep hys => ?_⟩
      refine ⟨Nat.zero_le _, fun l nl => ⟨p, l, ys, rfl, rfl, .inl (.inl (same_upd nl _ _ ep)), .inl (.inl upd_same), _, rfl, ?_⟩⟩
      have s2 := s1.trans (same_upd (o := .lst []) nl)
      generalize upd H1 l (.lst []) = H2 at s2 ⊢
      rcases fit_empty hn fo.by_ hys with ⟨he, hcomp⟩ | ⟨he, hcomp⟩
      · refine ifT he ⟨by show 1 ≤ sizeLine; decide, fun r nr => ?_⟩
        refine q _ r _ (s2.trans (same_upd nr)) upd_same ?_
        rw [truthS_sure, eF, if_neg hcomp]
        exact ⟨_, rfl, rfl⟩
      · refine ifF he ⟨.ref c, rfl, c, _, _, _, rfl, rfl, s2.sqt hc, atI_nat (j := 0) rfl, rfl, _, rfl, ifT (by decide +kernel) ?_⟩
        refine ⟨.ref M, rfl, .ref a1, rfl, .ref c, rfl, c, _, _, _, rfl, rfl, s2.sqt hc, atI_nat (j := 2) rfl, M, .ref a1, f.s, F, n, rfl, hn, hM.same s2, hv.ts s2.ts, fo.by_, hcomp, fun H3 k s3 ek => ?_⟩
        have s23 := s2.trans s3
        refine ⟨.ref M, rfl, .ref a1, rfl, .ref c, rfl, 2, rfl, c, _, rfl, s23.sqt hc, fun hw => absurd (show HT.sIx 5 0 (some 2) = 0 from hw.1) (by decide), fun _ t nt => ?_⟩
        have s4 := s23.trans (same_upd (o := .tup (cutV (Vow.sure x f).vs (some 2) none)) nt)
        have ek4 := same_upd (o := .tup (cutV (Vow.sure x f).vs (some 2) none)) nt _ _ ek
        refine ⟨M, .ref a1, .ref t, F, f, n, rfl, hn, hM.same s4, hv.ts s4.ts, ⟨t, rfl, .inl (.inl upd_same)⟩, fo.by_, hcomp, huk.p0 x f rfl, fun H5 s5 => ⟨_, rfl, ?_⟩⟩
        have s45 := s4.trans s5
        have ek5 := s5 _ _ ek4
        cases hs : sureB F f with
        | true =>
          refine iteT ⟨Nat.zero_le _, fun r nr => ?_⟩
          refine q _ r _ (s45.trans (same_upd nr)) upd_same ?_
          rw [truthS_sure, eF, if_pos hcomp, if_pos hs]
          rfl
        | false =>
          refine iteF ⟨.ref k, rfl, by show 1 ≤ sizeLine; decide, fun r nr => ?_⟩
          refine q _ r _ (s45.trans (same_upd nr)) upd_same ?_
          rw [truthS_sure, eF, if_pos hcomp, if_neg (by rw [hs]; exact Bool.false_ne_true)]
          exact ⟨_, rfl, k, rfl, .inl (.inl (same_upd nr _ _ ek5))⟩
    | much x y =>
      obtain ⟨F, hF⟩ := huk.nm x (by simp [Vow.names])
      obtain ⟨G, hG⟩ := huk.nm y (by simp [Vow.names])
      obtain ⟨v, hg, hv⟩ := ht.get hF
      have fo := htk.get hF
      have go := htk.get hG
      have eF : (getF tab x).getD [] = F := by rw [hF]; rfl
      have eG : (getF tab y).getD [] = G := by rw [hG]; rfl
      obtain ⟨a1, xs, rfl, hxs, hpx⟩ := id hv
      refine ⟨.ref a, rfl, .ref c, rfl, c, _, _, _, rfl, rfl, hc, atI_nat (j := 1) rfl, a, .ref a1, rfl, hg, ?_⟩
      refine ⟨.ref c, rfl, c, _, _, _, rfl, rfl, hc, atI_nat (j := 0) rfl, rfl, _, rfl, ifF (by decide +kernel) ?_⟩
      refine ⟨.ref M, rfl, .ref a1, rfl, M, a1, xs, F, n, rfl, hn, hM, hxs, hpx, fun f hf => (fo.by_ f hf).1, fun H1 p ys s1 ep hys => ?_⟩
      refine ⟨Nat.zero_le _, fun l nl => ⟨p, l, ys, rfl, rfl, .inl (.inl (same_upd nl _ _ ep)), .inl (.inl upd_same), _, rfl, ?_⟩⟩
      have s2 := s1.trans (same_upd (o := .lst []) nl)
      generalize upd H1 l (.lst []) = H2 at s2 ⊢
      rcases fit_empty hn fo.by_ hys with ⟨he, hcomp⟩ | ⟨he, hcomp⟩
      · refine ifT he ⟨by show 1 ≤ sizeLine; decide, fun r nr => ?_⟩
        refine q _ r _ (s2.trans (same_upd nr)) upd_same ?_
        rw [truthS_much, eF, if_neg hcomp]
        exact ⟨_, rfl, rfl⟩
      · refine ifF he ⟨.ref c, rfl, c, _, _, _, rfl, rfl, s2.sqt hc, atI_nat (j := 0) rfl, rfl, _, rfl, ifF (by decide +kernel) ?_⟩
        obtain ⟨v2, hg2, hv2⟩ := (ht.same s2).get hG
        obtain ⟨a2, ys2, rfl, hys2, hpy⟩ := id hv2
        have hlG : ys2.length = G.length := hpy.length
        have hl4 := go.len
        refine ⟨.ref a, rfl, .ref c, rfl, c, _, _, _, rfl, rfl, s2.sqt hc, atI_nat (j := 2) rfl, a, .ref a2, rfl, hg2, a2, ys2, rfl, .inr hys2, (ys2.length : Int), rfl, by omega, by omega, ?_⟩
        rw [Int.toNat_natCast]
        intro d nd
        refine lc_range (lo := 0) (n := ys2.length) (fun i H3 => Same H2 H3 ∧ H3 d = some (.lst (unsI F G i))) ⟨same_upd nd, upd_same⟩ ?_ ?_
        · rintro i H3 hi ⟨s3, ed⟩
          have s23 := s2.trans s3
          obtain ⟨v3, hg3, hv3⟩ := (ht.same s23).get hG
          obtain ⟨a3, ys3, rfl, hys3, hpy3⟩ := id hv3
          have hi3 : i < ys3.length := by rw [hpy3.length, ← hlG]; exact hi
          obtain ⟨g, hgg, gv⟩ := paired_get hpy3 (List.getElem?_eq_getElem hi3)
          refine ⟨rfl, .ref M, rfl, .ref a1, rfl, .ref a, rfl, .ref c, rfl, c, _, _, _, rfl, rfl, s23.sqt hc, atI_nat (j := 2) rfl, a, .ref a3, rfl, hg3, .int _, rfl, a3, _, _, _, rfl, rfl, hys3, by rw [Int.zero_add]; exact atI_nat (List.getElem?_eq_getElem hi3), M, .ref a1, _, F, g, n, rfl, hn, hM.same s23, hv.ts s23.ts, gv, fo.by_, hcomp, go.p0 g (List.mem_of_getElem? hgg), fun H4 s4 => ⟨_, rfl, ?_⟩⟩
          have ed4 := s4 _ _ ed
          have es := unsI_succ (F := F) hgg
          have hll := unsI_len F G i
          cases hs : sureB F g with
          | true =>
            rw [hs, if_pos rfl] at es
            exact iteF ⟨s3.trans s4, by rw [es]; exact ed4⟩
          | false =>
            rw [hs, if_neg Bool.false_ne_true] at es
            refine iteT ⟨.int _, rfl, _, ed4, small1000 (by omega), same_set (s3.trans s4) nd, ?_⟩
            rw [upd_same, es, Int.zero_add]
        · rintro H3 ⟨s3, ed⟩
          rw [hlG] at ed
          have s23 := s2.trans s3
          refine ⟨.ref d, rfl, 1, rfl, d, _, rfl, .inl (.inl ed), fun r nr => ?_⟩
          refine q _ r _ (s23.trans (same_upd nr)) upd_same ?_
          rw [truthS_much, eF, eG, if_pos hcomp, unsI_head]
          rw [show (1 : Int) = ((1 : Nat) : Int) from rfl, cut_lo]
          cases unsure F G with
          | nil => rfl
          | cons k r => exact ⟨_, rfl, rfl⟩
    | tog x y =>
      obtain ⟨F, hF⟩ := huk.nm x (by simp [Vow.names])
      obtain ⟨G, hG⟩ := huk.nm y (by simp [Vow.names])
      obtain ⟨v, hg, hv⟩ := ht.get hF
      obtain ⟨v2, hg2, hv2⟩ := ht.get hG
      have fo := htk.get hF
      have go := htk.get hG
      have eF : (getF tab x).getD [] = F := by rw [hF]; rfl
      have eG : (getF tab y).getD [] = G := by rw [hG]; rfl
      refine ⟨.ref a, rfl, .ref c, rfl, c, _, _, _, rfl, rfl, hc, atI_nat (j := 1) rfl, a, v, rfl, hg, ?_⟩
      refine ⟨.ref c, rfl, c, _, _, _, rfl, rfl, hc, atI_nat (j := 0) rfl, rfl, _, rfl, ifT (by decide +kernel) ?_⟩
      refine ⟨.ref M, rfl, v, rfl, .ref a, rfl, .ref c, rfl, c, _, _, _, rfl, rfl, hc, atI_nat (j := 2) rfl, a, v2, rfl, hg2, ?_⟩
      obtain ⟨a1, xs, rfl, hxs, hp1⟩ := hv
      obtain ⟨a2, ys2, rfl, hys2, hp2⟩ := hv2
      have l1 : xs.length ≤ 4 := by rw [hp1.length]; exact fo.len
      have l2 : ys2.length ≤ 4 := by rw [hp2.length]; exact go.len
      have bigL : 2000 ≤ sizeLine := by decide
      refine catA_one rfl rfl hxs hys2 (by omega) fun p0 H0 s0 h0 => ?_
      have hp12 : Paired (FactV K H0) (xs ++ ys2) (F ++ G) := Paired.mapP (paired_append hp1 hp2) fun _ _ z => z.ts s0.ts
      have hby : By n (F ++ G) := fun f hf => by
        rcases List.mem_append.mp hf with hf | hf
        · exact fo.by_ f hf
        · exact go.by_ f hf
      refine ⟨M, _, F ++ G, n, rfl, hn, hM.same s0, ⟨p0, _, rfl, h0, hp12⟩, hby, by rw [← hp12.length, List.length_append]; omega, fun H1 p ys s1 ep hys => ?_⟩
      have s2 := s0.trans s1
      refine ⟨.ref p, rfl, Nat.zero_le _, fun l nl => ⟨p, l, ys, rfl, rfl, .inl (.inl (same_upd nl _ _ ep)), .inl (.inl upd_same), _, rfl, ?_⟩⟩
      have s3 := s2.trans (same_upd (o := .lst []) nl)
      have ep3 := same_upd (o := .lst []) nl _ _ ep
      generalize upd H1 l (.lst []) = H3 at s3 ep3 ⊢
      cases hfq : firstQ (F ++ G) with
      | none =>
        rw [hfq] at hys
        have hys' : ys = [] := hys
        subst hys'
        refine iteF ⟨Nat.zero_le _, fun r nr => ?_⟩
        refine q _ r _ (s3.trans (same_upd nr)) upd_same ?_
        rw [truthS_tog, eF, eG, hfq]
        rfl
      | some pr =>
        rw [hfq] at hys
        have hys' : ys = [.int (pr.1 : Nat), .int (pr.2 : Nat)] := hys
        subst hys'
        refine iteT ⟨.ref p, rfl, p, _, rfl, .inl ⟨.inl (.inl ep3), fun t nt => ⟨by show 1 ≤ sizeLine; decide, fun r nr => ?_⟩⟩⟩
        refine q _ r _ ((s3.trans (same_upd nt)).trans (same_upd nr)) upd_same ?_
        rw [truthS_tog, eF, eG, hfq]
        exact ⟨_, rfl, t, rfl, .inl (.inl (same_upd nr _ _ upd_same))⟩
end
end Kr

set_option Elab.async false
set_option linter.all false
set_option maxRecDepth 100000
set_option maxHeartbeats 4000000
/-! The law's drawn promises and jobs. -/
namespace Kr
open PySem PySem.Spec PyProof.Rows L2
/-- a promise's numbers are not too great -/
structure UB (u : Vow) : Prop where
  b : ∀ a f, u = .sure a f → 0 ≤ f.p ∧ f.p ≤ 12 ∧ -big ≤ f.s ∧ f.s ≤ big ∧ -big ≤ f.l ∧ f.l ≤ big
theorem UB.p0 {u : Vow} (h : UB u) : ∀ a f, u = .sure a f → 0 ≤ f.p := fun a f e => (h.b a f e).1
theorem UB.much (a b : Str) : UB (.much a b) := ⟨fun _ _ e => nomatch e⟩
theorem UB.tog (a b : Str) : UB (.tog a b) := ⟨fun _ _ e => nomatch e⟩
theorem strs_ne {H : Hp} {W p : Addr} {zs : List Str} (e : H W = some (.lst (zs.map V.str))) (v : Vial H p) : W ≠ p := fun h => by
  obtain ⟨a, b, h3, _⟩ := v
  rw [h, h3] at e
  have e2 := Option.some.inj e
  simp only [HO.lst.injEq] at e2
  cases zs with
  | nil => cases e2
  | cons z r =>
    rw [List.map_cons] at e2
    cases e2
section
variable {P : Program} {w : World} {K : PySem.W.Frag} {mg : Str → Option Value} {base : Heap}
def spLVow (K : PySem.W.Frag) : Sp := fun vs H Q _ => ∃ (p M W : Addr) (n : Nat) (zs : List Str), vs = [.ref p, .ref M, .ref W] ∧ Vial H p ∧ Base n ∧ MapsAt K H M n ∧ H W = some (.lst (zs.map V.str)) ∧ zs ≠ [] ∧ zs.length ≤ 1000 ∧
  ∀ H' v u, Fr [p] H H' → Vial H' p → VowV K H' v u → UB u → (∀ x ∈ u.names, x ∈ zs) → Q v H'
theorem sc_l_vow : FnScope ["_law_vial_here", "_law_maps_here", "_law_words_here", "_law_a", "_law_b", "_law_way", "_law_spot", "_law_low", "_law_part"] ["_law_vial_here", "_law_maps_here", "_law_words_here"] (defScope s_l_vow) := ⟨rfl, rfl, rfl, by decide +kernel, rfl, by decide +kernel, by decide +kernel⟩
theorem l_vow_ok (D : DefIn K mg "_law_vow" s_l_vow) (T : Fre mg) (D_l_drop : DOk P w K mg base CX0 1 "_law_drop" ["_law_vial_here", "_law_size"] spDrop) (D_l_any : DOk P w K mg base CX0 2 "_law_any" ["_law_vial_here", "_law_some"] (spAny K)) (D_l_fact : DOk P w K mg base CX0 3 "_law_fact" ["_law_vial_here", "_law_size"] (spLFact K)) : DOk P w K mg base CX0 4 "_law_vow" ["_law_vial_here", "_law_maps_here", "_law_words_here"] (spLVow K) := by
  refine D.ok sc_l_vow (fun vs H Q E h => ?_) (fun _ _ _ _ _ _ us hl => match us, hl with | [_, _, _], _ => rfl) (fun cdv A outer s H vs Q E hr h => ?_)
  · obtain ⟨_, _, _, _, _, rfl, _⟩ := h
    rfl
  · obtain ⟨p, M, W, n, zs, rfl, hv, hn, hM, eW, hz, hzl, q⟩ := h
    refine ⟨_, (pss_cons (ps_par (i := 3) (j := 4) rfl sc_l_vow.nd rfl rfl (by decide) rfl rfl (pa_cons (pe_fn D_l_any hr (pa_cons (pv 0) (pa_cons (pv 2) pa_nil))) (pa_cons (pe_fn D_l_any hr (pa_cons (pv 0) (pa_cons (pv 2) pa_nil))) pa_nil)) (by rfl))
      (pss_cons (ps_set (i := 5) sc_l_vow.nd rfl (.inl rfl) (pe_fn D_l_drop hr (pa_cons (pv 0) (pa_cons pe_int pa_nil))))
      (pss_cons (ps_if (pt_cmpR op_lt (pv 5) pe_int (nomark _)) (pss_cons (ps_asg (pe_fn D_l_fact hr (pa_cons (pv 0) (pa_cons (pe_callB call_len_seq (by rfl) T.len_ (by decide +kernel) (pa_cons (pe_ix ix_list (pv 1) pe_int (fun _ _ => rfl)) pa_nil)) pa_nil))) (pg_tup rfl (pgs_cons (pg_name (i := 6) sc_l_vow.nd rfl (.inl rfl)) (pgs_cons (pg_name (i := 7) sc_l_vow.nd rfl (.inl rfl)) (pgs_cons (pg_name (i := 8) sc_l_vow.nd rfl (.inl rfl)) pgs_nil)))))
        (pss_one (ps_ret (pe_tup (pa_cons pe_str (pa_cons (pv 3) (pa_cons (pv 6) (pa_cons (pv 7) (pa_cons (pe_fn D_l_any hr (pa_cons (pv 0) (pa_cons (pe_lst (pa_cons (pv 8) (pa_cons (pv 8) (pa_cons (pv 8) (pa_cons pe_int (pa_cons (pe_op op_mul pe_int (pe_callB call_len_seq (by rfl) T.len_ (by decide +kernel) (pa_cons (pe_ix ix_list (pv 1) pe_int (fun _ _ => rfl)) pa_nil))) pa_nil)))))) pa_nil))) pa_nil))))))))) pss_nil)
      (pss_one (ps_ret (pe_ifExp (pt_cmpR op_eq (pv 5) pe_int (nomark _)) (pe_tup (pa_cons pe_str (pa_cons (pv 3) (pa_cons (pv 4) pa_nil)))) (pe_tup (pa_cons pe_str (pa_cons (pv 3) (pa_cons (pv 4) pa_nil)))))))))), ?_⟩
    have n6 := hn.le
    have n0 := hn.pos
    have elim : lim = 100000000000000000000000000000 := rfl
    have nWp := strs_ne eW hv
    have hzm : zs.map V.str ≠ [] := fun e => hz (List.map_eq_nil_iff.mp e)
    have hzml : (zs.map V.str).length ≤ 1000 := by rw [List.length_map]; exact hzl
    refine ⟨.ref p, rfl, .ref W, rfl, p, W, _, rfl, hv, .inl (.inl eW), nWp, hzm, hzml, fun H1 y1 f1 v1 hy1 => ?_⟩
    obtain ⟨a, ha, rfl⟩ := List.mem_map.mp hy1
    have eW1 := f1 _ _ (by simpa using nWp) eW
    refine ⟨.ref p, rfl, .ref W, rfl, p, W, _, rfl, v1, .inl (.inl eW1), nWp, hzm, hzml, fun H2 y2 f2 v2 hy2 => ⟨_, _, rfl, ?_⟩⟩
    obtain ⟨b, hb, rfl⟩ := List.mem_map.mp hy2
    have f12 := f1.trans f2
    refine ⟨.ref p, rfl, p, 4, rfl, v2, by decide, by decide, fun H3 way f3 v3 w0 w1 => ?_⟩
    have f13 := f12.trans f3
    have hM3 := hM.draw hn hv f13
    refine ⟨.int way, rfl, _, _, rfl, rfl, _, rfl, ite2 (fun hw => ?_) fun hw => ?_⟩
    · obtain ⟨ys, a0, m0, eM, h0, ha0, hm0, _⟩ := hM3.first hn
      refine ⟨.ref p, rfl, .ref M, rfl, M, _, _, _, rfl, rfl, .inl (.inl eM), atI_nat (j := 0) h0, a0, _, rfl, .inr ha0, ?_⟩
      have hnl : ((m0.map V.int).length : Int) = (n : Nat) := by rw [List.length_map, hm0]
      refine ⟨p, n, by rw [hnl]; rfl, v3, hn, fun H4 c f f4 v4 hc fo => ?_⟩
      have f14 := f13.trans f4
      refine ⟨c, _, rfl, hc, rfl, _, _, rfl, _, _, rfl, _, _, rfl, rfl, ?_⟩
      have hM4 := hM.draw hn hv f14
      obtain ⟨ys4, a4, m4, eM4, h4, ha4, hm4, _⟩ := hM4.first hn
      refine ⟨.str a, rfl, .int f.s, rfl, .int f.l, rfl, .ref p, rfl, .int f.p, rfl, .int f.p, rfl, .int f.p, rfl, .ref M, rfl, M, _, _, _, rfl, rfl, .inl (.inl eM4), atI_nat (j := 0) h4, a4, _, rfl, .inr ha4, _, _, rfl, rfl, .inl ⟨by decide, by decide⟩, by show 5 ≤ sizeLine; decide, fun k nk => ?_⟩
      have nkp := (f14.fresh v4 nk).2
      refine ⟨p, k, _, rfl, v4.same (same_upd nk), .inl (.inl upd_same), nkp, (fun z => nomatch z), by show 5 ≤ 1000; decide, fun H5 z f5 v5 hz5 => ?_⟩
      have f15 := (f14.new nk).trans f5
      have pl : f.p ≤ n := Int.le_of_dvd (by omega) fo.pn
      have p0 := fo.p0
      have hl4 : ((m4.map V.int).length : Int) = n := by rw [List.length_map, hm4]
      obtain ⟨e, rfl, e0, e1⟩ : ∃ e : Int, z = .int e ∧ 0 ≤ e ∧ e ≤ 12 := by
        rw [hl4] at hz5
        simp only [List.mem_cons, List.not_mem_nil, or_false] at hz5
        rcases hz5 with rfl | rfl | rfl | rfl | rfl
        · exact ⟨_, rfl, by omega, by omega⟩
        · exact ⟨_, rfl, by omega, by omega⟩
        · exact ⟨_, rfl, by omega, by omega⟩
        · exact ⟨_, rfl, by omega, by omega⟩
        · exact ⟨_, rfl, by omega, by omega⟩
      refine ⟨by show 5 ≤ sizeLine; decide, fun r nr => ?_⟩
      refine q _ _ (.sure a ⟨f.s, f.l, e⟩) (f15.new nr) (v5.same (same_upd nr)) ⟨r, rfl, .inl (.inl upd_same)⟩ ⟨fun a' f' ee => ?_⟩ fun x hx => ?_
      · cases ee
        have := fo.s0
        have := fo.s1
        have := fo.l0
        have := fo.l1
        dsimp only
        rw [big_eq]
        omega
      · have : x = a := by simpa [Vow.names] using hx
        rw [this]
        exact ha
    · refine ⟨.int way, rfl, rfl, _, rfl, ite2 (fun h2 => ?_) fun h2 => ?_⟩
      · refine ⟨.str a, rfl, .str b, rfl, by show 3 ≤ sizeLine; decide, fun r nr => ?_⟩
        refine q _ _ (.much a b) (f13.new nr) (v3.same (same_upd nr)) ⟨r, rfl, .inl (.inl upd_same)⟩ (.much a b) fun x hx => ?_
        have hx' : x = a ∨ x = b := by simpa [Vow.names] using hx
        rcases hx' with rfl | rfl
        · exact ha
        · exact hb
      · refine ⟨.str a, rfl, .str b, rfl, by show 3 ≤ sizeLine; decide, fun r nr => ?_⟩
        refine q _ _ (.tog a b) (f13.new nr) (v3.same (same_upd nr)) ⟨r, rfl, .inl (.inl upd_same)⟩ (.tog a b) fun x hx => ?_
        have hx' : x = a ∨ x = b := by simpa [Vow.names] using hx
        rcases hx' with rfl | rfl
        · exact ha
        · exact hb
theorem TabAt.draw {K : PySem.W.Frag} {H H' : Hp} {t p : Addr} {tab : Tab} (h : TabAt K H t tab) (v : Vial H p) (e : Fr [p] H H') : TabAt K H' t tab := h.ts (e.ts v.noT)
theorem getF_key {tab : Tab} {x : Str} (h : x ∈ keys tab) : ∃ F, getF tab x = some F := by
  refine Option.isSome_iff_exists.mp ?_
  rw [← getF_any]
  obtain ⟨p, hp, e⟩ := List.mem_map.mp h
  exact List.any_eq_true.mpr ⟨p, hp, decide_eq_true e⟩
def spLTrue (K : PySem.W.Frag) : Sp := fun vs H Q _ => ∃ (p M t : Addr) (n : Nat) (tab : Tab), vs = [.ref p, .ref M, .ref t] ∧ Vial H p ∧ Base n ∧ MapsAt K H M n ∧ TabAt K H t tab ∧ TOk n tab ∧ tab ≠ [] ∧ tab.length < 64 ∧
  ∀ H' v u, Fr [p] H H' → Vial H' p → VowV K H' v u → UB u → (∀ x ∈ u.names, x ∈ keys tab) → Q v H'
theorem sc_l_true_vow : FnScope ["_law_vial_here", "_law_maps_here", "_law_table", "_law_words_here", "_law_found", "_law_low", "_law_part"] ["_law_vial_here", "_law_maps_here", "_law_table"] (defScope s_l_true_vow) := ⟨rfl, rfl, rfl, by decide +kernel, rfl, by decide +kernel, by decide +kernel⟩
theorem l_true_vow_ok (D : DefIn K mg "_law_true_vow" s_l_true_vow) (T : Fre mg) (D_l_drop : DOk P w K mg base CX0 1 "_law_drop" ["_law_vial_here", "_law_size"] spDrop) (D_l_fitting : DOk P w K mg base CX0 2 "_law_fitting" ["_law_maps_here", "_law_heap_here"] (spFitT K))
    (D_l_seen : DOk P w K mg base CX0 3 "_law_seen" ["_law_maps_here", "_law_heap_here", "_law_spot"] (spSeen K)) (D_l_vow : DOk P w K mg base CX0 4 "_law_vow" ["_law_vial_here", "_law_maps_here", "_law_words_here"] (spLVow K)) : DOk P w K mg base CX0 5 "_law_true_vow" ["_law_vial_here", "_law_maps_here", "_law_table"] (spLTrue K) := by
  refine D.ok sc_l_true_vow (fun vs H Q E h => ?_) (fun _ _ _ _ _ _ us hl => match us, hl with | [_, _, _], _ => rfl) (fun cdv A outer s H vs Q E hr h => ?_)
  · obtain ⟨_, _, _, _, _, rfl, _⟩ := h
    rfl
  · obtain ⟨p, M, t, n, tab, rfl, hv, hn, hM, ht, htk, hne, hlen, q⟩ := h
    have hu := hu_of hr
    have hu0 := Nat.lt_of_succ_lt hu
    refine ⟨_, (pss_cons (ps_set (i := 3) sc_l_true_vow.nd rfl (.inl rfl) (pe_callB (call_sortedD rfl) (by rfl) T.sorted (by decide +kernel) (pa_cons (pv 2) pa_nil)))
      (pss_cons (ps_set (i := 4) sc_l_true_vow.nd rfl (.inl rfl) (pe_fn D_l_vow hr (pa_cons (pv 0) (pa_cons (pv 1) (pa_cons (pv 3) pa_nil)))))
      (pss_cons (ps_if (PW.pt (pw_or (pt_cmpR op_ne (pe_ix ix_tup (pv 4) pe_int (fun _ _ => rfl)) pe_str (nomark _)) (pw_or (pt_cmpR (op_eq0L hu0) (pe_fn D_l_fitting hr (pa_cons (pv 1) (pa_cons (pe_dget hu (pv 2) (pe_ix ix_tup (pv 4) pe_int (fun _ _ => rfl)) (fun _ _ => rfl)) pa_nil))) (pe_lst pa_nil) (nomark _)) (pw_or1 (pt_cmpR op_eq (pe_fn D_l_drop hr (pa_cons (pv 0) (pa_cons pe_int pa_nil))) pe_int (nomark _)))))) (pss_one (ps_ret (pv 4))) pss_nil)
      (pss_cons (ps_asg (pe_fn D_l_seen hr (pa_cons (pv 1) (pa_cons (pe_dget hu (pv 2) (pe_ix ix_tup (pv 4) pe_int (fun _ _ => rfl)) (fun _ _ => rfl)) (pa_cons (pe_ix ix_tup (pv 4) pe_int (fun _ _ => rfl)) pa_nil)))) (pg_tup rfl (pgs_cons (pg_name (i := 5) sc_l_true_vow.nd rfl (.inl rfl)) (pgs_cons (pg_name (i := 6) sc_l_true_vow.nd rfl (.inl rfl)) pgs_nil))))
      (pss_one (ps_ret (pe_tup (pa_cons pe_str (pa_cons (pe_ix ix_tup (pv 4) pe_int (fun _ _ => rfl)) (pa_cons (pe_ix ix_tup (pv 4) pe_int (fun _ _ => rfl)) (pa_cons (pe_op op_add (pv 5) (pe_op op_mul (pv 6) (pe_op op_sub (pe_fn D_l_drop hr (pa_cons (pv 0) (pa_cons pe_int pa_nil))) pe_int))) (pa_cons (pv 6) pa_nil)))))))))))), ?_⟩
    obtain ⟨kvs, et, tv⟩ := id ht
    have hkl : (keys tab).length = tab.length := by unfold keys; rw [List.length_map]
    refine ⟨.ref t, rfl, t, kvs, keys tab, rfl, .inl et, tv.keys, by rw [hkl]; exact hlen, fun ys W perm srt nW => ?_⟩
    have s1 := same_upd (o := .lst (ys.map V.str)) nW
    have hyl : ys.length = tab.length := by rw [perm.length_eq, hkl]
    have hyne : ys ≠ [] := fun e => by
      rw [e] at hyl
      exact hne (List.length_eq_zero_iff.mp hyl.symm)
    refine ⟨.ref p, rfl, .ref M, rfl, .ref W, rfl, p, M, W, n, ys, rfl, hv.same s1, hn, hM.same s1, upd_same, hyne, by omega, fun H1 v u f1 v1 hvu ub hun => ?_⟩
    have f2 := (s1.fr [p]).trans f1
    have hun' : ∀ x ∈ u.names, x ∈ keys tab := fun x hx => perm.mem_iff.mp (hun x hx)
    have done := q H1 v u f2 v1 hvu ub hun'
    obtain ⟨c, rfl, hc⟩ := id hvu
    have ht1 := ht.draw hv f2
    have hM1 := hM.draw hn hv f2
    cases u with
    | much x y => exact ⟨.ref c, rfl, c, _, _, _, rfl, rfl, hc, atI_nat (j := 0) rfl, rfl, _, rfl, ifT (by decide +kernel) (iteT ⟨.ref c, rfl, done⟩)⟩
    | tog x y => exact ⟨.ref c, rfl, c, _, _, _, rfl, rfl, hc, atI_nat (j := 0) rfl, rfl, _, rfl, ifT (by decide +kernel) (iteT ⟨.ref c, rfl, done⟩)⟩
    | sure x f =>
      have hx := hun' x (by simp [Vow.names])
      obtain ⟨F, hF⟩ := getF_key hx
      have fo := htk.get hF
      obtain ⟨v2, hg, hv2⟩ := ht1.get hF
      obtain ⟨a1, xs, rfl, hxs, hpx⟩ := id hv2
      refine ⟨.ref c, rfl, c, _, _, _, rfl, rfl, hc, atI_nat (j := 0) rfl, rfl, _, rfl, ifF (by decide +kernel) ?_⟩
      refine ⟨.ref M, rfl, .ref t, rfl, .ref c, rfl, c, _, _, _, rfl, rfl, hc, atI_nat (j := 1) rfl, t, .ref a1, rfl, hg, M, a1, xs, F, n, rfl, hn, hM1, hxs, hpx, fun f hf => (fo.by_ f hf).1, fun H2 g ys2 s2 eg hys2 => ?_⟩
      refine ⟨Nat.zero_le _, fun l nl => ⟨g, l, ys2, rfl, rfl, .inl (.inl (same_upd nl _ _ eg)), .inl (.inl upd_same), _, rfl, ?_⟩⟩
      have s3 := s2.trans (same_upd (o := .lst []) nl)
      generalize upd H2 l (.lst []) = H3 at s3 ⊢
      have v3 := v1.same s3
      have f3 := f2.trans (s3.fr [p])
      rcases fit_empty hn fo.by_ hys2 with ⟨he, hcomp⟩ | ⟨he, hcomp⟩
      · exact ifT he (iteT ⟨.ref c, rfl, q H3 _ (.sure x f) f3 v3 (hvu.ts s3.ts) ub hun'⟩)
      · refine ifF he ⟨.ref p, rfl, p, 4, rfl, v3, by decide, by decide, fun H4 d4 f4 v4 a4 b4 => ⟨rfl, _, rfl, ite2 (fun h0 => ?_) fun h0 => ?_⟩⟩
        · exact ⟨.ref c, rfl, q H4 _ (.sure x f) (f3.trans f4) v4 ((hvu.ts s3.ts).ts (f4.ts v3.noT)) ub hun'⟩
        · have f34 := f3.trans f4
          have ts4 := s3.ts.trans (f4.ts v3.noT)
          have hc4 := ts4.sqt hc
          obtain ⟨v5, hg5, hv5⟩ := (ht.draw hv f34).get hF
          refine ⟨.ref M, rfl, .ref t, rfl, .ref c, rfl, c, _, _, _, rfl, rfl, hc4, atI_nat (j := 1) rfl, t, v5, rfl, hg5, .ref c, rfl, c, _, _, _, rfl, rfl, hc4, atI_nat (j := 2) rfl, M, v5, f.s, F, n, rfl, hn, hM.draw hn hv f34, hv5, fo.by_, hcomp, fun H5 k s5 ek => ?_⟩
          have hc5 := s5.sqt hc4
          have v5' := v4.same s5
          refine ⟨k, _, rfl, .inl (.inl ek), rfl, _, _, rfl, _, _, rfl, rfl, ?_⟩
          have ki := known_of (By.parts hn fo.by_) hcomp f.s
          have kd0 := ki.d.1
          have kd1 := ki.d.le
          have klo := ki.lo
          have khi := ki.hi
          refine ⟨.ref c, rfl, c, _, _, _, rfl, rfl, hc5, atI_nat (j := 1) rfl, .ref c, rfl, c, _, _, _, rfl, rfl, hc5, atI_nat (j := 2) rfl, .int _, rfl, .int _, rfl, .ref p, rfl, p, 5, rfl, v5', by decide, by decide, fun H6 d6 f6 v6 a6 b6 => ?_⟩
          refine ⟨_, _, rfl, rfl, _, _, rfl, rfl, .inl ⟨by omega, by omega⟩, _, _, rfl, rfl, .int _, rfl, by show 5 ≤ sizeLine; decide, fun r nr => ?_⟩
          have m1 : -(12 * 2) ≤ (knownOf F f.s).2 * (d6 - 2) := by
            have := Int.mul_le_mul_of_nonneg_left (show -2 ≤ d6 - 2 by omega) (Int.le_of_lt kd0)
            omega
          have m2 : (knownOf F f.s).2 * (d6 - 2) ≤ 12 * 2 := by
            have := Int.mul_le_mul_of_nonneg_left (show d6 - 2 ≤ 2 by omega) (Int.le_of_lt kd0)
            omega
          obtain ⟨_, _, us0, us1, _⟩ := ub.b x f rfl
          refine q _ _ (.sure x ⟨f.s, (knownOf F f.s).1 + (knownOf F f.s).2 * (d6 - 2), (knownOf F f.s).2⟩) (((f34.trans (s5.fr [p])).trans f6).new nr) (v6.same (same_upd nr)) ⟨r, rfl, .inl (.inl upd_same)⟩ ⟨fun a' f' ee => ?_⟩ hun'
          cases ee
          dsimp only
          refine ⟨by omega, by omega, us0, us1, ?_, ?_⟩ <;> rw [big_eq] <;> omega
end
end Kr

set_option Elab.async false
set_option linter.all false
set_option maxRecDepth 100000
set_option maxHeartbeats 4000000
/-! Data whose repr is short; the texts of errors. -/
namespace Kr
open PySem PySem.Spec PyProof.Rows L2
/-- data of a small depth and bulk, with short numbers -/
structure Nd (d : PyData) (dep b : Nat) : Prop where
  short : d.leavesShort 40 = true
  sh : d.showable = true
  nd : d.hasDict = false
  dp : d.depth ≤ dep
  bk : d.bulk ≤ b
structure NdAll (ds : List PyData) (dep b : Nat) : Prop where
  short : PyData.leavesShortAll 40 ds = true
  sh : PyData.showableAll ds = true
  nd : PyData.hasDictAll ds = false
  dp : PyData.depthAll ds ≤ dep
  bk : PyData.bulkAll ds ≤ b
theorem Nd.len {d : PyData} {dep b : Nat} (h : Nd d dep b) (hb : b ≤ 100000) : d.shown.length ≤ sizeLine := by
  have h1 := PyData.shown_le_bulk 40 (by decide) d h.short
  have h2 : (40 + 2) * d.bulk ≤ 42 * 100000 := Nat.mul_le_mul (by decide) (Nat.le_trans h.bk hb)
  rw [sizeLine_eq]
  omega
theorem Nd.non : Nd .none 0 0 := ⟨by simp only [PyData.leavesShort], by simp only [PyData.showable], by simp only [PyData.hasDict], by simp only [PyData.depth]; exact Nat.le_refl _, by simp only [PyData.bulk]; exact Nat.le_refl _⟩
abbrev top31 : Int := 10000000000000000000000000000000
theorem Nd.int {i : Int} (h1 : -top31 ≤ i) (h2 : i ≤ top31) : Nd (.int i) 0 0 := by
  have ht : top31 = 10000000000000000000000000000000 := rfl
  refine ⟨?_, ?_, by simp only [PyData.hasDict], by simp only [PyData.depth]; exact Nat.le_refl _, by simp only [PyData.bulk]; exact Nat.le_refl _⟩
  · simp only [PyData.leavesShort]
    refine decide_eq_true ?_
    have e : (10 : Nat) ^ 32 = 100000000000000000000000000000000 := by decide
    have e2 := int_text_length_le10 (a := i) (k := 32) (by decide) (by rw [e]; omega)
    have e3 : (PyData.shown (.int i)).length ≤ 33 := by
      show (Str.ofString (toString i)).length ≤ 33
      rw [PySem.ofString_length]
      exact e2
    omega
  · simp only [PyData.showable]
    refine decide_eq_true ?_
    by_cases h0 : i.natAbs = 0
    · rw [h0]
      decide
    · refine (Nat.log2_lt h0).mpr ?_
      have : i.natAbs < 2 ^ 200 := by
        have e : (2 : Nat) ^ 200 = 1606938044258990275541962092341162602522202993782792835301376 := by decide
        rw [e]
        omega
      refine Nat.lt_of_lt_of_le this ?_
      have q : ∀ k : Nat, 200 ≤ k → 2 ^ 200 ≤ 2 ^ k := fun k hk => Nat.pow_le_pow_right (by decide) hk
      exact q _ (by decide)
theorem Nd.str {x : Str} {b : Nat} (h : ∀ c ∈ x.cps.toList, c < 16 ^ 8) (hb : x.cps.size ≤ b) : Nd (.str x) 0 b := by
  refine ⟨?_, by simp only [PyData.showable], by simp only [PyData.hasDict], by simp only [PyData.depth]; exact Nat.le_refl _, by simp only [PyData.bulk]; exact hb⟩
  simp only [PyData.leavesShort]
  exact List.all_eq_true.mpr fun c hc => decide_eq_true (h c hc)
theorem letters_small : ∀ c ∈ lettersS.cps.toList, c < 16 ^ 8 := fun c hc => of_decide_eq_true (List.all_eq_true.mp (show (lettersS.cps.toList.all fun c => decide (c < 16 ^ 8)) = true by decide +kernel) c hc)
theorem GoodName.nd {z : Str} (h : GoodName z) : Nd (.str z) 0 8 := Nd.str (fun c hc => letters_small c (h.ok c hc)) h.hi
theorem NdAll.nil (dep b : Nat) : NdAll [] dep b := ⟨by simp only [PyData.leavesShortAll], by simp only [PyData.showableAll], by simp only [PyData.hasDictAll], by simp only [PyData.depthAll]; exact Nat.zero_le _, by simp only [PyData.bulkAll]; exact Nat.zero_le _⟩
theorem NdAll.cons {d : PyData} {ds : List PyData} {dep b1 b2 b : Nat} (h : Nd d dep b1) (t : NdAll ds dep b2) (hb : b1 + 1 + b2 ≤ b) : NdAll (d :: ds) dep b := by
  refine ⟨?_, ?_, ?_, ?_, ?_⟩
  · simp only [PyData.leavesShortAll, h.short, t.short, Bool.and_self]
  · simp only [PyData.showableAll, h.sh, t.sh, Bool.and_self]
  · simp only [PyData.hasDictAll, h.nd, t.nd, Bool.or_self]
  · simp only [PyData.depthAll]
    exact Nat.max_le.mpr ⟨h.dp, t.dp⟩
  · simp only [PyData.bulkAll]
    have := h.bk
    have := t.bk
    omega
theorem NdAll.list {ds : List PyData} {dep b : Nat} (h : NdAll ds dep b) : Nd (.list ds) (dep + 1) b :=
  ⟨by simp only [PyData.leavesShort]; exact h.short, by simp only [PyData.showable]; exact h.sh, by simp only [PyData.hasDict]; exact h.nd, by simp only [PyData.depth]; have := h.dp; omega, by simp only [PyData.bulk]; exact h.bk⟩
theorem NdAll.tuple {ds : List PyData} {dep b : Nat} (h : NdAll ds dep b) : Nd (.tuple ds) (dep + 1) b :=
  ⟨by simp only [PyData.leavesShort]; exact h.short, by simp only [PyData.showable]; exact h.sh, by simp only [PyData.hasDict]; exact h.nd, by simp only [PyData.depth]; have := h.dp; omega, by simp only [PyData.bulk]; exact h.bk⟩
theorem Nd.mono {d : PyData} {p b p' b' : Nat} (h : Nd d p b) (hp : p ≤ p') (hb : b ≤ b') : Nd d p' b' := ⟨h.short, h.sh, h.nd, Nat.le_trans h.dp hp, Nat.le_trans h.bk hb⟩
theorem NdAll.of {ds : List PyData} {dep m : Nat} (h : ∀ d ∈ ds, Nd d dep m) : NdAll ds dep (ds.length * (m + 1)) := by
  induction ds with
  | nil => exact .nil _ _
  | cons d ds ih =>
    refine .cons (h d List.mem_cons_self) (ih fun e he => h e (List.mem_cons_of_mem _ he)) ?_
    rw [List.length_cons, Nat.succ_mul]
    omega
/-- the rule for repr, short -/
theorem repr_ok {K : PySem.W.Frag} {H : Hp} {Q : VK} {v : V} {d : PyData} {dep b : Nat} (h : Dp K H v d) (n : Nd d dep b) (hd : dep ≤ 60) (hb : b ≤ 100000) (q : Q (.str d.shown) H) : rRepr K [v] H Q :=
  ⟨v, d, rfl, h, n.sh, n.nd, Nat.le_trans n.dp hd, n.len hb, q⟩
/-! ### the data -/
def factD (f : Fct) : PyData := .tuple [.int f.s, .int f.l, .int f.p]
def factsD (F : List Fct) : PyData := .tuple (F.map factD)
def Vow.d : Vow → PyData
  | .sure a f => .tuple [.str "sure", .str a, .int f.s, .int f.l, .int f.p]
  | .much a b => .tuple [.str "as much", .str a, .str b]
  | .tog a b => .tuple [.str "together", .str a, .str b]
def Shown.d : Shown → PyData
  | .non => .none
  | .pair i j => .tuple [.int (i : Nat), .int (j : Nat)]
  | .rest z m => .tuple [.int z, .int m]
  | .idx k => .int (k : Nat)
section
variable {K : PySem.W.Frag} {H : Hp}
theorem FactV.dp {v : V} {f : Fct} (h : FactV K H v f) : Dp K H v (factD f) := by
  obtain ⟨a, rfl, h⟩ := h
  exact .tup h (.cons (.int _) (.cons (.int _) (.cons (.int _) .nil)))
theorem dpAll_of {α : Type} {R : V → α → Prop} {g : α → PyData} (hR : ∀ v a, R v a → Dp K H v (g a)) : ∀ {vs : List V} {as : List α}, Paired R vs as → DpAll K H vs (as.map g)
  | _, _, .nil => .nil
  | _, _, .cons r t => .cons (hR _ _ r) (dpAll_of hR t)
theorem FactsV.dp {v : V} {F : List Fct} (h : FactsV K H v F) : Dp K H v (factsD F) := by
  obtain ⟨a, xs, rfl, h, p⟩ := h
  exact .tup h (dpAll_of (fun _ _ r => r.dp) p)
theorem VowV.dp {v : V} {u : Vow} (h : VowV K H v u) : Dp K H v u.d := by
  obtain ⟨a, rfl, h⟩ := h
  cases u with
  | sure x f => exact .tup h (.cons (.str _) (.cons (.str _) (.cons (.int _) (.cons (.int _) (.cons (.int _) .nil)))))
  | much x y => exact .tup h (.cons (.str _) (.cons (.str _) (.cons (.str _) .nil)))
  | tog x y => exact .tup h (.cons (.str _) (.cons (.str _) (.cons (.str _) .nil)))
theorem ShownV.dp {v : V} {sh : Shown} (h : ShownV K H v sh) : Dp K H v sh.d := by
  cases sh with
  | non =>
    have h : v = .non := h
    subst h
    exact .non
  | idx k =>
    have h : v = .int k := h
    subst h
    exact .int _
  | pair i j =>
    obtain ⟨a, rfl, h⟩ := h
    exact .tup h (.cons (.int _) (.cons (.int _) .nil))
  | rest i j =>
    obtain ⟨a, rfl, h⟩ := h
    exact .tup h (.cons (.int _) (.cons (.int _) .nil))
end
theorem big_top : big ≤ top31 := by decide
theorem fact_nd {n : Nat} {F : List Fct} (hn : Base n) (h : FOk n F) {f : Fct} (hf : f ∈ F) : Nd (factD f) 1 3 := by
  obtain ⟨a, b, c, d⟩ := h.bd f hf
  have bt := big_top
  have p0 := (h.by_ f hf).1
  have p1 : f.p ≤ n := Int.le_of_dvd (by have := hn.pos; omega) (h.by_ f hf).2
  have n6 := hn.le
  have ht : top31 = 10000000000000000000000000000000 := rfl
  exact (NdAll.cons (Nd.int (by omega) (by omega)) (NdAll.cons (Nd.int (by omega) (by omega)) (NdAll.cons (Nd.int (by omega) (by omega)) (.nil 0 0) (Nat.le_refl _)) (Nat.le_refl _)) (Nat.le_refl _)).tuple
theorem facts_nd {n : Nat} {F : List Fct} (hn : Base n) (h : FOk n F) : Nd (factsD F) 2 16 := by
  refine (NdAll.of (dep := 1) (m := 3) fun d hd => ?_).tuple.mono (Nat.le_refl _) ?_
  · obtain ⟨f, hf, rfl⟩ := List.mem_map.mp hd
    exact fact_nd hn h hf
  · rw [List.length_map]
    have := h.len
    omega
theorem lit_nd {x : Str} {b : Nat} (h : (x.cps.toList.all fun c => decide (c < 16 ^ 8)) = true) (hb : x.cps.size ≤ b) : Nd (.str x) 0 b := Nd.str (fun c hc => of_decide_eq_true (List.all_eq_true.mp h c hc)) hb
theorem vow_nd {u : Vow} (ub : UB u) (g : ∀ x ∈ u.names, GoodName x) : Nd u.d 1 30 := by
  have bt := big_top
  have ht : top31 = 10000000000000000000000000000000 := rfl
  cases u with
  | sure x f =>
    obtain ⟨p0, p1, a, b, c, d⟩ := ub.b x f rfl
    have gx := (g x (by simp [Vow.names])).nd
    exact (NdAll.cons (lit_nd (b := 4) (by decide +kernel) (by decide)) (NdAll.cons gx (NdAll.cons (Nd.int (by omega) (by omega)) (NdAll.cons (Nd.int (by omega) (by omega)) (NdAll.cons (Nd.int (by omega) (by omega)) (.nil 0 0) (Nat.le_refl _)) (Nat.le_refl _)) (Nat.le_refl _)) (Nat.le_refl _)) (by decide)).tuple
  | much x y =>
    have gx := (g x (by simp [Vow.names])).nd
    have gy := (g y (by simp [Vow.names])).nd
    exact (NdAll.cons (lit_nd (b := 7) (by decide +kernel) (by decide)) (NdAll.cons gx (NdAll.cons gy (.nil 0 0) (Nat.le_refl _)) (Nat.le_refl _)) (by decide)).tuple
  | tog x y =>
    have gx := (g x (by simp [Vow.names])).nd
    have gy := (g y (by simp [Vow.names])).nd
    exact (NdAll.cons (lit_nd (b := 8) (by decide +kernel) (by decide)) (NdAll.cons gx (NdAll.cons gy (.nil 0 0) (Nat.le_refl _)) (Nat.le_refl _)) (by decide)).tuple
/-! ### the texts of errors -/
def brokenD (k : Nat) (sh : Shown) : PyData := .list [.int (k : Nat), sh.d]
def Er.word : Er → Str
  | .unknown _ => "unknown"
  | .use _ => "use"
  | .index _ => "index"
  | .broken _ _ => "broken"
  | .undo => "undo"
def Er.text : Er → Str
  | .unknown z => (PyData.str z).shown
  | .use k => (PyData.int (k : Nat)).shown
  | .index i => (PyData.int i).shown
  | .broken k sh => (brokenD k sh).shown
  | .undo => ""
/-- an error's numbers are not too great -/
def ErNd : Er → Prop
  | .unknown z => GoodName z
  | .use k => k ≤ 1000
  | .index i => -1000 ≤ i ∧ i ≤ 1000
  | .broken k sh => k ≤ 1000 ∧ Nd sh.d 1 2
  | .undo => True
theorem shown_nd {n : Nat} (hn : Base n) {tab : Tab} {u : Vow} (ht : TOk n tab) (hu : UOk tab u) {sh : Shown} (h : truthS tab u = some sh) : Nd sh.d 1 2 := by
  have ht31 : top31 = 10000000000000000000000000000000 := rfl
  have small : ∀ k : Nat, k ≤ 1000 → Nd (.int (k : Nat)) 0 0 := fun k hk => Nd.int (by omega) (by omega)
  cases u with
  | sure x f =>
    obtain ⟨F, hF⟩ := hu.nm x (by simp [Vow.names])
    have fo := ht.get hF
    rw [truthS_sure, hF] at h
    classical
    have h : (if Comp F then (if sureB F f = true then none else some (Shown.rest (knownOf F f.s).1 (knownOf F f.s).2)) else some Shown.non) = some sh := h
    split at h
    · rename_i hc
      split at h
      · cases h
      · cases h
        have ki := known_of (By.parts hn fo.by_) hc f.s
        have a := ki.d.le
        have b := ki.d.1
        have c := ki.lo
        have d := ki.hi
        exact (NdAll.cons (Nd.int (by omega) (by omega)) (NdAll.cons (Nd.int (by omega) (by omega)) (.nil 0 0) (Nat.le_refl _)) (Nat.le_refl _)).tuple
    · cases h
      exact Nd.non.mono (by decide) (by decide)
  | much x y =>
    obtain ⟨F, hF⟩ := hu.nm x (by simp [Vow.names])
    obtain ⟨G, hG⟩ := hu.nm y (by simp [Vow.names])
    rw [truthS_much, hF, hG] at h
    classical
    have h : (if Comp F then (unsure F G).head?.map Shown.idx else some Shown.non) = some sh := h
    split at h
    · cases hU : unsure F G with
      | nil =>
        rw [hU] at h
        cases h
      | cons k r =>
        rw [hU] at h
        cases h
        have hk : k ∈ unsure F G := by rw [hU]; exact List.mem_cons_self
        have hk' := List.mem_range.mp (List.mem_filter.mp hk).1
        have := (ht.get hG).len
        exact (small k (by omega)).mono (by decide) (by decide)
    · cases h
      exact Nd.non.mono (by decide) (by decide)
  | tog x y =>
    obtain ⟨F, hF⟩ := hu.nm x (by simp [Vow.names])
    obtain ⟨G, hG⟩ := hu.nm y (by simp [Vow.names])
    rw [truthS_tog, hF, hG] at h
    have h : (firstQ (F ++ G)).map (fun p => Shown.pair p.1 p.2) = some sh := h
    cases hf : firstQ (F ++ G) with
    | none =>
      rw [hf] at h
      cases h
    | some p =>
      rw [hf] at h
      cases h
      have hp : IsFirst (F ++ G) p := by
        unfold firstQ at hf
        split at hf
        · rename_i hx
          cases hf
          exact Classical.choose_spec hx
        · cases hf
      obtain ⟨_, _, e1, e2, _⟩ := hp.q
      have l1 := (List.getElem?_eq_some_iff.mp e1).1
      have l2 := (List.getElem?_eq_some_iff.mp e2).1
      rw [List.length_append] at l1 l2
      have := (ht.get hF).len
      have := (ht.get hG).len
      exact (NdAll.cons (small _ (by omega)) (NdAll.cons (small _ (by omega)) (.nil 0 0) (Nat.le_refl _)) (Nat.le_refl _)).tuple
theorem broken_nd {k : Nat} {sh : Shown} (h : ErNd (.broken k sh)) : Nd (brokenD k sh) 2 10 := by
  have ht31 : top31 = 10000000000000000000000000000000 := rfl
  have h1 : k ≤ 1000 := h.1
  exact (NdAll.cons ((Nd.int (i := (k : Nat)) (by omega) (by omega)).mono (by decide : 0 ≤ 1) (Nat.le_refl 0)) (NdAll.cons (h.2.mono (Nat.le_refl 1) (Nat.le_refl 2)) (.nil 1 0) (Nat.le_refl _)) (by decide)).list
end Kr

set_option Elab.async false
set_option linter.all false
set_option maxRecDepth 100000
set_option maxHeartbeats 4000000
/-! The law's own states; what its deeds come to. -/
namespace Kr
open PySem PySem.Spec PyProof.Rows L2
def StV (K : PySem.W.Frag) (H : Hp) (v : V) (s : AS) (k : Nat) : Prop := ∃ c t l ys, v = .ref c ∧ SqT K H c [.ref t, .ref l, .int (k : Nat)] ∧ TabAt K H t s.tab ∧ H l = some (.lst ys) ∧ Paired (VowV K H) ys s.vows
theorem StV.same {K : PySem.W.Frag} {H H' : Hp} {v : V} {s : AS} {k : Nat} (e : Same H H') (h : StV K H v s k) : StV K H' v s k := by
  obtain ⟨c, t, l, ys, rfl, a, b, d, f⟩ := h
  exact ⟨c, t, l, ys, rfl, e.sqt a, b.same e, e _ _ d, Paired.mapP f fun _ _ z => z.ts e.ts⟩
def ErrV (H : Hp) (v : V) (er : Er) : Prop := ∃ c, v = .ref c ∧ H c = some (.lst [.str er.word, .str er.text])
theorem ErrV.same {H H' : Hp} {v : V} {er : Er} (e : Same H H') (h : ErrV H v er) : ErrV H' v er := by
  obtain ⟨c, rfl, a⟩ := h
  exact ⟨c, rfl, e _ _ a⟩
def DueR (K : PySem.W.Frag) (H : Hp) (v : V) (k : Nat) : Except Er AS → Prop
  | .ok s' => StV K H v s' k
  | .error er => ErrV H v er
theorem BrokR.same {K : PySem.W.Frag} {H H' : Hp} {ys : List V} {o : Option Shown} (e : Same H H') (h : BrokR K H ys o) : BrokR K H' ys o := by
  cases o with
  | none => exact h
  | some sh =>
    obtain ⟨y, rfl, hy⟩ := h
    exact ⟨y, rfl, hy.ts e.ts⟩
theorem big1000 : 3000 ≤ sizeLine := by decide
section
variable {P : Program} {w : World} {K : PySem.W.Frag} {mg : Str → Option Value} {base : Heap}
def spLPut (K : PySem.W.Frag) : Sp := fun vs H Q _ => ∃ (M : Addr) (v u : V) (x : Str) (n k : Nat) (s : AS) (F : List Fct), vs = [.ref M, v, .str x, u] ∧ Base n ∧ MapsAt K H M n ∧ StV K H v s k ∧ FactsV K H u F ∧ AOk n s ∧ FOk n F ∧ s.tab.length ≤ 900 ∧ s.vows.length ≤ 900 ∧ k ≤ 900 ∧
  ∀ H' r, Same H H' → DueR K H' r (k + 1) (putA s x F) → Q r H'
theorem sc_l_put : FnScope ["_law_maps_here", "_law_state", "_law_word", "_law_heap_here", "_law_table", "_law_vows", "_law_many", "_law_k", "_law_shown"] ["_law_maps_here", "_law_state", "_law_word", "_law_heap_here"] (defScope s_l_put) := ⟨rfl, rfl, rfl, by decide +kernel, rfl, by decide +kernel, by decide +kernel⟩
theorem l_put_ok (D : DefIn K mg "_law_put" s_l_put) (T : Fre mg) (D_l_names_of : DOk P w K mg base CX0 1 "_law_names_of" ["_law_vow_here"] (spNamesOf K)) (D_l_broken : DOk P w K mg base CX0 5 "_law_broken" ["_law_maps_here", "_law_table", "_law_vow_here"] (spBroken K)) :
    GOk P w K mg base CX0 6 "_law_put" ["_law_maps_here", "_law_state", "_law_word", "_law_heap_here"] (spLPut K) := by
  refine D.okG sc_l_put (fun vs H Q E h => ?_) (fun _ _ _ _ _ _ us hl => match us, hl with | [_, _, _, _], _ => rfl) (fun cdv A outer s H vs Q E hcd hg hr h => ?_)
  · obtain ⟨_, _, _, _, _, _, _, _, rfl, _⟩ := h
    rfl
  · obtain ⟨M, _, u, x, n, k, s0, F, rfl, hn, hM, ⟨c, t, l, ys, rfl, hc, ht, hl, hpv⟩, hu0, ao, fo, hlt, hlv, hk, q⟩ := h
    have hu := hu_of hr
    have hu1 := Nat.lt_of_succ_lt hu
    refine ⟨_, (pss_cons (ps_par3 (i := 4) (j := 5) (l := 6) rfl sc_l_put.nd rfl rfl rfl (by decide) (by decide) (by decide) rfl rfl rfl (pa_cons (pe_callTy call_dictD (by rfl) T.dict_ (by decide +kernel) (pa_cons (pe_ix ix_tup (pv 1) pe_int (fun _ _ => rfl)) pa_nil)) (pa_cons (pe_ix ix_tup (pv 1) pe_int (fun _ _ => rfl)) (pa_cons (pe_ix ix_tup (pv 1) pe_int (fun _ _ => rfl)) pa_nil))) (by rfl))
      (pss_cons (ps_dput hu (pv 4) (pv 2) (pv 3) rfl)
      (pss_cons (ps_for PassesOwn.never rfl (pi_range1 (by rfl) T.range_ (pa_cons (pe_callB call_len_seq (by rfl) T.len_ (by decide +kernel) (pa_cons (pv 5) pa_nil)) pa_nil)) (pg_name (i := 7) sc_l_put.nd rfl (.inl rfl))
        (pss_one (ps_if (pt_cmpR op_in_seq (pv 2) (pe_fn D_l_names_of hr (pa_cons (pe_ix ix_list (pv 5) (pv 7) (fun _ _ => rfl)) pa_nil)) (by rfl)) (pss_cons (ps_set (i := 8) sc_l_put.nd rfl (.inl rfl) (pe_fn D_l_broken hr (pa_cons (pv 0) (pa_cons (pv 4) (pa_cons (pe_ix ix_list (pv 5) (pv 7) (fun _ _ => rfl)) pa_nil)))))
          (pss_one (ps_if (pt_cmpR (op_ne0L hu1) (pv 8) (pe_lst pa_nil) (nomark _)) (pss_one (ps_ret (pe_lst (pa_cons pe_str (pa_cons (pe_callB (call_repr_D hg hr.units) (by rfl) T.repr_ (by decide +kernel) (pa_cons (pe_lst (pa_cons (pv 7) (pa_cons (pe_ix ix_list (pv 8) pe_int (fun _ _ => rfl)) pa_nil))) pa_nil)) pa_nil))))) pss_nil))) pss_nil)))
      (pss_one (ps_ret (pe_tup (pa_cons (pv 4) (pa_cons (pv 5) (pa_cons (pe_op op_add (pv 6) pe_int) pa_nil))))))))), ?_⟩
    obtain ⟨kvs, et, tv⟩ := id ht
    have big := big1000
    refine ⟨.ref c, rfl, c, _, _, _, rfl, rfl, hc, atI_nat (j := 0) rfl, t, kvs, rfl, .inl et, fun d nd => ?_⟩
    have s1 := same_upd (o := .dK kvs) nd
    refine ⟨.ref c, rfl, c, _, _, _, rfl, rfl, s1.sqt hc, atI_nat (j := 1) rfl, .ref c, rfl, c, _, _, _, rfl, rfl, s1.sqt hc, atI_nat (j := 2) rfl, _, _, _, rfl, ?_⟩
    refine ⟨u, rfl, .ref d, rfl, .str x, rfl, d, _, rfl, .inl ⟨kvs, Sum.inr x, upd_same, rfl, by rw [tv.length]; omega, rfl⟩, ?_⟩
    have sN : Same H (upd (upd H d (.dK kvs)) d (.dK (putK kvs (Sum.inr x) u))) := same_set s1 nd
    have tN : TabAt K (upd (upd H d (.dK kvs)) d (.dK (putK kvs (Sum.inr x) u))) d (putF s0.tab x F) := ⟨_, upd_same, (tv.ts sN.ts).put (hu0.ts sN.ts)⟩
    generalize upd (upd H d (.dK kvs)) d (.dK (putK kvs (Sum.inr x) u)) = H1 at sN tN ⊢
    have hll := hpv.length
    refine ⟨.ref l, rfl, l, ys, rfl, .inl (.inl (.inl (sN _ _ hl))), (ys.length : Int), rfl, by omega, by omega, ?_⟩
    rw [Int.toNat_natCast]
    refine for_range (lo := 0) (n := ys.length) (fun i σ H2 => ∃ t7 t8, σ = [some (.ref M), some (.ref c), some (.str x), some u, some (.ref d), some (.ref l), some (.int k), t7, t8] ∧ Same H1 H2 ∧ firstBad (putF s0.tab x F) x 0 s0.vows = firstBad (putF s0.tab x F) x i (s0.vows.drop i)) ⟨none, none, rfl, Same.refl _, by rw [List.drop_zero]⟩ ?_ ?_
    · rintro i σ H2 hi ⟨t7, t8, rfl, sm, hb⟩
      obtain ⟨vw, hvw, uv⟩ := paired_get hpv (List.getElem?_eq_getElem hi)
      have s2 := sN.trans sm
      rw [firstBad_turn hvw] at hb
      have aty : atI ys (0 + (i : Int)) = some ys[i] := by
        rw [Int.zero_add]
        exact atI_nat (List.getElem?_eq_getElem hi)
      refine ⟨.str x, rfl, .ref l, rfl, .int _, rfl, l, _, _, _, rfl, rfl, .inl (.inl (s2 _ _ hl)), aty, _, vw, rfl, uv.ts s2.ts, fun H3 a s3 ha => ?_⟩
      refine ⟨a, _, rfl, .inl (.inl (.inl ha)), rfl, flat_str _, _, rfl, ?_⟩
      rw [inV_str]
      have s23 := sm.trans s3
      have s03 := sN.trans s23
      have ux : (vw.names.any fun z => decide (z = x)) = vw.has x := rfl
      rw [ux]
      cases hx : vw.has x with
      | false =>
        rw [hx, if_neg Bool.false_ne_true] at hb
        exact iteF ⟨_, _, rfl, s23, hb⟩
      | true =>
        rw [hx, if_pos rfl] at hb
        have vok := ao.v vw (List.mem_of_getElem? hvw)
        refine iteT ⟨.ref M, rfl, .ref d, rfl, .ref l, rfl, .int _, rfl, l, _, _, _, rfl, rfl, .inl (.inl (s03 _ _ hl)), aty, M, d, _, n, _, vw, rfl, hn, hM.same s03, tN.same s23, uv.ts s03.ts, ao.t.put fo, vok.ok.put, fun H4 p zs s4 ep hbr => ?_⟩
        refine ⟨.ref p, rfl, Nat.zero_le _, fun l2 nl => ⟨p, l2, zs, rfl, rfl, .inl (.inl (same_upd nl _ _ ep)), .inl (.inl upd_same), _, rfl, ?_⟩⟩
        have s5 := s4.trans (same_upd (o := .lst []) nl)
        have ep5 := same_upd (o := .lst []) nl _ _ ep
        have hbr5 : BrokR K (upd H4 l2 (.lst [])) zs (truthS (putF s0.tab x F) vw) := hbr.same (same_upd nl)
        generalize upd H4 l2 (.lst []) = H5 at s5 ep5 hbr5 ⊢
        cases hT : truthS (putF s0.tab x F) vw with
        | none =>
          rw [hT] at hb hbr5
          have hz : zs = [] := hbr5
          subst hz
          exact iteF ⟨_, _, rfl, s23.trans s5, hb⟩
        | some sh =>
          have nd5 := shown_nd hn (ao.t.put fo) vok.ok.put hT
          rw [hT] at hb hbr5
          obtain ⟨y, rfl, hy⟩ := hbr5
          refine iteT ⟨.int _, rfl, .ref p, rfl, p, _, _, _, rfl, rfl, .inl (.inl ep5), atI_nat (j := 0) rfl, by show 2 ≤ sizeLine; omega, fun g ng => ?_⟩
          have hi2 : i ≤ 1000 := by omega
          have s6 := same_upd (o := .lst [.int (0 + (i : Int)), y]) ng
          have nb := broken_nd (k := i) ⟨hi2, nd5⟩
          refine ⟨.ref g, brokenD i sh, rfl, .lst (.inl (.inl upd_same)) (.cons (by rw [Int.zero_add]; exact .int _) (.cons (hy.ts s6.ts).dp .nil)), nb.sh, nb.nd, Nat.le_trans nb.dp (by decide), nb.len (by decide), by show 2 ≤ sizeLine; omega, fun r nr => ?_⟩
          have hb' : firstBad (putF s0.tab x F) x 0 s0.vows = some (i, sh) := hb
          refine q _ _ (((s03.trans s5).trans s6).trans (same_upd nr)) ?_
          unfold putA
          rw [hb']
          exact ⟨r, rfl, upd_same⟩
    · rintro σ H2 ⟨t7, t8, rfl, sm, hb⟩
      have s2 := sN.trans sm
      have hb' : firstBad (putF s0.tab x F) x 0 s0.vows = none := by
        rw [hb, hll, List.drop_length]
        rfl
      refine ⟨.ref d, rfl, .ref l, rfl, .int k, rfl, _, _, rfl, rfl, by show 3 ≤ sizeLine; omega, fun r nr => ?_⟩
      have s3 := s2.trans (same_upd (o := .tup [.ref d, .ref l, .int ((k : Int) + 1)]) nr)
      refine q _ _ s3 ?_
      unfold putA
      rw [hb']
      exact ⟨r, d, l, ys, rfl, .inl (.inl upd_same), (tN.same sm).same (same_upd nr), s3 _ _ hl, Paired.mapP hpv fun _ _ z => z.ts s3.ts⟩
end
end Kr

set_option Elab.async false
set_option linter.all false
set_option maxRecDepth 100000
set_option maxHeartbeats 4000000
/-! The law's promise and lift. -/
namespace Kr
open PySem PySem.Spec PyProof.Rows L2
section
variable {P : Program} {w : World} {K : PySem.W.Frag} {mg : Str → Option Value} {base : Heap}
def spLVowed (K : PySem.W.Frag) : Sp := fun vs H Q _ => ∃ (M : Addr) (v u : V) (n k : Nat) (s : AS) (vw : Vow), vs = [.ref M, v, u] ∧ Base n ∧ MapsAt K H M n ∧ StV K H v s k ∧ VowV K H u vw ∧ (∀ x ∈ vw.names, GoodName x) ∧ UB vw ∧ AOk n s ∧ s.vows.length ≤ 900 ∧
  ∀ H' r, Same H H' → DueR K H' r (k + 1) (vowA s vw) → Q r H'
theorem sc_l_vowed : FnScope ["_law_maps_here", "_law_state", "_law_vow_here", "_law_word", "_law_shown"] ["_law_maps_here", "_law_state", "_law_vow_here"] (defScope s_l_vowed) := ⟨rfl, rfl, rfl, by decide +kernel, rfl, by decide +kernel, by decide +kernel⟩
theorem l_vowed_ok (D : DefIn K mg "_law_vowed" s_l_vowed) (T : Fre mg) (D_l_names_of : DOk P w K mg base CX0 1 "_law_names_of" ["_law_vow_here"] (spNamesOf K)) (D_l_broken : DOk P w K mg base CX0 5 "_law_broken" ["_law_maps_here", "_law_table", "_law_vow_here"] (spBroken K)) :
    GOk P w K mg base CX0 6 "_law_vowed" ["_law_maps_here", "_law_state", "_law_vow_here"] (spLVowed K) := by
  refine D.okG sc_l_vowed (fun vs H Q E h => ?_) (fun _ _ _ _ _ _ us hl => match us, hl with | [_, _, _], _ => rfl) (fun cdv A outer s H vs Q E hcd hg hr h => ?_)
  · obtain ⟨_, _, _, _, _, _, _, rfl, _⟩ := h
    rfl
  · obtain ⟨M, _, u, n, k, s0, vw, rfl, hn, hM, ⟨c, t, l, ys, rfl, hc, ht, hl, hpv⟩, hv, hgn, ub, ao, hlv, q⟩ := h
    have hu := hu_of hr
    have hu1 := Nat.lt_of_succ_lt hu
    have big := big1000
    refine ⟨_, (pss_cons (ps_for PassesOwn.never rfl (pi_list (pe_fn D_l_names_of hr (pa_cons (pv 2) pa_nil))) (pg_name (i := 3) sc_l_vowed.nd rfl (.inl rfl))
        (pss_one (ps_if (pt_cmp (pc_dnotin hu (pv 3) (pe_ix ix_tup (pv 1) pe_int (fun _ _ => rfl))) rfl) (pss_one (ps_ret (pe_lst (pa_cons pe_str (pa_cons (pe_callB (call_repr_D hg hr.units) (by rfl) T.repr_ (by decide +kernel) (pa_cons (pv 3) pa_nil)) pa_nil))))) pss_nil)))
      (pss_cons (ps_set (i := 4) sc_l_vowed.nd rfl (.inl rfl) (pe_fn D_l_broken hr (pa_cons (pv 0) (pa_cons (pe_ix ix_tup (pv 1) pe_int (fun _ _ => rfl)) (pa_cons (pv 2) pa_nil)))))
      (pss_cons (ps_if (pt_cmpR (op_ne0L hu1) (pv 4) (pe_lst pa_nil) (nomark _)) (pss_one (ps_ret (pe_lst (pa_cons pe_str (pa_cons (pe_callB (call_repr_D hg hr.units) (by rfl) T.repr_ (by decide +kernel) (pa_cons (pe_lst (pa_cons (pe_callB call_len_seq (by rfl) T.len_ (by decide +kernel) (pa_cons (pe_ix ix_tup (pv 1) pe_int (fun _ _ => rfl)) pa_nil)) (pa_cons (pe_ix ix_list (pv 4) pe_int (fun _ _ => rfl)) pa_nil))) pa_nil)) pa_nil))))) pss_nil)
      (pss_one (ps_ret (pe_tup (pa_cons (pe_ix ix_tup (pv 1) pe_int (fun _ _ => rfl)) (pa_cons (pe_op op_cat (pe_ix ix_tup (pv 1) pe_int (fun _ _ => rfl)) (pe_lst (pa_cons (pv 2) pa_nil))) (pa_cons (pe_op op_add (pe_ix ix_tup (pv 1) pe_int (fun _ _ => rfl)) pe_int) pa_nil))))))))), ?_⟩
    refine ⟨u, rfl, u, vw, rfl, hv, fun H1 a s1 ha => ⟨a, rfl, ⟨_, .inl (.inl ha)⟩, ?_⟩⟩
    refine for_list (xs := vw.names.map V.str) (fun i σ H2 => ∃ t3 t4, σ = [some (.ref M), some (.ref c), some u, t3, t4] ∧ Same H1 H2 ∧ firstNo s0.tab vw.names = firstNo s0.tab (vw.names.drop i)) ⟨none, none, rfl, Same.refl _, by rw [List.drop_zero]⟩ ?_ ?_ ?_
    · rintro i σ H2 hi ⟨_, _, rfl, sm, _⟩
      exact .inl (.inl (sm _ _ ha))
    · rintro i y σ H2 hy ⟨t3, t4, rfl, sm, hb⟩
      rw [List.getElem?_map] at hy
      cases hz : vw.names[i]? with
      | none =>
        rw [hz] at hy
        cases hy
      | some z =>
        rw [hz] at hy
        cases hy
        have gz := hgn z (List.mem_of_getElem? hz)
        have s2 := s1.trans sm
        rw [drop_at hz] at hb
        have hb2 : firstNo s0.tab (z :: vw.names.drop (i + 1)) = if (getF s0.tab z).isSome = true then firstNo s0.tab (vw.names.drop (i + 1)) else some z := rfl
        rw [hb2] at hb
        obtain ⟨o, ho, hs⟩ := (ht.same s2).has z
        refine ⟨.str z, rfl, .ref c, rfl, c, _, _, _, rfl, rfl, s2.sqt hc, atI_nat (j := 0) rfl, t, o, rfl, ho, _, rfl, ?_⟩
        rw [hs]
        cases hx : (getF s0.tab z).isSome with
        | true =>
          rw [hx, if_pos rfl] at hb
          exact iteF ⟨_, _, rfl, sm, hb⟩
        | false =>
          rw [hx, if_neg Bool.false_ne_true] at hb
          have nb := gz.nd
          refine iteT ⟨.str z, rfl, .str z, .str z, rfl, .str z, nb.sh, nb.nd, Nat.le_trans nb.dp (by decide), nb.len (by decide), by show 2 ≤ sizeLine; omega, fun r nr => ?_⟩
          refine q _ _ (s2.trans (same_upd nr)) ?_
          unfold vowA
          rw [hb]
          exact ⟨r, rfl, upd_same⟩
    · rintro σ H2 ⟨t3, t4, rfl, sm, hb⟩
      rw [List.length_map, List.drop_length] at hb
      have hb' : firstNo s0.tab vw.names = none := hb
      have s2 := s1.trans sm
      have uok : UOk s0.tab vw := ⟨firstNo_none hb', ub.p0⟩
      have hll := hpv.length
      refine ⟨.ref M, rfl, .ref c, rfl, c, _, _, _, rfl, rfl, s2.sqt hc, atI_nat (j := 0) rfl, u, rfl, M, t, u, n, _, vw, rfl, hn, hM.same s2, ht.same s2, hv.ts s2.ts, ao.t, uok, fun H4 p zs s4 ep hbr => ?_⟩
      refine ⟨.ref p, rfl, Nat.zero_le _, fun l2 nl => ⟨p, l2, zs, rfl, rfl, .inl (.inl (same_upd nl _ _ ep)), .inl (.inl upd_same), _, rfl, ?_⟩⟩
      have s5 := s2.trans (s4.trans (same_upd (o := .lst []) nl))
      have ep5 := same_upd (o := .lst []) nl _ _ ep
      have hbr5 : BrokR K (upd H4 l2 (.lst [])) zs (truthS s0.tab vw) := hbr.same (same_upd nl)
      generalize upd H4 l2 (.lst []) = H5 at s5 ep5 hbr5 ⊢
      cases hT : truthS s0.tab vw with
      | none =>
        rw [hT] at hbr5
        have hz : zs = [] := hbr5
        subst hz
        refine iteF ⟨.ref c, rfl, c, _, _, _, rfl, rfl, s5.sqt hc, atI_nat (j := 0) rfl, .ref c, rfl, c, _, _, _, rfl, rfl, s5.sqt hc, atI_nat (j := 1) rfl, u, rfl, by show 1 ≤ sizeLine; omega, fun b nb => ?_⟩
        have s6 := s5.trans (same_upd (o := .lst [u]) nb)
        refine ⟨l, b, ys, _, rfl, rfl, s6 _ _ hl, upd_same, by rw [List.length_singleton]; omega, fun g ng => ?_⟩
        have s7 := s6.trans (same_upd (o := .lst (ys ++ [u])) ng)
        refine ⟨.ref c, rfl, c, _, _, _, rfl, rfl, s7.sqt hc, atI_nat (j := 2) rfl, _, _, rfl, rfl, by show 3 ≤ sizeLine; omega, fun r nr => ?_⟩
        have eg := same_upd (o := .tup [.ref t, .ref g, .int ((k : Int) + 1)]) nr g _ upd_same
        have s8 := s7.trans (same_upd (o := .tup [.ref t, .ref g, .int ((k : Int) + 1)]) nr)
        refine q _ _ s8 ?_
        unfold vowA
        rw [hb', hT]
        exact ⟨r, t, g, _, rfl, .inl (.inl upd_same), ht.same s8, eg, paired_append (Paired.mapP hpv fun _ _ z => z.ts s8.ts) (.cons (hv.ts s8.ts) .nil)⟩
      | some sh =>
        have nd5 := shown_nd hn ao.t uok hT
        rw [hT] at hbr5
        obtain ⟨y, rfl, hy⟩ := hbr5
        refine iteT ⟨.ref c, rfl, c, _, _, _, rfl, rfl, s5.sqt hc, atI_nat (j := 1) rfl, l, ys, rfl, .inl (.inl (.inl (s5 _ _ hl))), .ref p, rfl, p, _, _, _, rfl, rfl, .inl (.inl ep5), atI_nat (j := 0) rfl, by show 2 ≤ sizeLine; omega, fun g ng => ?_⟩
        have s6 := same_upd (o := .lst [.int (ys.length : Int), y]) ng
        have hi2 : ys.length ≤ 1000 := by omega
        have nb := broken_nd (k := ys.length) ⟨hi2, nd5⟩
        refine ⟨.ref g, brokenD ys.length sh, rfl, .lst (.inl (.inl upd_same)) (.cons (.int _) (.cons (hy.ts s6.ts).dp .nil)), nb.sh, nb.nd, Nat.le_trans nb.dp (by decide), nb.len (by decide), by show 2 ≤ sizeLine; omega, fun r nr => ?_⟩
        refine q _ _ ((s5.trans s6).trans (same_upd nr)) ?_
        unfold vowA
        rw [hb', hT]
        refine ⟨r, rfl, ?_⟩
        rw [upd_same, hll]
        rfl
def spLLifted (K : PySem.W.Frag) : Sp := fun vs H Q _ => ∃ (v : V) (i : Int) (k : Nat) (s : AS), vs = [v, .int i] ∧ StV K H v s k ∧ s.vows.length ≤ 900 ∧ -1000 ≤ i ∧ i ≤ 1000 ∧ ∀ H' r, Same H H' → DueR K H' r (k + 1) (liftA s i) → Q r H'
theorem sc_l_lifted : FnScope ["_law_state", "_law_at"] ["_law_state", "_law_at"] (defScope s_l_lifted) := ⟨rfl, rfl, rfl, by decide +kernel, rfl, by decide +kernel, by decide +kernel⟩
theorem l_lifted_ok (D : DefIn K mg "_law_lifted" s_l_lifted) (T : Fre mg) : GOk P w K mg base CX0 1 "_law_lifted" ["_law_state", "_law_at"] (spLLifted K) := by
  refine D.okG sc_l_lifted (fun vs H Q E h => ?_) (fun _ _ _ _ _ _ us hl => match us, hl with | [_, _], _ => rfl) (fun cdv A outer s H vs Q E hcd hg hr h => ?_)
  · obtain ⟨_, _, _, _, rfl, _⟩ := h
    rfl
  · obtain ⟨_, i, k, s0, rfl, ⟨c, t, l, ys, rfl, hc, ht, hl, hpv⟩, hlv, i0, i1, q⟩ := h
    have big := big1000
    have hll := hpv.length
    refine ⟨_, (pss_cons (ps_if (pt_not (pt_chain op_le op_lt pe_int (pv 1) (pe_callB call_len_seq (by rfl) T.len_ (by decide +kernel) (pa_cons (pe_ix ix_tup (pv 0) pe_int (fun _ _ => rfl)) pa_nil)))) (pss_one (ps_ret (pe_lst (pa_cons pe_str (pa_cons (pe_callB (call_repr_D hg hr.units) (by rfl) T.repr_ (by decide +kernel) (pa_cons (pv 1) pa_nil)) pa_nil))))) pss_nil)
      (pss_one (ps_ret (pe_tup (pa_cons (pe_ix ix_tup (pv 0) pe_int (fun _ _ => rfl)) (pa_cons (pe_op op_cat (pe_slice sl_list (pe_ix ix_tup (pv 0) pe_int (fun _ _ => rfl)) po_none (po_some (pv 1))) (pe_slice sl_list (pe_ix ix_tup (pv 0) pe_int (fun _ _ => rfl)) (po_some (pe_op op_add (pv 1) pe_int)) po_none)) (pa_cons (pe_op op_add (pe_ix ix_tup (pv 0) pe_int (fun _ _ => rfl)) pe_int) pa_nil))))))), ?_⟩
    have bad : ¬ (0 ≤ i ∧ i < s0.vows.length) → rRepr K [.int i] H fun z H1 => [V.str "index", z].length ≤ sizeLine ∧ ∀ p, H1 p = none → Q (.ref p) (upd H1 p (.lst [.str "index", z])) := fun hi => by
      have ht31 : top31 = 10000000000000000000000000000000 := rfl
      have nb := Nd.int (i := i) (by omega) (by omega)
      refine ⟨.int i, .int i, rfl, .int i, nb.sh, nb.nd, Nat.le_trans nb.dp (by decide), nb.len (by decide), by show 2 ≤ sizeLine; omega, fun r nr => ?_⟩
      refine q _ _ (same_upd nr) ?_
      unfold liftA
      rw [if_neg hi]
      exact ⟨r, rfl, upd_same⟩
    refine ⟨.int i, rfl, _, _, rfl, rfl, _, rfl, ?_⟩
    by_cases h0 : 0 ≤ i
    · refine ifT (decide_eq_true h0) ⟨.ref c, rfl, c, _, _, _, rfl, rfl, hc, atI_nat (j := 1) rfl, l, ys, rfl, .inl (.inl (.inl hl)), _, _, rfl, rfl, _, rfl, ?_⟩
      by_cases h1 : i < s0.vows.length
      · refine ifF (by rw [decide_eq_true (show i < (ys.length : Int) by omega)]; rfl) ?_
        obtain ⟨j, rfl⟩ := Int.eq_ofNat_of_zero_le h0
        refine ⟨.ref c, rfl, c, _, _, _, rfl, rfl, hc, atI_nat (j := 0) rfl, .ref c, rfl, c, _, _, _, rfl, rfl, hc, atI_nat (j := 1) rfl, .int j, rfl, (j : Int), rfl, l, ys, rfl, .inl (.inl hl), fun m1 n1 => ?_⟩
        have s1 := same_upd (o := .lst (cutV ys none (some (j : Int)))) n1
        have e1 : upd H m1 (.lst (cutV ys none (some (j : Int)))) m1 = some (.lst (cutV ys none (some (j : Int)))) := upd_same
        generalize upd H m1 (.lst (cutV ys none (some (j : Int)))) = H1 at s1 e1 ⊢
        refine ⟨.ref c, rfl, c, _, _, _, rfl, rfl, s1.sqt hc, atI_nat (j := 1) rfl, .int j, rfl, (j : Int), 1, rfl, rfl, (j : Int) + 1, rfl, ?_⟩
        unfold tNoPart
        refine ⟨l, ys, rfl, .inl (.inl (s1 _ _ hl)), fun m2 n2 => ?_⟩
        rw [cut_hi, cut_lo] at *
        have s2 := s1.trans (same_upd (o := .lst (ys.drop (j + 1))) n2)
        have e2 := same_upd (o := .lst (ys.drop (j + 1))) n2 _ _ e1
        refine ⟨m1, m2, _, _, rfl, rfl, e2, upd_same, by rw [List.length_take, List.length_drop]; omega, fun g ng => ?_⟩
        have s3 := s2.trans (same_upd (o := .lst (ys.take j ++ ys.drop (j + 1))) ng)
        refine ⟨.ref c, rfl, c, _, _, _, rfl, rfl, s3.sqt hc, atI_nat (j := 2) rfl, _, _, rfl, rfl, by show 3 ≤ sizeLine; omega, fun r nr => ?_⟩
        have eg := same_upd (o := .tup [.ref t, .ref g, .int ((k : Int) + 1)]) nr g _ upd_same
        have s4 := s3.trans (same_upd (o := .tup [.ref t, .ref g, .int ((k : Int) + 1)]) nr)
        refine q _ _ s4 ?_
        unfold liftA
        rw [if_pos ⟨h0, h1⟩]
        exact ⟨r, t, g, _, rfl, .inl (.inl upd_same), ht.same s4, eg, paired_cut j (Paired.mapP hpv fun _ _ z => z.ts s4.ts)⟩
      · exact ifT (by rw [decide_eq_false (show ¬ i < (ys.length : Int) by omega)]; rfl) ⟨.int i, rfl, bad fun z => h1 z.2⟩
    · refine ifF (decide_eq_false h0) ⟨_, rfl, iteT ⟨.int i, rfl, bad fun z => h0 z.1⟩⟩
end
end Kr

set_option Elab.async false
set_option linter.all false
set_option maxRecDepth 100000
set_option maxHeartbeats 4000000
/-! The law's removal. -/
namespace Kr
open PySem PySem.Spec PyProof.Rows L2
theorem lc_keys {d D : Addr} {o : Obj} {kvs : List (Key × V)} {g : TG} {tt : TT} {te : TE} {vs : List Nat} {σ : L2.St} {H1 : Hp} {Qd : Hp → Prop} (Pv : Nat → Hp → Prop) (h0 : Pv 0 (upd H1 D (.lst []))) (hl : ∀ i H, Pv i H → H d = some (.frz o (.dK kvs)))
    (hs : ∀ i k v H, kvs[i]? = some (k, v) → Pv i H → g (kV k) (wipe σ vs) H fun σ2 H2 => wipe σ2 vs = wipe σ vs ∧ tt σ2 H2 fun b H3 =>
      if b = true then te σ2 H3 fun y H4 => ∃ acc, H4 D = some (.lst acc) ∧ acc.length < sizeLine ∧ Pv (i + 1) (upd H4 D (.lst (acc ++ [y]))) else Pv (i + 1) H3) (hd : ∀ H, Pv kvs.length H → Qd H) :
    ∃ W : Nat → Nat → Hp → Prop, (∃ m, W 0 m (upd H1 D (.lst []))) ∧ ∀ i m H, W i m H →
      ((Itk d o kvs).stop i H ∧ Qd H) ∨ ((Itk d o kvs).go i H ∧ ∃ Nx : Hp → Prop, (∀ H', Nx H' → ∃ m', m' < m ∧ W (i + 1) m' H') ∧ ∀ x H', (Itk d o kvs).yld i H x H' → g x (wipe σ vs) H' fun σ2 H2 => wipe σ2 vs = wipe σ vs ∧ tt σ2 H2 fun b H3 =>
        if b = true then te σ2 H3 fun y H4 => ∃ acc, H4 D = some (.lst acc) ∧ acc.length < sizeLine ∧ Nx (upd H4 D (.lst (acc ++ [y]))) else Nx H3) := by
  refine ⟨fun i m H => m = kvs.length - i ∧ i ≤ kvs.length ∧ Pv i H, ⟨kvs.length, by simp, Nat.zero_le _, h0⟩, ?_⟩
  rintro i m H ⟨rfl, hi, p⟩
  have q := hl i H p
  by_cases hlt : i < kvs.length
  · refine .inr ⟨⟨q, hlt⟩, Pv (i + 1), fun H' p' => ⟨kvs.length - (i + 1), by omega, rfl, hlt, p'⟩, fun v H' y => ?_⟩
    obtain ⟨rfl, k, z, hk, rfl⟩ := y
    exact hs i k z H' hk p
  · have e : i = kvs.length := by omega
    subst e
    exact .inl ⟨⟨q, Nat.le_refl _⟩, hd H p⟩
theorem valV_at {k : Key} {v : V} : ∀ {kvs : List (Key × V)} {i : Nat}, (kvs.map (·.1)).Nodup → kvs[i]? = some (k, v) → valV kvs k = some v
  | [], i, _, h => by simp at h
  | p :: r, 0, _, h => by
    have e : p = (k, v) := by simpa using h
    subst e
    unfold valV
    rw [List.find?_cons_of_pos (by simp)]
    rfl
  | p :: r, i + 1, nd, h => by
    rw [List.map_cons, List.nodup_cons] at nd
    have h' : r[i]? = some (k, v) := by simpa using h
    have ne : p.1 ≠ k := fun e => nd.1 (List.mem_map.mpr ⟨(k, v), List.mem_of_getElem? h', e.symm⟩)
    have ih := valV_at nd.2 h'
    unfold valV at ih ⊢
    rw [List.find?_cons_of_neg (by simp [ne])]
    exact ih
theorem drop_app {kvs : List (Key × V)} {i : Nat} {k x : Key} {v : V} (h : kvs[i]? = some (k, v)) : dropK (kvs.take (i + 1)) x = if k = x then dropK (kvs.take i) x else dropK (kvs.take i) x ++ [(k, v)] := by
  have et : kvs.take (i + 1) = kvs.take i ++ [(k, v)] := by
    rw [List.take_add_one, h]
    rfl
  rw [et]
  unfold dropK
  rw [List.filter_append]
  by_cases hk : k = x
  · rw [if_pos hk, List.filter_cons_of_neg (by simp [hk])]
    simp
  · rw [if_neg hk, List.filter_cons_of_pos (by simp [hk]), List.filter_nil]
theorem merge_nd : ∀ {more kvs : List (Key × V)}, ((kvs ++ more).map (·.1)).Nodup → mergeK kvs more = kvs ++ more
  | [], kvs, _ => by simp [mergeK]
  | p :: r, kvs, h => by
    have hp : ∀ q ∈ kvs, q.1 ≠ p.1 := fun q hq e => by
      rw [List.map_append, List.nodup_append] at h
      exact h.2.2 q.1 (List.mem_map.mpr ⟨q, hq, rfl⟩) p.1 (by simp) e
    have e : kvs ++ p :: r = (kvs ++ [p]) ++ r := by simp
    rw [e] at h ⊢
    show mergeK (putK kvs p.1 p.2) r = _
    rw [putK_new hp]
    exact merge_nd h
section
variable {P : Program} {w : World} {K : PySem.W.Frag} {mg : Str → Option Value} {base : Heap}
def spLRem (K : PySem.W.Frag) : Sp := fun vs H Q _ => ∃ (v : V) (x : Str) (n k : Nat) (s : AS), vs = [v, .str x] ∧ StV K H v s k ∧ GoodName x ∧ AOk n s ∧ s.tab.length ≤ 900 ∧ s.vows.length ≤ 900 ∧ ∀ H' r, Same H H' → DueR K H' r (k + 1) (remA s x) → Q r H'
theorem sc_l_removed : FnScope ["_law_state", "_law_word", "_law_used", "_law_k", "_law_table", "_law_each"] ["_law_state", "_law_word"] (defScope s_l_removed) := ⟨rfl, rfl, rfl, by decide +kernel, rfl, by decide +kernel, by decide +kernel⟩
theorem l_removed_ok (D : DefIn K mg "_law_removed" s_l_removed) (T : Fre mg) (D_l_names_of : DOk P w K mg base CX0 1 "_law_names_of" ["_law_vow_here"] (spNamesOf K)) : GOk P w K mg base CX0 2 "_law_removed" ["_law_state", "_law_word"] (spLRem K) := by
  refine D.okG sc_l_removed (fun vs H Q E h => ?_) (fun _ _ _ _ _ _ us hl => match us, hl with | [_, _], _ => rfl) (fun cdv A outer s H vs Q E hcd hg hr h => ?_)
  · obtain ⟨_, _, _, _, _, rfl, _⟩ := h
    rfl
  · obtain ⟨_, x, n, k, s0, rfl, ⟨c, t, l, ys, rfl, hc, ht, hl, hpv⟩, gx, ao, hlt, hlv, q⟩ := h
    have big := big1000
    have hll := hpv.length
    have hu := hu_of hr
    have hu1 := Nat.lt_of_succ_lt hu
    refine ⟨_, (pss_cons (ps_if (pt_cmp (pc_dnotin hu (pv 1) (pe_ix ix_tup (pv 0) pe_int (fun _ _ => rfl))) rfl) (pss_one (ps_ret (pe_lst (pa_cons pe_str (pa_cons (pe_callB (call_repr_D hg hr.units) (by rfl) T.repr_ (by decide +kernel) (pa_cons (pv 1) pa_nil)) pa_nil))))) pss_nil)
      (pss_cons (ps_setLc (i := 2) (own := [("_law_k", 3)]) (g := gName 3) rfl sc_l_removed.nd rfl rfl (sw_true rfl rfl rfl (by decide +kernel)) (pi_range1 (by rfl) T.range_ (pa_cons (pe_callB call_len_seq (by rfl) T.len_ (by decide +kernel) (pa_cons (pe_ix ix_tup (pv 0) pe_int (fun _ _ => rfl)) pa_nil)) pa_nil)) (blkOk_by (N := ["_law_state", "_law_word", "_law_used", "_law_k", "_law_table", "_law_each"]) (sc := defScope s_l_removed) (by decide +kernel)) (fun _ _ _ _ _ => (pg_name (i := 3) sc_l_removed.nd rfl (.inl rfl))) (fun _ _ _ _ _ => (pts_one (pt_cmpR (r := rIn K false) op_in_seq (pv 1) (pe_fn D_l_names_of hr (pa_cons (pe_ix (r := rIxL K) ix_list (pe_ix (r := rIxT K) ix_tup (pv 0) pe_int (fun _ _ => rfl)) (pv 3) (fun _ _ => rfl)) pa_nil)) (by rfl)))) (fun _ _ _ _ _ => (pv 3)))
      (pss_cons (ps_if (pt_cmpR (op_ne0L hu1) (pv 2) (pe_lst pa_nil) (nomark _)) (pss_one (ps_ret (pe_lst (pa_cons pe_str (pa_cons (pe_callB (call_repr_D hg hr.units) (by rfl) T.repr_ (by decide +kernel) (pa_cons (pe_ix ix_list (pv 2) pe_int (fun _ _ => rfl)) pa_nil)) pa_nil))))) pss_nil)
      (pss_cons (ps_set (i := 4) sc_l_removed.nd rfl (.inl rfl) (pe_callTy (call_dictP rfl) (by rfl) T.dict_ (by decide +kernel) (pa_cons (pe_lock (pe_lc (own := [("_law_each", 5)]) (g := gName 5) rfl sc_l_removed.nd (pi_keys (pe_ix ix_tup (pv 0) pe_int (fun _ _ => rfl))) (blkOk_by (N := ["_law_state", "_law_word", "_law_used", "_law_k", "_law_table", "_law_each"]) (sc := defScope s_l_removed) (by decide +kernel)) (fun _ _ _ _ _ => (pg_name (i := 5) sc_l_removed.nd rfl (.inl rfl))) (fun _ _ _ _ _ => (pts_one (pt_cmpR op_ne (pv 5) (pv 1) (nomark _)))) (fun _ _ _ _ _ => (pe_tup (pa_cons (pv 5) (pa_cons (pe_dget hu (pe_ix (r := rIxT K) ix_tup (pv 0) pe_int (fun _ _ => rfl)) (pv 5) (fun _ _ => rfl)) pa_nil)))))) pa_nil)))
      (pss_one (ps_ret (pe_tup (pa_cons (pv 4) (pa_cons (pe_ix ix_tup (pv 0) pe_int (fun _ _ => rfl)) (pa_cons (pe_op op_add (pe_ix ix_tup (pv 0) pe_int (fun _ _ => rfl)) pe_int) pa_nil)))))))))), ?_⟩
    obtain ⟨o, ho, hs⟩ := ht.has x
    refine ⟨.str x, rfl, .ref c, rfl, c, _, _, _, rfl, rfl, hc, atI_nat (j := 0) rfl, t, o, rfl, ho, _, rfl, ?_⟩
    rw [hs]
    cases hx : (getF s0.tab x).isSome with
    | false =>
      have nb := gx.nd
      refine iteT ⟨.str x, rfl, .str x, .str x, rfl, .str x, nb.sh, nb.nd, Nat.le_trans nb.dp (by decide), nb.len (by decide), by show 2 ≤ sizeLine; omega, fun r nr => ?_⟩
      refine q _ _ (same_upd nr) ?_
      unfold remA
      rw [hx, if_neg Bool.false_ne_true]
      exact ⟨r, rfl, upd_same⟩
    | true =>
      refine iteF ⟨.ref c, rfl, c, _, _, _, rfl, rfl, hc, atI_nat (j := 1) rfl, l, ys, rfl, .inl (.inl (.inl hl)), (ys.length : Int), rfl, by omega, by omega, ?_⟩
      rw [Int.toNat_natCast]
      intro d nd
      refine lc_range (lo := 0) (n := ys.length) (fun i H3 => Same H H3 ∧ ∃ zs, H3 d = some (.lst zs) ∧ zs.length ≤ i ∧ ((zs = [] ∧ firstUse x 0 s0.vows = firstUse x i (s0.vows.drop i)) ∨ ∃ (j : Nat) (r : List V), zs = V.int j :: r ∧ firstUse x 0 s0.vows = some j ∧ j ≤ 1000)) ⟨same_upd nd, [], upd_same, Nat.le_refl _, .inl ⟨rfl, by rw [List.drop_zero]⟩⟩ ?_ ?_
      · rintro i H3 hi ⟨s3, zs, ed, hzl, hz⟩
        obtain ⟨vw, hvw, uv⟩ := paired_get hpv (List.getElem?_eq_getElem hi)
        have aty : atI ys (0 + (i : Int)) = some ys[i] := by
          rw [Int.zero_add]
          exact atI_nat (List.getElem?_eq_getElem hi)
        refine ⟨rfl, .str x, rfl, .ref c, rfl, c, _, _, _, rfl, rfl, s3.sqt hc, atI_nat (j := 1) rfl, .int _, rfl, l, _, _, _, rfl, rfl, .inl (.inl (s3 _ _ hl)), aty, _, vw, rfl, uv.ts s3.ts, fun H4 a s4 ha => ?_⟩
        refine ⟨a, _, rfl, .inl (.inl (.inl ha)), rfl, flat_str _, _, rfl, ?_⟩
        rw [inV_str]
        have ux : (vw.names.any fun z => decide (z = x)) = vw.has x := rfl
        rw [ux]
        have ed4 := s4 _ _ ed
        have s34 := s3.trans s4
        have ft := firstUse_turn (x := x) hvw
        cases hux : vw.has x with
        | false =>
          rw [hux, if_neg Bool.false_ne_true] at ft
          refine iteF ⟨s34, zs, ed4, by omega, ?_⟩
          rcases hz with ⟨e, h1⟩ | h1
          · exact .inl ⟨e, h1.trans ft⟩
          · exact .inr h1
        | true =>
          rw [hux, if_pos rfl] at ft
          refine iteT ⟨.int _, rfl, zs, ed4, by omega, same_set s34 nd, zs ++ [V.int (0 + (i : Int))], upd_same, by rw [List.length_append, List.length_singleton]; omega, .inr ?_⟩
          rcases hz with ⟨rfl, h1⟩ | ⟨j, r, rfl, h1⟩
          · exact ⟨i, [], by rw [Int.zero_add]; rfl, h1.trans ft, by omega⟩
          · exact ⟨j, r ++ [V.int (0 + (i : Int))], rfl, h1⟩
      · rintro H3 ⟨s3, zs, ed, hzl, hz⟩
        refine ⟨.ref d, rfl, Nat.zero_le _, fun l2 nl => ⟨d, l2, zs, rfl, rfl, .inl (.inl (same_upd nl _ _ ed)), .inl (.inl upd_same), _, rfl, ?_⟩⟩
        have s5 := s3.trans (same_upd (o := .lst []) nl)
        have ed5 := same_upd (o := .lst []) nl _ _ ed
        generalize upd H3 l2 (.lst []) = H5 at s5 ed5 ⊢
        rcases hz with ⟨rfl, h1⟩ | ⟨j, r, rfl, h1, hj⟩
        · rw [hll, List.drop_length] at h1
          have hb' : firstUse x 0 s0.vows = none := h1
          have he : remA s0 x = .ok ⟨dropF s0.tab x, s0.vows⟩ := by
            unfold remA
            rw [hx, if_pos rfl, hb']
          obtain ⟨kvs, et, tv⟩ := id (ht.same s5)
          have ndk : (kvs.map (·.1)).Nodup := by
            rw [tv.keys]
            exact List.Pairwise.map _ (fun a b h e => h (Sum.inr.inj e)) ao.nd
          have lk : ∀ {od : Obj} b o, b ≠ t → H5 b = some o → upd H5 t (.frz od (.dK kvs)) b = some o := fun b o hb e => by rw [upd_ne hb]; exact e
          have tupL : ∀ {od : Obj} {a : Addr} {xs : List V}, SqT K H5 a xs → SqT K (upd H5 t (.frz od (.dK kvs))) a xs := fun {od a xs} h => by
            rcases h with (h | ⟨o, h⟩) | h
            · exact .inl (.inl (lk _ _ (fun e => by rw [e, et] at h; cases h) h))
            · exact .inl (.inr ⟨o, lk _ _ (fun e => by rw [e, et] at h; cases h) h⟩)
            · exact .inr h
          refine iteF ⟨t, .dK kvs, et, True.intro, fun od => ?_⟩
          refine ⟨.ref c, rfl, c, _, _, _, rfl, rfl, tupL (s5.sqt hc), atI_nat (j := 0) rfl, t, od, rfl, .inl ⟨kvs, upd_same, fun Dn nDn => ?_⟩⟩
          have hcL : SqT K (upd H5 t (.frz od (.dK kvs))) c _ := tupL (s5.sqt hc)
          generalize hHL : upd H5 t (.frz od (.dK kvs)) = HL at nDn hcL ⊢
          have etL : HL t = some (.frz od (.dK kvs)) := by rw [← hHL]; exact upd_same
          refine lc_keys (fun i H6 => Same HL H6 ∧ ∃ ps, H6 Dn = some (.lst (ps.map V.ref)) ∧ Paired (fun p (kv : Key × V) => SqT K H6 p [kV kv.1, kv.2]) ps (dropK (kvs.take i) (Sum.inr x))) ⟨same_upd nDn, [], upd_same, .nil⟩ ?_ ?_ ?_
          · rintro i H6 ⟨s6, _⟩
            exact s6 _ _ etL
          · rintro i k1 z H6 hk ⟨s6, ps, e6, hp6⟩
            obtain ⟨pq, hpq, rk, _⟩ := paired_get tv hk
            have ek : k1 = Sum.inr pq.1 := rk
            have hst := drop_app (x := Sum.inr x) hk
            have hv := valV_at ndk hk
            have hll2 : ps.length ≤ 900 := by
              rw [hp6.length]
              refine Nat.le_trans (List.length_filter_le _ _) ?_
              rw [List.length_take, tv.length]
              omega
            subst ek
            refine ⟨rfl, .str pq.1, rfl, .str x, rfl, rfl, _, rfl, ?_⟩
            by_cases hk2 : pq.1 = x
            · rw [if_pos (by rw [hk2])] at hst
              exact ifF (by rw [hk2]; simp) ⟨s6, ps, e6, by rw [hst]; exact hp6⟩
            · rw [if_neg (fun e => hk2 (inr_eq.mp e))] at hst
              refine ifT (by simpa using hk2) ⟨.str pq.1, rfl, .ref c, rfl, c, _, _, _, rfl, rfl, s6.sqt hcL, atI_nat (j := 0) rfl, .str pq.1, rfl, t, z, rfl, .inl ⟨kvs, Sum.inr pq.1, .inr ⟨od, s6 _ _ etL⟩, rfl, hv.symm⟩, by show 2 ≤ sizeLine; omega, fun g ng => ?_⟩
              have s7 := s6.trans (same_upd (o := .tup [.str pq.1, z]) ng)
              have e7 := same_upd (o := .tup [.str pq.1, z]) ng _ _ e6
              have p7 := Paired.mapP hp6 fun a (kv : Key × V) (z' : SqT K H6 a [kV kv.1, kv.2]) => (same_upd (o := .tup [.str pq.1, z]) ng).sqt z'
              have eg : upd H6 g (.tup [.str pq.1, z]) g = some (.tup [.str pq.1, z]) := upd_same
              generalize upd H6 g (.tup [.str pq.1, z]) = H7 at s7 e7 p7 eg ⊢
              refine ⟨_, e7, small1000 (by rw [List.length_map]; omega), same_set s7 nDn, ps ++ [g], ?_, ?_⟩
              · rw [upd_same, List.map_append]
                rfl
              · have tw : Ts H7 (upd H7 Dn (.lst (ps.map V.ref ++ [V.ref g]))) := ts_set e7
                rw [hst]
                exact Paired.mapP (paired_append p7 (.cons (show SqT K H7 g [kV (Sum.inr pq.1), z] from .inl (.inl eg)) .nil)) fun a (kv : Key × V) (z' : SqT K H7 a [kV kv.1, kv.2]) => tw.sqt z'
          · rintro H6 ⟨s6, ps, e6, hp6⟩
            rw [List.take_length] at hp6
            have et6 : H6 t = some (.frz od (.dK kvs)) := s6 _ _ etL
            have nDnt : Dn ≠ t := fun e => by
              rw [e, etL] at nDn
              cases nDn
            have s7 : Same H5 (upd H6 t (.dK kvs)) := fun b o e => by
              by_cases hb : b = t
              · rw [hb, upd_same]
                rw [hb, et] at e
                exact e
              · rw [upd_ne hb]
                exact s6 _ _ (by rw [← hHL]; exact lk _ _ hb e)
            have e7 : upd H6 t (.dK kvs) Dn = some (.lst (ps.map V.ref)) := by
              rw [upd_ne nDnt]
              exact e6
            have p7 : Paired (fun p (kv : Key × V) => SqT K (upd H6 t (.dK kvs)) p [kV kv.1, kv.2]) ps (dropK kvs (Sum.inr x)) := Paired.mapP hp6 fun a kv z' => by
              rcases z' with (h | ⟨o, h⟩) | h
              · exact .inl (.inl (by rw [upd_ne (fun e => by rw [e, et6] at h; cases h)]; exact h))
              · exact .inl (.inr ⟨o, by rw [upd_ne (fun e => by rw [e, et6] at h; cases h)]; exact h⟩)
              · exact .inr h
            refine ⟨et6, Dn, ps, dropK kvs (Sum.inr x), rfl, ?_⟩
            generalize upd H6 t (.dK kvs) = H8 at s7 e7 p7 ⊢
            refine ⟨.inl (.inl e7), p7, fun g ng => ?_⟩
            have hmg : mergeK [] (dropK kvs (Sum.inr x)) = dropK kvs (Sum.inr x) := merge_nd (List.Nodup.sublist (List.Sublist.map _ (List.filter_sublist ..)) ndk)
            rw [hmg]
            have s8 := s7.trans (same_upd (o := .dK (dropK kvs (Sum.inr x))) ng)
            have eg : upd H8 g (.dK (dropK kvs (Sum.inr x))) g = some (.dK (dropK kvs (Sum.inr x))) := upd_same
            generalize upd H8 g (.dK (dropK kvs (Sum.inr x))) = H9 at s8 eg ⊢
            have s9 := s5.trans s8
            refine ⟨.ref g, rfl, .ref c, rfl, c, _, _, _, rfl, rfl, s9.sqt hc, atI_nat (j := 1) rfl, .ref c, rfl, c, _, _, _, rfl, rfl, s9.sqt hc, atI_nat (j := 2) rfl, _, _, rfl, rfl, by show 3 ≤ sizeLine; omega, fun r nr => ?_⟩
            have s10 := same_upd (o := .tup [.ref g, .ref l, .int ((k : Int) + 1)]) nr
            have s11 := s9.trans s10
            refine q _ _ s11 ?_
            rw [he]
            exact ⟨r, g, l, ys, rfl, .inl (.inl upd_same), ⟨_, s10 _ _ eg, (tv.ts (s8.trans s10).ts).drop⟩, s11 _ _ hl, Paired.mapP hpv fun _ _ z => z.ts s11.ts⟩
        · have he : remA s0 x = .error (.use j) := by
            unfold remA
            rw [hx, if_pos rfl, h1]
          have ht31 : top31 = 10000000000000000000000000000000 := rfl
          have nb := Nd.int (i := (j : Int)) (by omega) (by omega)
          refine iteT ⟨.ref d, rfl, d, _, _, _, rfl, rfl, .inl (.inl ed5), atI_nat (j := 0) rfl, .int j, .int j, rfl, .int j, nb.sh, nb.nd, Nat.le_trans nb.dp (by decide), nb.len (by decide), by show 2 ≤ sizeLine; omega, fun r nr => ?_⟩
          refine q _ _ (s5.trans (same_upd nr)) ?_
          rw [he]
          exact ⟨r, rfl, upd_same⟩
end
end Kr

set_option Elab.async false
set_option linter.all false
set_option maxRecDepth 100000
set_option maxHeartbeats 4000000
/-! Jobs: drawn, and what they are due to come to. -/
namespace Kr
open PySem PySem.Spec PyProof.Rows L2
inductive Job where
  | put (x : Str) (F : List Fct)
  | vow (u : Vow)
  | rem (x : Str)
  | lift (i : Int)
def JobV (K : PySem.W.Frag) (H : Hp) (v : V) : Job → Prop
  | .put x F => ∃ a u, v = .ref a ∧ SqT K H a [.str "put", .str x, u] ∧ FactsV K H u F
  | .vow w => ∃ a u, v = .ref a ∧ SqT K H a [.str "promise", u] ∧ VowV K H u w
  | .rem x => ∃ a, v = .ref a ∧ SqT K H a [.str "remove", .str x]
  | .lift i => ∃ a, v = .ref a ∧ SqT K H a [.str "lift", .int i]
theorem JobV.ts {K : PySem.W.Frag} {H H' : Hp} {v : V} {j : Job} (e : Ts H H') (h : JobV K H v j) : JobV K H' v j := by
  cases j with
  | put x F =>
    obtain ⟨a, u, rfl, h1, h2⟩ := h
    exact ⟨a, u, rfl, e.sqt h1, h2.ts e⟩
  | vow w =>
    obtain ⟨a, u, rfl, h1, h2⟩ := h
    exact ⟨a, u, rfl, e.sqt h1, h2.ts e⟩
  | rem x =>
    obtain ⟨a, rfl, h1⟩ := h
    exact ⟨a, rfl, e.sqt h1⟩
  | lift i =>
    obtain ⟨a, rfl, h1⟩ := h
    exact ⟨a, rfl, e.sqt h1⟩
def JobOk (n : Nat) : Job → Prop
  | .put x F => GoodName x ∧ FOk n F
  | .vow w => UB w ∧ ∀ x ∈ w.names, GoodName x
  | .rem x => GoodName x
  | .lift i => -1000 ≤ i ∧ i ≤ 1000
noncomputable def Job.act (s : AS) : Job → Except Er AS
  | .put x F => putA s x F
  | .vow w => vowA s w
  | .rem x => remA s x
  | .lift i => liftA s i
theorem AOk.act {n : Nat} {s s' : AS} {j : Job} (h : AOk n s) (jo : JobOk n j) (e : j.act s = .ok s') : AOk n s' := by
  cases j with
  | put x F => exact h.put jo.2 jo.1 e
  | vow w => exact h.vow jo.2 jo.1.p0 e
  | rem x => exact h.rem e
  | lift i => exact h.lift e
theorem put_len {tab : Tab} {x : Str} {F : List Fct} : (putF tab x F).length ≤ tab.length + 1 := by
  unfold putF
  split
  · rw [List.length_map]
    omega
  · rw [List.length_append, List.length_singleton]
    exact Nat.le_refl _
theorem act_len {s s' : AS} {j : Job} (e : j.act s = .ok s') : s'.tab.length ≤ s.tab.length + 1 ∧ s'.vows.length ≤ s.vows.length + 1 := by
  cases j with
  | put x F =>
    have e : putA s x F = .ok s' := e
    unfold putA at e
    split at e
    · cases e
    · cases e
      exact ⟨put_len, by simp⟩
  | vow w =>
    have e : vowA s w = .ok s' := e
    unfold vowA at e
    split at e
    · cases e
    · split at e
      · cases e
      · cases e
        exact ⟨by simp, by simp⟩
  | rem x =>
    have e : remA s x = .ok s' := e
    unfold remA at e
    split at e
    · split at e
      · cases e
      · cases e
        exact ⟨Nat.le_trans (List.length_filter_le _ _) (Nat.le_succ _), by simp⟩
    · cases e
  | lift i =>
    have e : liftA s i = .ok s' := e
    unfold liftA at e
    split at e
    · cases e
      refine ⟨by simp, ?_⟩
      show (cutAt s.vows i.toNat).length ≤ _
      unfold cutAt
      rw [List.length_append, List.length_take, List.length_drop]
      omega
    · cases e
section
variable {P : Program} {w : World} {K : PySem.W.Frag} {mg : Str → Option Value} {base : Heap}
def spLDue (K : PySem.W.Frag) : Sp := fun vs H Q _ => ∃ (M : Addr) (v u : V) (n k : Nat) (s : AS) (j : Job), vs = [.ref M, v, u] ∧ Base n ∧ MapsAt K H M n ∧ StV K H v s k ∧ JobV K H u j ∧ JobOk n j ∧ AOk n s ∧ s.tab.length ≤ 900 ∧ s.vows.length ≤ 900 ∧ k ≤ 900 ∧
  ∀ H' r, Same H H' → DueR K H' r (k + 1) (j.act s) → Q r H'
theorem sc_l_due : FnScope ["_law_maps_here", "_law_state", "_law_job_here"] ["_law_maps_here", "_law_state", "_law_job_here"] (defScope s_l_due) := ⟨rfl, rfl, rfl, by decide +kernel, rfl, by decide +kernel, by decide +kernel⟩
theorem l_due_ok (D : DefIn K mg "_law_due" s_l_due) (D_l_put : GOk P w K mg base CX0 6 "_law_put" ["_law_maps_here", "_law_state", "_law_word", "_law_heap_here"] (spLPut K)) (D_l_vowed : GOk P w K mg base CX0 6 "_law_vowed" ["_law_maps_here", "_law_state", "_law_vow_here"] (spLVowed K))
    (D_l_removed : GOk P w K mg base CX0 2 "_law_removed" ["_law_state", "_law_word"] (spLRem K)) (D_l_lifted : GOk P w K mg base CX0 1 "_law_lifted" ["_law_state", "_law_at"] (spLLifted K)) : GOk P w K mg base CX0 7 "_law_due" ["_law_maps_here", "_law_state", "_law_job_here"] (spLDue K) := by
  refine D.okG sc_l_due (fun vs H Q E h => ?_) (fun _ _ _ _ _ _ us hl => match us, hl with | [_, _, _], _ => rfl) (fun cdv A outer s H vs Q E hcd hg hr h => ?_)
  · obtain ⟨_, _, _, _, _, _, _, rfl, _⟩ := h
    rfl
  · obtain ⟨M, v, _, n, k, s0, j, rfl, hn, hM, hst, hj, jo, ao, hlt, hlv, hk, q⟩ := h
    refine ⟨_, (pss_cons (ps_if (pt_cmpR op_eq (pe_ix ix_tup (pv 2) pe_int (fun _ _ => rfl)) pe_str (nomark _)) (pss_one (ps_ret (pe_fnG D_l_put hg hr (pa_cons (pv 0) (pa_cons (pv 1) (pa_cons (pe_ix ix_tup (pv 2) pe_int (fun _ _ => rfl)) (pa_cons (pe_ix ix_tup (pv 2) pe_int (fun _ _ => rfl)) pa_nil))))))) pss_nil)
      (pss_cons (ps_if (pt_cmpR op_eq (pe_ix ix_tup (pv 2) pe_int (fun _ _ => rfl)) pe_str (nomark _)) (pss_one (ps_ret (pe_fnG D_l_vowed hg hr (pa_cons (pv 0) (pa_cons (pv 1) (pa_cons (pe_ix ix_tup (pv 2) pe_int (fun _ _ => rfl)) pa_nil)))))) pss_nil)
      (pss_one (ps_ret (pe_ifExp (pt_cmpR op_eq (pe_ix ix_tup (pv 2) pe_int (fun _ _ => rfl)) pe_str (nomark _)) (pe_fnG D_l_removed hg hr (pa_cons (pv 1) (pa_cons (pe_ix ix_tup (pv 2) pe_int (fun _ _ => rfl)) pa_nil))) (pe_fnG D_l_lifted hg hr (pa_cons (pv 1) (pa_cons (pe_ix ix_tup (pv 2) pe_int (fun _ _ => rfl)) pa_nil)))))))), ?_⟩
    cases j with
    | put x F =>
      obtain ⟨a, u, rfl, ha, hF⟩ := hj
      refine ⟨.ref a, rfl, a, _, _, _, rfl, rfl, ha, atI_nat (j := 0) rfl, rfl, _, rfl, ifT (by decide +kernel) ?_⟩
      refine ⟨.ref M, rfl, v, rfl, .ref a, rfl, a, _, _, _, rfl, rfl, ha, atI_nat (j := 1) rfl, .ref a, rfl, a, _, _, _, rfl, rfl, ha, atI_nat (j := 2) rfl, ?_⟩
      exact ⟨M, v, u, x, n, k, s0, F, rfl, hn, hM, hst, hF, ao, jo.2, hlt, hlv, hk, q⟩
    | vow vw =>
      obtain ⟨a, u, rfl, ha, hF⟩ := hj
      refine ⟨.ref a, rfl, a, _, _, _, rfl, rfl, ha, atI_nat (j := 0) rfl, rfl, _, rfl, ifF (by decide +kernel) ?_⟩
      refine ⟨.ref a, rfl, a, _, _, _, rfl, rfl, ha, atI_nat (j := 0) rfl, rfl, _, rfl, ifT (by decide +kernel) ?_⟩
      refine ⟨.ref M, rfl, v, rfl, .ref a, rfl, a, _, _, _, rfl, rfl, ha, atI_nat (j := 1) rfl, ?_⟩
      exact ⟨M, v, u, n, k, s0, vw, rfl, hn, hM, hst, hF, jo.2, jo.1, ao, hlv, q⟩
    | rem x =>
      obtain ⟨a, rfl, ha⟩ := hj
      refine ⟨.ref a, rfl, a, _, _, _, rfl, rfl, ha, atI_nat (j := 0) rfl, rfl, _, rfl, ifF (by decide +kernel) ?_⟩
      refine ⟨.ref a, rfl, a, _, _, _, rfl, rfl, ha, atI_nat (j := 0) rfl, rfl, _, rfl, ifF (by decide +kernel) ?_⟩
      refine ⟨.ref a, rfl, a, _, _, _, rfl, rfl, ha, atI_nat (j := 0) rfl, rfl, _, rfl, ifT (by decide +kernel) ?_⟩
      refine ⟨v, rfl, .ref a, rfl, a, _, _, _, rfl, rfl, ha, atI_nat (j := 1) rfl, ?_⟩
      exact ⟨v, x, n, k, s0, rfl, hst, jo, ao, hlt, hlv, q⟩
    | lift i =>
      obtain ⟨a, rfl, ha⟩ := hj
      refine ⟨.ref a, rfl, a, _, _, _, rfl, rfl, ha, atI_nat (j := 0) rfl, rfl, _, rfl, ifF (by decide +kernel) ?_⟩
      refine ⟨.ref a, rfl, a, _, _, _, rfl, rfl, ha, atI_nat (j := 0) rfl, rfl, _, rfl, ifF (by decide +kernel) ?_⟩
      refine ⟨.ref a, rfl, a, _, _, _, rfl, rfl, ha, atI_nat (j := 0) rfl, rfl, _, rfl, ifF (by decide +kernel) ?_⟩
      refine ⟨v, rfl, .ref a, rfl, a, _, _, _, rfl, rfl, ha, atI_nat (j := 1) rfl, ?_⟩
      exact ⟨v, i, k, s0, rfl, hst, hlv, jo.1, jo.2, q⟩
theorem st_ne {K : PySem.W.Frag} {H : Hp} {l p : Addr} {ys : List V} {us : List Vow} (e : H l = some (.lst ys)) (h : Paired (VowV K H) ys us) (v : Vial H p) : l ≠ p := fun z => by
  obtain ⟨a, b, h3, _⟩ := v
  rw [z, h3] at e
  have e2 := Option.some.inj e
  simp only [HO.lst.injEq] at e2
  subst e2
  cases h with
  | cons r t =>
    obtain ⟨_, q, _⟩ := r
    cases q
theorem StV.draw {K : PySem.W.Frag} {H H' : Hp} {p : Addr} {v : V} {s : AS} {k : Nat} (h : StV K H v s k) (vi : Vial H p) (e : Fr [p] H H') : StV K H' v s k := by
  obtain ⟨c, t, l, ys, rfl, hc, ht, hl, hpv⟩ := h
  have ts := e.ts vi.noT
  exact ⟨c, t, l, ys, rfl, ts.sqt hc, ht.ts ts, e _ _ (by simpa using st_ne hl hpv vi) hl, Paired.mapP hpv fun _ _ z => z.ts ts⟩
def spLJob (K : PySem.W.Frag) : Sp := fun vs H Q _ => ∃ (p M W : Addr) (v : V) (n k : Nat) (s : AS) (zs : List Str), vs = [.ref p, .ref M, v, .ref W] ∧ Vial H p ∧ Base n ∧ MapsAt K H M n ∧ StV K H v s k ∧ AOk n s ∧ s.tab.length < 64 ∧ s.vows.length ≤ 900 ∧ H W = some (.lst (zs.map V.str)) ∧ zs ≠ [] ∧ zs.length ≤ 1000 ∧ (∀ z ∈ zs, GoodName z) ∧
  ∀ H' r j, Fr [p] H H' → Vial H' p → JobV K H' r j → JobOk n j → Q r H'
theorem sc_l_job : FnScope ["_law_vial_here", "_law_maps_here", "_law_state", "_law_words_here", "_law_way", "_law_found"] ["_law_vial_here", "_law_maps_here", "_law_state", "_law_words_here"] (defScope s_l_job) := ⟨rfl, rfl, rfl, by decide +kernel, rfl, by decide +kernel, by decide +kernel⟩
theorem l_job_ok (D : DefIn K mg "_law_job" s_l_job) (T : Fre mg) (D_l_drop : DOk P w K mg base CX0 1 "_law_drop" ["_law_vial_here", "_law_size"] spDrop) (D_l_any : DOk P w K mg base CX0 2 "_law_any" ["_law_vial_here", "_law_some"] (spAny K)) (D_l_heap : DOk P w K mg base CX0 4 "_law_heap" ["_law_vial_here", "_law_maps_here", "_law_most"] (spLHeap K))
    (D_l_vow : DOk P w K mg base CX0 4 "_law_vow" ["_law_vial_here", "_law_maps_here", "_law_words_here"] (spLVow K)) (D_l_true_vow : DOk P w K mg base CX0 5 "_law_true_vow" ["_law_vial_here", "_law_maps_here", "_law_table"] (spLTrue K)) : DOk P w K mg base CX0 6 "_law_job" ["_law_vial_here", "_law_maps_here", "_law_state", "_law_words_here"] (spLJob K) := by
  refine D.ok sc_l_job (fun vs H Q E h => ?_) (fun _ _ _ _ _ _ us hl => match us, hl with | [_, _, _, _], _ => rfl) (fun cdv A outer s H vs Q E hr h => ?_)
  · obtain ⟨_, _, _, _, _, _, _, _, rfl, _⟩ := h
    rfl
  · obtain ⟨p, M, W, _, n, k, s0, zs, rfl, hv, hn, hM, ⟨c, t, l, ys, rfl, hc, ht, hl, hpv⟩, ao, hlt, hlv, eW, hz, hzl, hgz, q⟩ := h
    have hst : StV K H (.ref c) s0 k := ⟨c, t, l, ys, rfl, hc, ht, hl, hpv⟩
    have hu := hu_of hr
    have hu0 := Nat.lt_of_succ_lt hu
    have big := big1000
    refine ⟨_, (pss_cons (ps_set (i := 4) sc_l_job.nd rfl (.inl rfl) (pe_fn D_l_drop hr (pa_cons (pv 0) (pa_cons pe_int pa_nil))))
      (pss_cons (ps_if (PW.pt (pw_or (pt_cmpR op_lt (pv 4) pe_int (nomark _)) (pw_or1 (pt_cmpR (op_eq0D hu0) (pe_ix ix_tup (pv 2) pe_int (fun _ _ => rfl)) pe_dnewK (nomark _))))) (pss_one (ps_ret (pe_tup (pa_cons pe_str (pa_cons (pe_fn D_l_any hr (pa_cons (pv 0) (pa_cons (pv 3) pa_nil))) (pa_cons (pe_fn D_l_heap hr (pa_cons (pv 0) (pa_cons (pv 1) (pa_cons pe_int pa_nil)))) pa_nil)))))) pss_nil)
      (pss_cons (ps_if (pt_cmpR op_lt (pv 4) pe_int (nomark _)) (pss_cons (ps_set (i := 5) sc_l_job.nd rfl (.inl rfl) (pe_fn D_l_true_vow hr (pa_cons (pv 0) (pa_cons (pv 1) (pa_cons (pe_ix ix_tup (pv 2) pe_int (fun _ _ => rfl)) pa_nil)))))
        (pss_one (ps_ret (pe_tup (pa_cons pe_str (pa_cons (pe_ifExp (pt_cmpR op_gt (pe_fn D_l_drop hr (pa_cons (pv 0) (pa_cons pe_int pa_nil))) pe_int (nomark _)) (pv 5) (pe_fn D_l_vow hr (pa_cons (pv 0) (pa_cons (pv 1) (pa_cons (pv 3) pa_nil))))) pa_nil)))))) pss_nil)
      (pss_cons (ps_if (pt_cmpR op_eq (pv 4) pe_int (nomark _)) (pss_one (ps_ret (pe_tup (pa_cons pe_str (pa_cons (pe_fn D_l_any hr (pa_cons (pv 0) (pa_cons (pv 3) pa_nil))) pa_nil))))) pss_nil)
      (pss_one (ps_ret (pe_tup (pa_cons pe_str (pa_cons (pe_op op_sub (pe_fn D_l_drop hr (pa_cons (pv 0) (pa_cons (pe_op op_add (pe_callB call_len_seq (by rfl) T.len_ (by decide +kernel) (pa_cons (pe_ix ix_tup (pv 2) pe_int (fun _ _ => rfl)) pa_nil)) pe_int) pa_nil))) pe_int) pa_nil))))))))), ?_⟩
    have nWp := strs_ne eW hv
    have hzm : zs.map V.str ≠ [] := fun e => hz (List.map_eq_nil_iff.mp e)
    have hzml : (zs.map V.str).length ≤ 1000 := by rw [List.length_map]; exact hzl
    obtain ⟨kvs, et, tv⟩ := id ht
    refine ⟨.ref p, rfl, p, 8, rfl, hv, by decide, by decide, fun H1 way f1 v1 w0 w1 => ?_⟩
    -- a put
    have fin : ∀ H3 x, x ∈ zs → Fr [p] H H3 → ∀ H4 z F, Fr [p] H3 H4 → Vial H4 p → FactsV K H4 z F → FOk n F → ∀ r, H4 r = none → Q (.ref r) (upd H4 r (.tup [.str "put", .str x, z])) := fun H3 x hx f3 H4 z F f4 v4 hF fo r nr => by
      have s5 := same_upd (o := .tup [.str "put", .str x, z]) nr
      exact q _ _ (.put x F) ((f3.trans f4).new nr) (v4.same s5) ⟨r, z, rfl, .inl (.inl upd_same), hF.ts s5.ts⟩ ⟨hgz x hx, fo⟩
    refine ⟨.int way, rfl, _, _, rfl, rfl, _, rfl, ite2 (fun hw => ?_) fun hw => ?_⟩
    · refine iteT ⟨.ref p, rfl, .ref W, rfl, p, W, _, rfl, v1, .inl (.inl (f1 _ _ (by simpa using nWp) eW)), nWp, hzm, hzml, fun H3 y f3 v3 hy => ?_⟩
      obtain ⟨x, hx, rfl⟩ := List.mem_map.mp hy
      exact ⟨.ref p, rfl, .ref M, rfl, p, M, n, rfl, v3, hn, hM.draw hn hv (f1.trans f3), fun H4 z F f4 v4 hF fo => ⟨by show 3 ≤ sizeLine; omega, fin H3 x hx (f1.trans f3) H4 z F f4 v4 hF fo⟩⟩
    · have ts1 := f1.ts hv.noT
      have et1 := ts1.dk _ _ et
      refine ⟨.ref c, rfl, c, _, _, _, rfl, rfl, ts1.sqt hc, atI_nat (j := 0) rfl, ?_⟩
      intro d nd
      have s2 := same_upd (o := .dK []) nd
      refine ⟨t, d, kvs, rfl, rfl, s2 _ _ et1, upd_same, _, rfl, ?_⟩
      have f2 := f1.new (o := .dK []) nd
      have v2 := v1.same s2
      generalize upd H1 d (.dK []) = H2 at f2 v2 ⊢
      have ts2 := f2.ts hv.noT
      cases hke : kvs.isEmpty with
      | true =>
        refine iteT ⟨.ref p, rfl, .ref W, rfl, p, W, _, rfl, v2, .inl (.inl (f2 _ _ (by simpa using nWp) eW)), nWp, hzm, hzml, fun H3 y f3 v3 hy => ?_⟩
        obtain ⟨x, hx, rfl⟩ := List.mem_map.mp hy
        exact ⟨.ref p, rfl, .ref M, rfl, p, M, n, rfl, v3, hn, hM.draw hn hv (f2.trans f3), fun H4 z F f4 v4 hF fo => ⟨by show 3 ≤ sizeLine; omega, fin H3 x hx (f2.trans f3) H4 z F f4 v4 hF fo⟩⟩
      | false =>
        have htne : s0.tab ≠ [] := fun e => by
          have := tv.length
          rw [e] at this
          rw [List.length_eq_zero_iff.mp this] at hke
          cases hke
        refine iteF ⟨.int way, rfl, _, _, rfl, rfl, _, rfl, ite2 (fun h6 => ?_) fun h6 => ?_⟩
        · refine ⟨.ref p, rfl, .ref M, rfl, .ref c, rfl, c, _, _, _, rfl, rfl, ts2.sqt hc, atI_nat (j := 0) rfl, p, M, t, n, s0.tab, rfl, v2, hn, hM.draw hn hv f2, ht.ts ts2, ao.t, htne, hlt, fun H3 y u f3 v3 hu3 ub hun => ?_⟩
          have f23 := f2.trans f3
          refine ⟨.ref p, rfl, p, 8, rfl, v3, by decide, by decide, fun H4 d4 f4 v4 a4 b4 => ⟨_, _, rfl, rfl, _, rfl, ite2 (fun hd4 => ?_) fun hd4 => ?_⟩⟩
          · refine ⟨y, rfl, by show 2 ≤ sizeLine; omega, fun r nr => ?_⟩
            have s5 := same_upd (o := .tup [.str "promise", y]) nr
            refine q _ _ (.vow u) ((f23.trans f4).new nr) (v4.same s5) ⟨r, y, rfl, .inl (.inl upd_same), (hu3.ts (f4.ts v3.noT)).ts s5.ts⟩ ⟨ub, fun x hx => ?_⟩
            obtain ⟨pr, hpr, e⟩ := List.mem_map.mp (hun x hx)
            rw [← e]
            exact ao.g pr hpr
          · have f24 := f23.trans f4
            refine ⟨.ref p, rfl, .ref M, rfl, .ref W, rfl, p, M, W, n, zs, rfl, v4, hn, hM.draw hn hv f24, f24 _ _ (by simpa using nWp) eW, hz, hzl, fun H5 z u5 f5 v5 hu5 ub5 hun5 => ⟨by show 2 ≤ sizeLine; omega, fun r nr => ?_⟩⟩
            have s5 := same_upd (o := .tup [.str "promise", z]) nr
            exact q _ _ (.vow u5) ((f24.trans f5).new nr) (v5.same s5) ⟨r, z, rfl, .inl (.inl upd_same), hu5.ts s5.ts⟩ ⟨ub5, fun x hx => hgz x (hun5 x hx)⟩
        · refine ⟨.int way, rfl, rfl, _, rfl, ite2 (fun h7 => ?_) fun h7 => ?_⟩
          · refine ⟨.ref p, rfl, .ref W, rfl, p, W, _, rfl, v2, .inl (.inl (f2 _ _ (by simpa using nWp) eW)), nWp, hzm, hzml, fun H3 y f3 v3 hy => ⟨by show 2 ≤ sizeLine; omega, fun r nr => ?_⟩⟩
            obtain ⟨x, hx, rfl⟩ := List.mem_map.mp hy
            have s5 := same_upd (o := .tup [.str "remove", .str x]) nr
            exact q _ _ (.rem x) ((f2.trans f3).new nr) (v3.same s5) ⟨r, rfl, .inl (.inl upd_same)⟩ (hgz x hx)
          · have hl2 := f2 _ _ (by simpa using st_ne hl hpv hv) hl
            have hll := hpv.length
            refine ⟨.ref p, rfl, .ref c, rfl, c, _, _, _, rfl, rfl, ts2.sqt hc, atI_nat (j := 1) rfl, l, ys, rfl, .inl (.inl (.inl hl2)), _, _, rfl, rfl, p, _, rfl, v2, by omega, by omega, fun H3 d3 f3 v3 a3 b3 => ⟨_, _, rfl, rfl, by show 2 ≤ sizeLine; omega, fun r nr => ?_⟩⟩
            have s5 := same_upd (o := .tup [.str "lift", .int (d3 - 1)]) nr
            exact q _ _ (.lift (d3 - 1)) ((f2.trans f3).new nr) (v3.same s5) ⟨r, rfl, .inl (.inl upd_same)⟩ ⟨by omega, by omega⟩
end
end Kr

set_option Elab.async false
set_option linter.all false
set_option maxRecDepth 100000
set_option maxHeartbeats 4000000
/-! The law does a job. -/
namespace Kr
open PySem PySem.Spec PyProof.Rows L2
section
variable {P : Program} {w : World} {K : PySem.W.Frag} {mg : Str → Option Value} {base : Heap}
def spLDo (K : PySem.W.Frag) : Sp := fun vs H Q E => ∃ (D : Addr) (v : V) (j : Job) (n : Nat) (s : AS) (r : List AS), vs = [.ref D, v] ∧ JobV K H v j ∧ JobOk n j ∧ Base n ∧ DeskAt K H D (s :: r) ∧ AOk n s ∧ s.tab.length ≤ 900 ∧ s.vows.length ≤ 900 ∧ DeedR K H D (s :: r) (j.act s) Q E
theorem sc_l_do : FnScope ["_law_desk_here", "_law_job_here"] ["_law_desk_here", "_law_job_here"] (defScope s_l_do) := ⟨rfl, rfl, rfl, by decide +kernel, rfl, by decide +kernel, by decide +kernel⟩
theorem l_do_ok (D : DefIn K mg "_law_do" s_l_do) (C : DeskC K mg) (hq : PySem.W.noSeq K (He.ga K "Desk") = true) (MS : MOk P w K mg base (L2.CX P w) 9 "Desk" "__setitem__" ["self", "name", "facts"] (spDSet K)) (MP : MOk P w K mg base (L2.CX P w) 9 "Desk" "promise" ["self", "promise"] (spDVow K))
    (MR : MOk P w K mg base (L2.CX P w) 3 "Desk" "remove" ["self", "name"] (spDRem K)) (ML : MOk P w K mg base (L2.CX P w) 3 "Desk" "lift" ["self", "index"] (spDLift K)) : DOk P w K mg base (L2.CX P w) 10 "_law_do" ["_law_desk_here", "_law_job_here"] (spLDo K) := by
  obtain ⟨fdS, FS, bS⟩ := MS.ok
  obtain ⟨fdP, FP, bP⟩ := MP.ok
  obtain ⟨fdR, FR, bR⟩ := MR.ok
  obtain ⟨fdL, FL, bL⟩ := ML.ok
  refine D.okX sc_l_do (fun vs H Q E h => ?_) (fun _ _ _ _ _ _ us hl => match us, hl with | [_, _], _ => rfl) (fun cdv A outer s H vs Q E hr h => ?_)
  · obtain ⟨_, _, _, _, _, _, rfl, _⟩ := h
    rfl
  · obtain ⟨D0, v, j, n, s0, r, rfl, hj, jo, hn, hd, ao, hlt, hlv, q⟩ := h
    refine ⟨_, (pss_cons (ps_if (pt_cmpR op_eq (pe_ix ix_tup (pv 1) pe_int (fun _ _ => rfl)) pe_str (nomark _)) (pss_cons (ps_asg (pe_ix ix_tup (pv 1) pe_int (fun _ _ => rfl)) (pg_sub (pv 0) (pe_ix ix_tup (pv 1) pe_int (fun _ _ => rfl)) (set_own hq ⟨MS.at_, MS.fn⟩ FS (hr.mono (by decide)) bS (passes_call (takes_of rfl rfl rfl rfl) (fun _ _ _ _ h => h)))))
        (pss_one (ps_ret pe_non))) pss_nil)
      (pss_cons (ps_if (pt_cmpR op_eq (pe_ix ix_tup (pv 1) pe_int (fun _ _ => rfl)) pe_str (nomark _)) (pss_one (ps_ret (pe_meth (pv 0) C.cl ⟨MP.at_, MP.fn, MP.kp⟩ FP (hr.mono (by decide)) bP .nil (passes_call (takes_of rfl rfl rfl rfl) (fun _ _ _ _ h => h)) (pa_cons (pe_ix ix_tup (pv 1) pe_int (fun _ _ => rfl)) pa_nil)))) pss_nil)
      (pss_one (ps_ret (pe_ifExp (pt_cmpR op_eq (pe_ix ix_tup (pv 1) pe_int (fun _ _ => rfl)) pe_str (nomark _)) (pe_meth (pv 0) C.cl ⟨MR.at_, MR.fn, MR.kp⟩ FR (hr.mono (by decide)) bR .nil (passes_call (takes_of rfl rfl rfl rfl) (fun _ _ _ _ h => h)) (pa_cons (pe_ix ix_tup (pv 1) pe_int (fun _ _ => rfl)) pa_nil)) (pe_meth (pv 0) C.cl ⟨ML.at_, ML.fn, ML.kp⟩ FL (hr.mono (by decide)) bL .nil (passes_call (takes_of rfl rfl rfl rfl) (fun _ _ _ _ h => h)) (pa_cons (pe_ix ix_tup (pv 1) pe_int (fun _ _ => rfl)) pa_nil))))))), ?_⟩
    obtain ⟨dx, v0, eD, _⟩ := id hd
    cases j with
    | put x F =>
      obtain ⟨a, u, rfl, ha, hF⟩ := hj
      refine ⟨.ref a, rfl, a, _, _, _, rfl, rfl, ha, atI_nat (j := 0) rfl, rfl, _, rfl, ifT (by decide +kernel) ?_⟩
      refine ⟨.ref a, rfl, a, _, _, _, rfl, rfl, ha, atI_nat (j := 2) rfl, .ref D0, rfl, .ref a, rfl, a, _, _, _, rfl, rfl, ha, atI_nat (j := 1) rfl, D0, dx, _, rfl, eD, ?_⟩
      refine ⟨D0, x, u, F, n, s0, r, rfl, jo.1, hF, hn, jo.2, hd, ao, hlt, fun s' e H' f d => ?_, q.2⟩
      exact q.1 s' e H' f d
    | vow vw =>
      obtain ⟨a, u, rfl, ha, hF⟩ := hj
      refine ⟨.ref a, rfl, a, _, _, _, rfl, rfl, ha, atI_nat (j := 0) rfl, rfl, _, rfl, ifF (by decide +kernel) ?_⟩
      refine ⟨.ref a, rfl, a, _, _, _, rfl, rfl, ha, atI_nat (j := 0) rfl, rfl, _, rfl, ifT (by decide +kernel) ?_⟩
      refine ⟨.ref D0, rfl, D0, dx, _, rfl, eD, rfl, .ref a, rfl, a, _, _, _, rfl, rfl, ha, atI_nat (j := 1) rfl, ?_⟩
      exact ⟨D0, u, vw, n, s0, r, rfl, hF, jo.2, jo.1.p0, hn, hd, ao, hlv, q⟩
    | rem x =>
      obtain ⟨a, rfl, ha⟩ := hj
      refine ⟨.ref a, rfl, a, _, _, _, rfl, rfl, ha, atI_nat (j := 0) rfl, rfl, _, rfl, ifF (by decide +kernel) ?_⟩
      refine ⟨.ref a, rfl, a, _, _, _, rfl, rfl, ha, atI_nat (j := 0) rfl, rfl, _, rfl, ifF (by decide +kernel) ?_⟩
      refine ⟨.ref a, rfl, a, _, _, _, rfl, rfl, ha, atI_nat (j := 0) rfl, rfl, _, rfl, ifT (by decide +kernel) ?_⟩
      refine ⟨.ref D0, rfl, D0, dx, _, rfl, eD, rfl, .ref a, rfl, a, _, _, _, rfl, rfl, ha, atI_nat (j := 1) rfl, ?_⟩
      exact ⟨D0, x, n, s0, r, rfl, jo, hd, ao, hlt, q⟩
    | lift i =>
      obtain ⟨a, rfl, ha⟩ := hj
      refine ⟨.ref a, rfl, a, _, _, _, rfl, rfl, ha, atI_nat (j := 0) rfl, rfl, _, rfl, ifF (by decide +kernel) ?_⟩
      refine ⟨.ref a, rfl, a, _, _, _, rfl, rfl, ha, atI_nat (j := 0) rfl, rfl, _, rfl, ifF (by decide +kernel) ?_⟩
      refine ⟨.ref a, rfl, a, _, _, _, rfl, rfl, ha, atI_nat (j := 0) rfl, rfl, _, rfl, ifF (by decide +kernel) ?_⟩
      refine ⟨.ref D0, rfl, D0, dx, _, rfl, eD, rfl, .ref a, rfl, a, _, _, _, rfl, rfl, ha, atI_nat (j := 1) rfl, ?_⟩
      exact ⟨D0, i, s0, r, rfl, hd, Nat.le_trans hlv (by decide), q⟩
end
end Kr

set_option Elab.async false
set_option linter.all false
set_option maxRecDepth 100000
set_option maxHeartbeats 4000000
/-! What is seen of a desk, and what is due to be seen. -/
namespace Kr
open PySem PySem.Spec PyProof.Rows L2
/-! ### sorted lists -/
abbrev leS (a b : Str) : Prop := ltCps b.cps.toList a.cps.toList = false
theorem ltCps_anti : ∀ {a b : List Nat}, ltCps a b = false → ltCps b a = false → a = b
  | [], [], _, _ => rfl
  | [], _ :: _, h, _ => by simp [ltCps] at h
  | _ :: _, [], _, h => by simp [ltCps] at h
  | a :: r, b :: t, h, g => by
    simp only [ltCps, Bool.or_eq_false_iff, decide_eq_false_iff_not, Bool.and_eq_false_iff, beq_eq_false_iff_ne] at h g
    have e : a = b := by omega
    subst e
    have h2 := h.2.resolve_left (fun z => z rfl)
    have g2 := g.2.resolve_left (fun z => z rfl)
    rw [ltCps_anti h2 g2]
theorem ltCps_trans : ∀ {a b c : List Nat}, ltCps b a = false → ltCps c b = false → ltCps c a = false
  | [], _, [], _, _ => rfl
  | [], _, _ :: _, _, _ => rfl
  | _ :: _, [], _, h, _ => by simp [ltCps] at h
  | _ :: _, _ :: _, [], _, h => by simp [ltCps] at h
  | a :: r, b :: t, c :: u, h, g => by
    simp only [ltCps, Bool.or_eq_false_iff, decide_eq_false_iff_not, Bool.and_eq_false_iff, beq_eq_false_iff_ne] at h g ⊢
    refine ⟨by omega, ?_⟩
    by_cases e : c = a
    · subst e
      have e2 : b = c := by omega
      subst e2
      exact .inr (ltCps_trans (h.2.resolve_left (fun z => z rfl)) (g.2.resolve_left (fun z => z rfl)))
    · exact .inl e
theorem rising_pw : ∀ {l : List Str} {p : Str}, risingS p l = true → (p :: l).Pairwise leS
  | [], p, _ => by simp
  | x :: r, p, h => by
    have h : (!ltCps x.cps.toList p.cps.toList && risingS x r) = true := h
    rw [Bool.and_eq_true] at h
    have h1 : leS p x := by simpa using h.1
    have ih := rising_pw h.2
    refine List.pairwise_cons.mpr ⟨fun y hy => ?_, ih⟩
    rcases List.mem_cons.mp hy with rfl | hy
    · exact h1
    · exact ltCps_trans h1 ((List.pairwise_cons.mp ih).1 y hy)
theorem sorted_pw {l : List Str} (h : sortedS l = true) : l.Pairwise leS := by
  cases l with
  | nil => exact .nil
  | cons x r => exact rising_pw h
theorem sort_uniq {l k : List Str} (p : l.Perm k) (h : sortedS l = true) (g : sortedS k = true) : l = k :=
  List.Perm.eq_of_pairwise (le := leS) (fun a b _ _ h1 h2 => by
    have e := ltCps_anti h2 h1
    cases a with
    | mk a =>
      cases b with
      | mk b =>
        have e2 : a = b := Array.toList_inj.mp e
        rw [e2]) (sorted_pw h) (sorted_pw g) p
/-! ### data stays -/
mutual
theorem Dp.same {K : PySem.W.Frag} {H H' : Hp} (e : Same H H') : ∀ {v : V} {d : PyData}, Dp K H v d → Dp K H' v d
  | _, _, .non => .non
  | _, _, .bl b => .bl b
  | _, _, .int i => .int i
  | _, _, .str x => .str x
  | _, _, .lst h t => .lst ((e.fr []).sql (by simp) h) (DpAll.same e t)
  | _, _, .tup h t => .tup (e.sqt h) (DpAll.same e t)
theorem DpAll.same {K : PySem.W.Frag} {H H' : Hp} (e : Same H H') : ∀ {vs : List V} {ds : List PyData}, DpAll K H vs ds → DpAll K H' vs ds
  | _, _, .nil => .nil
  | _, _, .cons h t => .cons (Dp.same e h) (DpAll.same e t)
end
theorem dpAll_snoc {K : PySem.W.Frag} {H : Hp} {v : V} {d : PyData} (h : Dp K H v d) : ∀ {vs : List V} {ds : List PyData}, DpAll K H vs ds → DpAll K H (vs ++ [v]) (ds ++ [d])
  | _, _, .nil => .cons h .nil
  | _, _, .cons r t => .cons r (dpAll_snoc h t)
theorem dpAll_len {K : PySem.W.Frag} {H : Hp} : ∀ {vs : List V} {ds : List PyData}, DpAll K H vs ds → vs.length = ds.length
  | _, _, .nil => rfl
  | _, _, .cons r t => by rw [List.length_cons, List.length_cons, dpAll_len t]
def rowD (tab : Tab) (z : Str) : PyData := .tuple [.str z, factsD ((getF tab z).getD [])]
def RowV (K : PySem.W.Frag) (H : Hp) (tab : Tab) (v : V) (z : Str) : Prop := ∃ a u, v = .ref a ∧ SqT K H a [.str z, u] ∧ FactsV K H u ((getF tab z).getD [])
theorem RowV.ts {K : PySem.W.Frag} {H H' : Hp} {tab : Tab} {v : V} {z : Str} (e : Ts H H') (h : RowV K H tab v z) : RowV K H' tab v z := by
  obtain ⟨a, u, rfl, h1, h2⟩ := h
  exact ⟨a, u, rfl, e.sqt h1, h2.ts e⟩
theorem RowV.dp {K : PySem.W.Frag} {H : Hp} {tab : Tab} {v : V} {z : Str} (h : RowV K H tab v z) : Dp K H v (rowD tab z) := by
  obtain ⟨a, u, rfl, h1, h2⟩ := h
  exact .tup h1 (.cons (.str _) (.cons h2.dp .nil))
def sightD (s : AS) (ys : List Str) (k : Nat) : PyData := .list [.list (ys.map (rowD s.tab)), .tuple (s.vows.map Vow.d), .int (k : Nat), .int (s.tab.length : Nat)]
structure PrOk (P : Program) (w : World) (K : PySem.W.Frag) (mg : Str → Option Value) (base : Heap) (CX : CXT) (k : Nat) (c f : Str) (sp : Sp) : Prop where
  ok : ∃ p g fd, PropOf K (He.ga K c) f p g ∧ FnOk P w K mg base CX k g fd ["self"] sp ∧ Binds K fd ["self"] []
theorem small62 {n : Nat} (h : n ≤ 1000) : (n : Int) < 2 ^ 63 := by
  have : (2 : Int) ^ 63 = 9223372036854775808 := by decide
  omega
section
variable {P : Program} {w : World} {K : PySem.W.Frag} {mg : Str → Option Value} {base : Heap}
def spLSight (K : PySem.W.Frag) : Sp := fun vs H Q _ => ∃ (D : Addr) (s : AS) (r : List AS) (n : Nat), vs = [.ref D] ∧ DeskAt K H D (s :: r) ∧ AOk n s ∧ s.tab.length < 64 ∧ ∀ H' v ys, Same H H' → ys.Perm (keys s.tab) → sortedS ys = true → Dp K H' v (sightD s ys r.length) → Q v H'
theorem sc_l_sight : FnScope ["_law_desk_here", "_law_found", "_law_each"] ["_law_desk_here"] (defScope s_l_sight) := ⟨rfl, rfl, rfl, by decide +kernel, rfl, by decide +kernel, by decide +kernel⟩
theorem l_sight_ok (D : DefIn K mg "_law_sight" s_l_sight) (T : Fre mg) (C : DeskC K mg) (hfn : PySem.W.fnIn K (He.ma K (He.ga K "Desk") "__getitem__") = true) (MG : MOk P w K mg base CX0 3 "Desk" "__getitem__" ["self", "name"] (spDGetItem K)) (ML : MOk P w K mg base CX0 1 "Desk" "__len__" ["self"] (spDLen K))
    (PN : PrOk P w K mg base CX0 1 "Desk" "names" (spDNames K)) (PP : PrOk P w K mg base CX0 1 "Desk" "promises" (spDPromises K)) (PC : PrOk P w K mg base CX0 1 "Desk" "changes" (spDChanges K)) : DOk P w K mg base CX0 5 "_law_sight" ["_law_desk_here"] (spLSight K) := by
  obtain ⟨fdG, FG, bG⟩ := MG.ok
  obtain ⟨fdL, FL, bL⟩ := ML.ok
  obtain ⟨pN, gN, fdN, prN, FN, bN⟩ := PN.ok
  obtain ⟨pP, gP, fdP, prP, FP, bP⟩ := PP.ok
  obtain ⟨pC, gC, fdC, prC, FC, bC⟩ := PC.ok
  refine D.ok sc_l_sight (fun vs H Q E h => ?_) (fun _ _ _ _ _ _ us hl => match us, hl with | [_], _ => rfl) (fun cdv A outer s H vs Q E hr h => ?_)
  · obtain ⟨_, _, _, _, rfl, _⟩ := h
    rfl
  · obtain ⟨D0, s0, r, n, rfl, hd, ao, hlt, q⟩ := h
    have big := big1000
    refine ⟨_, (pss_cons (ps_setLc (i := 1) (own := [("_law_each", 2)]) (g := gName 2) (tt := tYes) rfl sc_l_sight.nd rfl rfl (sw_true rfl rfl rfl (by decide +kernel)) (pi_tup (pe_prop (pv 0) C.cl prN FN (hr.mono (by decide)) bN .nil pass0 rfl)) (blkOk_by (N := ["_law_desk_here", "_law_found", "_law_each"]) (sc := defScope s_l_sight) (by decide +kernel)) (fun _ _ _ _ _ => (pg_name (i := 2) sc_l_sight.nd rfl (.inl rfl))) (fun _ _ _ _ _ => pts_nil) (fun _ _ _ _ _ => (pe_tup (pa_cons (pv 2) (pa_cons (pe_subOwn ⟨MG.at_, MG.fn⟩ hfn FG (hr.mono (by decide)) bG pass0 (pv 0) (pv 2)) pa_nil)))))
      (pss_one (ps_ret (pe_lst (pa_cons (pv 1) (pa_cons (pe_prop (pv 0) C.cl prP FP (hr.mono (by decide)) bP .nil pass0 rfl) (pa_cons (pe_prop (pv 0) C.cl prC FC (hr.mono (by decide)) bC .nil pass0 rfl) (pa_cons (pe_callB (call_lenOwn ⟨ML.at_, ML.fn⟩ FL (hr.mono (by decide)) bL pass0) (by rfl) T.len_ (by decide +kernel) (pa_cons (pv 0) pa_nil)) pa_nil)))))))), ?_⟩
    obtain ⟨dx, v0, eD, _⟩ := id hd
    refine ⟨.ref D0, rfl, D0, dx, _, rfl, eD, D0, s0, r, rfl, hd, hlt, fun H1 p ys s1 hperm hsrt ep => ⟨p, rfl, ⟨_, .inl (.inl ep)⟩, fun d nd => ?_⟩⟩
    have hyl : ys.length ≤ 100 := by
      rw [hperm.length_eq]
      unfold keys
      rw [List.length_map]
      omega
    refine lc_tup (xs := ys.map V.str) (fun i H2 => Same H1 H2 ∧ ∃ acc, H2 d = some (.lst acc) ∧ Paired (RowV K H2 s0.tab) acc (ys.take i) ∧ acc.length = i) ⟨same_upd nd, [], upd_same, .nil, rfl⟩ ?_ ?_ ?_
    · rintro i H2 hi ⟨s2, _⟩
      exact .inl (.inl (s2 _ _ ep))
    · rintro i y H2 hy ⟨s2, acc, e2, hp2, hl2⟩
      rw [List.getElem?_map] at hy
      cases hz : ys[i]? with
      | none =>
        rw [hz] at hy
        cases hy
      | some z =>
        rw [hz] at hy
        cases hy
        have s12 := s1.trans s2
        have hzk : z ∈ keys s0.tab := hperm.mem_iff.mp (List.mem_of_getElem? hz)
        obtain ⟨F, hF⟩ := getF_key hzk
        have gz := ao.g _ (getF_mem hF)
        have et : ys.take (i + 1) = ys.take i ++ [z] := by
          rw [List.take_add_one, hz]
          rfl
        have hi : i < ys.length := (List.getElem?_eq_some_iff.mp hz).1
        refine ⟨rfl, .str z, rfl, .ref D0, rfl, .str z, rfl, D0, dx, _, rfl, s12 _ _ eD, D0, z, s0, r, F, rfl, gz, hd.same s12, hF, fun H3 u s3 hu => ⟨by show 2 ≤ sizeLine; omega, fun g ng => ?_⟩⟩
        have s4 := s3.trans (same_upd (o := .tup [.str z, u]) ng)
        have eg : upd H3 g (.tup [.str z, u]) g = some (.tup [.str z, u]) := upd_same
        have hu4 := hu.ts (same_upd (o := .tup [.str z, u]) ng).ts
        generalize upd H3 g (.tup [.str z, u]) = H4 at s4 eg hu4 ⊢
        have hp4 := Paired.mapP hp2 fun _ _ z => z.ts s4.ts
        have hg4 : RowV K H4 s0.tab (.ref g) z := ⟨g, u, rfl, .inl (.inl eg), by rw [hF]; exact hu4⟩
        have e4 := s4 _ _ e2
        refine ⟨acc, e4, by omega, same_set (s2.trans s4) nd, _, upd_same, ?_, by rw [List.length_append, List.length_singleton, hl2]⟩
        rw [et]
        exact Paired.mapP (paired_append hp4 (.cons hg4 .nil)) fun _ _ z => z.ts (ts_set e4)
    · rintro H2 ⟨s2, acc, e2, hp2, hl2⟩
      have s12 := s1.trans s2
      have eD2 := s12 _ _ eD
      have hd2 := hd.same s12
      rw [List.length_map, List.take_length] at hp2
      refine ⟨.ref d, rfl, .ref D0, rfl, D0, dx, _, rfl, eD2, D0, s0, r, rfl, hd2, fun p2 zs hp hz => ?_⟩
      refine ⟨.ref D0, rfl, D0, dx, _, rfl, eD2, D0, s0, r, rfl, hd2, .ref D0, rfl, D0, dx, _, rfl, eD2, D0, s0, r, rfl, hd2, (s0.tab.length : Int), rfl, by omega, small62 (by omega), by show 4 ≤ sizeLine; omega, fun g ng => ?_⟩
      have s3 := same_upd (o := .lst [.ref d, .ref p2, .int (r.length : Nat), .int (s0.tab.length : Nat)]) ng
      refine q _ _ ys (s12.trans s3) hperm hsrt (.lst (.inl (.inl upd_same)) (.cons (.lst (.inl (.inl (s3 _ _ e2))) (dpAll_of (fun _ _ z => z.dp) (Paired.mapP hp2 fun _ _ z => z.ts s3.ts))) (.cons (.tup (s3.sqt hp) (dpAll_of (fun _ _ z => z.dp) (Paired.mapP hz fun _ _ z => z.ts s3.ts))) (.cons (.int _) (.cons (.int _) .nil)))))
end
end Kr

set_option Elab.async false
set_option linter.all false
set_option maxRecDepth 100000
set_option maxHeartbeats 4000000
/-! What is due to be seen. -/
namespace Kr
open PySem PySem.Spec PyProof.Rows L2
section
variable {P : Program} {w : World} {K : PySem.W.Frag} {mg : Str → Option Value} {base : Heap}
def spLDueS (K : PySem.W.Frag) : Sp := fun vs H Q _ => ∃ (v : V) (s : AS) (k n : Nat), vs = [v] ∧ StV K H v s k ∧ AOk n s ∧ s.tab.length < 64 ∧ s.vows.length ≤ 900 ∧ ∀ H' u ys, Same H H' → ys.Perm (keys s.tab) → sortedS ys = true → Dp K H' u (sightD s ys k) → Q u H'
theorem sc_l_due_sight : FnScope ["_law_state", "_law_table", "_law_vows", "_law_many", "_law_each"] ["_law_state"] (defScope s_l_due_sight) := ⟨rfl, rfl, rfl, by decide +kernel, rfl, by decide +kernel, by decide +kernel⟩
theorem l_due_sight_ok (D : DefIn K mg "_law_due_sight" s_l_due_sight) (T : Fre mg) : DOk P w K mg base CX0 1 "_law_due_sight" ["_law_state"] (spLDueS K) := by
  refine D.ok sc_l_due_sight (fun vs H Q E h => ?_) (fun _ _ _ _ _ _ us hl => match us, hl with | [_], _ => rfl) (fun cdv A outer s H vs Q E hr h => ?_)
  · obtain ⟨_, _, _, _, rfl, _⟩ := h
    rfl
  · obtain ⟨_, s0, k, n, rfl, ⟨c, t, l, vs0, rfl, hc, ht, hl, hpv⟩, ao, hlt, hlv, q⟩ := h
    have hu := hu_of hr
    have big := big1000
    have hll := hpv.length
    refine ⟨_, (pss_cons (ps_asg (pv 0) (pg_tup rfl (pgs_cons (pg_name (i := 1) sc_l_due_sight.nd rfl (.inr rfl)) (pgs_cons (pg_name (i := 2) sc_l_due_sight.nd rfl (.inl rfl)) (pgs_cons (pg_name (i := 3) sc_l_due_sight.nd rfl (.inl rfl)) pgs_nil)))))
      (pss_one (ps_ret (pe_lst (pa_cons (pe_lc (own := [("_law_each", 4)]) (g := gName 4) (tt := tYes) rfl sc_l_due_sight.nd (pi_list (pe_callB (call_sortedD rfl) (by rfl) T.sorted (by decide +kernel) (pa_cons (pv 1) pa_nil))) (blkOk_by (N := ["_law_state", "_law_table", "_law_vows", "_law_many", "_law_each"]) (sc := defScope s_l_due_sight) (by decide +kernel)) (fun _ _ _ _ _ => (pg_name (i := 4) sc_l_due_sight.nd rfl (.inl rfl))) (fun _ _ _ _ _ => pts_nil) (fun _ _ _ _ _ => (pe_tup (pa_cons (pv 4) (pa_cons (pe_dget hu (pv 1) (pv 4) (fun _ _ => rfl)) pa_nil))))) (pa_cons (pe_callTy call_tuple_of (by rfl) T.tuple_ (by decide +kernel) (pa_cons (pv 2) pa_nil)) (pa_cons (pv 3) (pa_cons (pe_callB call_lenD (by rfl) T.len_ (by decide +kernel) (pa_cons (pv 1) pa_nil)) pa_nil)))))))), ?_⟩
    obtain ⟨kvs, et, tv⟩ := id ht
    have hkl : (keys s0.tab).length = s0.tab.length := by unfold keys; rw [List.length_map]
    refine ⟨.ref c, rfl, c, _, rfl, hc, rfl, _, _, rfl, _, _, rfl, _, _, rfl, rfl, ?_⟩
    refine ⟨.ref t, rfl, t, kvs, keys s0.tab, rfl, .inl et, tv.keys, by rw [hkl]; exact hlt, fun ys g hperm hsrt ng => ?_⟩
    have s1 := same_upd (o := .lst (ys.map V.str)) ng
    have eg : upd H g (.lst (ys.map V.str)) g = some (.lst (ys.map V.str)) := upd_same
    generalize upd H g (.lst (ys.map V.str)) = H1 at s1 eg ⊢
    have hyl : ys.length ≤ 100 := by
      rw [hperm.length_eq, hkl]
      omega
    refine ⟨g, rfl, ⟨_, .inl (.inl eg)⟩, fun d nd => ?_⟩
    refine lc_list (xs := ys.map V.str) (fun i H2 => Same H1 H2 ∧ ∃ acc, H2 d = some (.lst acc) ∧ Paired (RowV K H2 s0.tab) acc (ys.take i) ∧ acc.length = i) ⟨same_upd nd, [], upd_same, .nil, rfl⟩ ?_ ?_ ?_
    · rintro i H2 hi ⟨s2, _⟩
      exact .inl (.inl (s2 _ _ eg))
    · rintro i y H2 hy ⟨s2, acc, e2, hp2, hl2⟩
      rw [List.getElem?_map] at hy
      cases hz : ys[i]? with
      | none =>
        rw [hz] at hy
        cases hy
      | some z =>
        rw [hz] at hy
        cases hy
        have s12 := s1.trans s2
        have hzk : z ∈ keys s0.tab := hperm.mem_iff.mp (List.mem_of_getElem? hz)
        obtain ⟨F, hF⟩ := getF_key hzk
        have et : ys.take (i + 1) = ys.take i ++ [z] := by
          rw [List.take_add_one, hz]
          rfl
        have hi : i < ys.length := (List.getElem?_eq_some_iff.mp hz).1
        obtain ⟨u, hg, hu⟩ := (ht.same s12).get hF
        refine ⟨rfl, .str z, rfl, .ref t, rfl, .str z, rfl, t, u, rfl, hg, by show 2 ≤ sizeLine; omega, fun g ng => ?_⟩
        have s4 := same_upd (o := .tup [.str z, u]) ng
        have eg : upd H2 g (.tup [.str z, u]) g = some (.tup [.str z, u]) := upd_same
        have hu4 := hu.ts (same_upd (o := .tup [.str z, u]) ng).ts
        generalize upd H2 g (.tup [.str z, u]) = H4 at s4 eg hu4 ⊢
        have hp4 := Paired.mapP hp2 fun _ _ z => z.ts s4.ts
        have hg4 : RowV K H4 s0.tab (.ref g) z := ⟨g, u, rfl, .inl (.inl eg), by rw [hF]; exact hu4⟩
        have e4 := s4 _ _ e2
        refine ⟨acc, e4, by omega, same_set (s2.trans s4) nd, _, upd_same, ?_, by rw [List.length_append, List.length_singleton, hl2]⟩
        rw [et]
        exact Paired.mapP (paired_append hp4 (.cons hg4 .nil)) fun _ _ z => z.ts (ts_set e4)
    · rintro H2 ⟨s2, acc, e2, hp2, hl2⟩
      have s12 := s1.trans s2
      rw [List.length_map, List.take_length] at hp2
      refine ⟨.ref l, rfl, l, vs0, rfl, .inl ⟨.inl (.inl (s12 _ _ hl)), fun p2 np => ?_⟩⟩
      have s3 := s12.trans (same_upd (o := .tup vs0) np)
      have s23 := same_upd (o := .tup vs0) np
      have ep : upd H2 p2 (.tup vs0) p2 = some (.tup vs0) := upd_same
      generalize upd H2 p2 (.tup vs0) = H3 at s3 s23 ep ⊢
      refine ⟨.int k, rfl, .ref t, rfl, t, kvs, rfl, s3 _ _ et, by show 4 ≤ sizeLine; omega, fun g ng => ?_⟩
      have s4 := same_upd (o := .lst [.ref d, .ref p2, .int (k : Nat), .int (kvs.length : Nat)]) ng
      refine q _ _ ys (s3.trans s4) hperm hsrt (.lst (.inl (.inl upd_same)) (.cons (.lst (.inl (.inl (s4 _ _ (s23 _ _ e2)))) (dpAll_of (fun _ _ z => z.dp) (Paired.mapP hp2 fun _ _ z => z.ts (s23.trans s4).ts))) (.cons (.tup (.inl (.inl (s4 _ _ ep))) (dpAll_of (fun _ _ z => z.dp) (Paired.mapP hpv fun _ _ z => z.ts (s3.trans s4).ts))) (.cons (.int _) (.cons (by rw [tv.length]; exact .int _) .nil)))))
end
/-! ### its bulk -/
theorem sight_nd {n : Nat} {s : AS} {ys : List Str} {k : Nat} (hn : Base n) (ao : AOk n s) (ub : ∀ u ∈ s.vows, UB u) (hlt : s.tab.length ≤ 63) (hlv : s.vows.length ≤ 900) (hk : k ≤ 900) (hp : ys.Perm (keys s.tab)) : Nd (sightD s ys k) 5 40000 := by
  have ht31 : top31 = 10000000000000000000000000000000 := rfl
  have hkl : (keys s.tab).length = s.tab.length := by unfold keys; rw [List.length_map]
  have hyl : ys.length ≤ 63 := by
    rw [hp.length_eq, hkl]
    exact hlt
  have rows : NdAll (ys.map (rowD s.tab)) 3 (63 * 31) := by
    have h1 : NdAll (ys.map (rowD s.tab)) 3 ((ys.map (rowD s.tab)).length * (30 + 1)) := .of fun d hd => by
      obtain ⟨z, hz, rfl⟩ := List.mem_map.mp hd
      obtain ⟨F, hF⟩ := getF_key (hp.mem_iff.mp hz)
      have gz := ao.g _ (getF_mem hF)
      have fo := ao.t.get hF
      unfold rowD
      rw [hF]
      exact (NdAll.cons (gz.nd.mono (Nat.zero_le 2) (Nat.le_refl _)) (NdAll.cons (facts_nd hn fo) (.nil 2 0) (Nat.le_refl _)) (by decide)).tuple
    refine ⟨h1.short, h1.sh, h1.nd, h1.dp, Nat.le_trans h1.bk ?_⟩
    rw [List.length_map]
    exact Nat.mul_le_mul_right _ hyl
  have vows : NdAll (s.vows.map Vow.d) 1 (900 * 31) := by
    have h1 : NdAll (s.vows.map Vow.d) 1 ((s.vows.map Vow.d).length * (30 + 1)) := .of fun d hd => by
      obtain ⟨u, hu, rfl⟩ := List.mem_map.mp hd
      exact vow_nd (ub u hu) (ao.v u hu).good
    refine ⟨h1.short, h1.sh, h1.nd, h1.dp, Nat.le_trans h1.bk ?_⟩
    rw [List.length_map]
    exact Nat.mul_le_mul_right _ hlv
  have i1 := (Nd.int (i := (k : Nat)) (by omega) (by omega)).mono (Nat.zero_le 4) (Nat.le_refl 0)
  have i2 := (Nd.int (i := (s.tab.length : Nat)) (by omega) (by omega)).mono (Nat.zero_le 4) (Nat.le_refl 0)
  have l1 : Nd (.list (ys.map (rowD s.tab))) 4 (63 * 31) := rows.list
  have l2 : Nd (.tuple (s.vows.map Vow.d)) 4 (900 * 31) := (vows.tuple).mono (by decide) (Nat.le_refl _)
  exact ((NdAll.cons l1 (NdAll.cons l2 (NdAll.cons i1 (NdAll.cons i2 (.nil 4 0) (Nat.le_refl _)) (Nat.le_refl _)) (Nat.le_refl _)) (Nat.le_refl _)).list).mono (by decide) (by decide)
end Kr

set_option Elab.async false
set_option linter.all false
set_option maxRecDepth 100000
set_option maxHeartbeats 4000000
/-! The law sorts what was raised. -/
namespace Kr
open PySem PySem.Spec PyProof.Rows L2 L2H
theorem PE.weak {X : Cx} {e : Expr} {t t' : TE} (h : PE X e t) (hw : ∀ σ H Q, t' σ H Q → t σ H Q) : PE X e t' := ⟨fun pins s σ H Q I q => h.run pins s σ H Q I (hw _ _ _ q)⟩
def tIs (a : Addr) (d : Option Addr) (b : Bool) : TE := fun σ H Q => σ[0]? = some (some (V.ref a)) ∧ (∀ dd, d = some dd → ∃ fs, H dd = some (.xd fs)) ∧ Q (.bl b) H
theorem pe_never {X : Cx} {e : Expr} : PE X e (fun _ _ _ => False) := ⟨fun pins s σ H Q I h => False.elim h⟩
/-- what isinstance answers of an exception of the class c, the n-th of the law's list -/
structure SortX (K : PySem.W.Frag) (c : Str) (n : Nat) : Prop where
  C : ExcC K (He.ga K c)
  k0 : PySem.W.kitOne K (.ref (He.ga K c)) (.ref (He.ga K "InvalidNumber")) = some (decide (0 = n))
  k1 : PySem.W.kitOne K (.ref (He.ga K c)) (.ref (He.ga K "InvalidName")) = some (decide (1 = n))
  k2 : PySem.W.kitOne K (.ref (He.ga K c)) (.ref (He.ga K "InvalidIndex")) = some (decide (2 = n))
  k3 : PySem.W.kitOne K (.ref (He.ga K c)) (.ref (He.ga K "InvalidPromise")) = some (decide (3 = n))
  k4 : PySem.W.kitOne K (.ref (He.ga K c)) (.ref (He.ga K "InvalidCommand")) = some (decide (4 = n))
  k5 : PySem.W.kitOne K (.ref (He.ga K c)) (.ref (He.ga K "InvalidFacts")) = some (decide (5 = n))
  k6 : PySem.W.kitOne K (.ref (He.ga K c)) (.ref (He.ga K "InvalidValues")) = some (decide (6 = n))
  k7 : PySem.W.kitOne K (.ref (He.ga K c)) (.ref (He.ga K "InvalidPoints")) = some (decide (7 = n))
  k8 : PySem.W.kitOne K (.ref (He.ga K c)) (.ref (He.ga K "UnknownName")) = some (decide (8 = n))
  k9 : PySem.W.kitOne K (.ref (He.ga K c)) (.ref (He.ga K "InUse")) = some (decide (9 = n))
  k10 : PySem.W.kitOne K (.ref (He.ga K c)) (.ref (He.ga K "NoMachine")) = some (decide (10 = n))
  k11 : PySem.W.kitOne K (.ref (He.ga K c)) (.ref (He.ga K "TooMany")) = some (decide (11 = n))
  k12 : PySem.W.kitOne K (.ref (He.ga K c)) (.ref (He.ga K "NothingToUndo")) = some (decide (12 = n))
  k13 : PySem.W.kitOne K (.ref (He.ga K c)) (.ref (He.ga K "Broken")) = some (decide (13 = n))
  kv : PySem.W.kitOne K (.ref (He.ga K c)) (.type "ValueError") = some (decide (n < 8))
  kl : PySem.W.kitOne K (.ref (He.ga K c)) (.type "LookupError") = some (decide (n = 8 ∨ n = 9))
  ka : PySem.W.kitOne K (.ref (He.ga K c)) (.type "ArithmeticError") = some (decide (9 < n))
structure SortG (mg : Str → Option Value) (K : PySem.W.Frag) : Prop where
  g0 : mg "InvalidNumber" = some (.ref (He.ga K "InvalidNumber"))
  g1 : mg "InvalidName" = some (.ref (He.ga K "InvalidName"))
  g2 : mg "InvalidIndex" = some (.ref (He.ga K "InvalidIndex"))
  g3 : mg "InvalidPromise" = some (.ref (He.ga K "InvalidPromise"))
  g4 : mg "InvalidCommand" = some (.ref (He.ga K "InvalidCommand"))
  g5 : mg "InvalidFacts" = some (.ref (He.ga K "InvalidFacts"))
  g6 : mg "InvalidValues" = some (.ref (He.ga K "InvalidValues"))
  g7 : mg "InvalidPoints" = some (.ref (He.ga K "InvalidPoints"))
  g8 : mg "UnknownName" = some (.ref (He.ga K "UnknownName"))
  g9 : mg "InUse" = some (.ref (He.ga K "InUse"))
  g10 : mg "NoMachine" = some (.ref (He.ga K "NoMachine"))
  g11 : mg "TooMany" = some (.ref (He.ga K "TooMany"))
  g12 : mg "NothingToUndo" = some (.ref (He.ga K "NothingToUndo"))
  g13 : mg "Broken" = some (.ref (He.ga K "Broken"))
structure SortAll (K : PySem.W.Frag) (mg : Str → Option Value) : Prop where
  G : SortG mg K
  index : SortX K "InvalidIndex" 2
  unknown : SortX K "UnknownName" 8
  use : SortX K "InUse" 9
  undo : SortX K "NothingToUndo" 12
  broken : SortX K "Broken" 13
  xIndex : XfC K (He.ga K "InvalidIndex")
  xUnknown : XfC K (He.ga K "UnknownName")
  xUse : XfC K (He.ga K "InUse")
  xBroken : XfC K (He.ga K "Broken")
  nIndex : PySem.W.findIn K (.ref (He.ga K "InvalidIndex")) "given" = some none
  nUnknown : PySem.W.findIn K (.ref (He.ga K "UnknownName")) "given" = some none
  nUse : PySem.W.findIn K (.ref (He.ga K "InUse")) "index" = some none
  nBroken : PySem.W.findIn K (.ref (He.ga K "Broken")) "index" = some none
  nBroken2 : PySem.W.findIn K (.ref (He.ga K "Broken")) "shown" = some none
section
variable {P : Program} {w : World} {K : PySem.W.Frag} {mg : Str → Option Value} {base : Heap}
theorem sc_l_sort : FnScope ["_law_e", "_law_own", "_law_at", "_law_kin", "_law_words_here", "_law_word"] ["_law_e"] (defScope s_l_sort) := ⟨rfl, rfl, rfl, by decide +kernel, rfl, by decide +kernel, by decide +kernel⟩
def ownL (n : Nat) : List V := ((((([.bl (decide (0 = n)), .bl (decide (1 = n)), .bl (decide (2 = n))] : List V) ++ [.bl (decide (3 = n)), .bl (decide (4 = n))]) ++ [.bl (decide (5 = n)), .bl (decide (6 = n)), .bl (decide (7 = n))]) ++ [.bl (decide (8 = n)), .bl (decide (9 = n)), .bl (decide (10 = n))]) ++ [.bl (decide (11 = n)), .bl (decide (12 = n)), .bl (decide (13 = n))])
theorem sort_front {cdv : Value} {A : Around} {outer : List Env} {s : Shared} {H0 H : Hp} {E : XK} {p : Addr × Obj} {cls : Value} {d : Option Addr} {c : Str} {n : Nat} {t2 : TS} {D : Ends} (T : Fre mg) (G : SortG mg K) (X : SortX K c n) (hc : cls = .ref (He.ga K c)) (hz : Zc cls d p.2) (hf : ∃ fv, p.2.data = .fields fv)
    (hdd : ∀ H1, Same H H1 → ∀ d0, d = some d0 → ∃ fs, H1 d0 = some (.xd fs)) (h2 : PSs (cxH CX0 P w K mg base ["_law_e", "_law_own", "_law_at", "_law_kin", "_law_words_here", "_law_word"] "_law_sort" (defScope s_l_sort) (He.ga K "_law_sort") cdv A outer s H0 E p) ((defBody s_l_sort).drop 5) t2) (hq : ∀ H1 l, Same H H1 → H1 l = some (.lst (ownL n)) → t2 D [some (.ref p.1), some (.ref l), none, none, none, none] H1) :
    ∃ t, PSs (cxH CX0 P w K mg base ["_law_e", "_law_own", "_law_at", "_law_kin", "_law_words_here", "_law_word"] "_law_sort" (defScope s_l_sort) (He.ga K "_law_sort") cdv A outer s H0 E p) (defBody s_l_sort) t ∧ t D (L2.start ["_law_e", "_law_own", "_law_at", "_law_kin", "_law_words_here", "_law_word"] [.ref p.1]) H := by
  have XC := X.C
  have big := big1000
  have hp : p ∈ [p] := List.mem_singleton_self _
  refine ⟨_, (pss_cons (ps_set (i := 1) sc_l_sort.nd rfl (.inl rfl) (pe_lst (pa_cons (PE.weak (t' := tIs p.1 d (decide (0 = n))) (pe_callB (call_isP XC hp hc hz hf) (by rfl) T.isinstance (by decide +kernel) (pa_cons (pv 0) (pa_cons (pe_glob (v := .ref (He.ga K "InvalidNumber")) rfl G.g0 rfl) pa_nil))) (fun σ H Q z => ⟨.ref p.1, z.1, z.2.1, _, _, _, rfl, fun _ h => h, X.k0, z.2.2⟩)) (pa_cons (PE.weak (t' := tIs p.1 d (decide (1 = n))) (pe_callB (call_isP XC hp hc hz hf) (by rfl) T.isinstance (by decide +kernel) (pa_cons (pv 0) (pa_cons (pe_glob (v := .ref (He.ga K "InvalidName")) rfl G.g1 rfl) pa_nil))) (fun σ H Q z => ⟨.ref p.1, z.1, z.2.1, _, _, _, rfl, fun _ h => h, X.k1, z.2.2⟩)) (pa_cons (PE.weak (t' := tIs p.1 d (decide (2 = n))) (pe_callB (call_isP XC hp hc hz hf) (by rfl) T.isinstance (by decide +kernel) (pa_cons (pv 0) (pa_cons (pe_glob (v := .ref (He.ga K "InvalidIndex")) rfl G.g2 rfl) pa_nil))) (fun σ H Q z => ⟨.ref p.1, z.1, z.2.1, _, _, _, rfl, fun _ h => h, X.k2, z.2.2⟩)) pa_nil)))))
    (pss_cons (ps_set (i := 1) sc_l_sort.nd rfl (.inl rfl) (pe_op op_cat (pv 1) (pe_lst (pa_cons (PE.weak (t' := tIs p.1 d (decide (3 = n))) (pe_callB (call_isP XC hp hc hz hf) (by rfl) T.isinstance (by decide +kernel) (pa_cons (pv 0) (pa_cons (pe_glob (v := .ref (He.ga K "InvalidPromise")) rfl G.g3 rfl) pa_nil))) (fun σ H Q z => ⟨.ref p.1, z.1, z.2.1, _, _, _, rfl, fun _ h => h, X.k3, z.2.2⟩)) (pa_cons (PE.weak (t' := tIs p.1 d (decide (4 = n))) (pe_callB (call_isP XC hp hc hz hf) (by rfl) T.isinstance (by decide +kernel) (pa_cons (pv 0) (pa_cons (pe_glob (v := .ref (He.ga K "InvalidCommand")) rfl G.g4 rfl) pa_nil))) (fun σ H Q z => ⟨.ref p.1, z.1, z.2.1, _, _, _, rfl, fun _ h => h, X.k4, z.2.2⟩)) pa_nil)))))
    (pss_cons (ps_set (i := 1) sc_l_sort.nd rfl (.inl rfl) (pe_op op_cat (pv 1) (pe_lst (pa_cons (PE.weak (t' := tIs p.1 d (decide (5 = n))) (pe_callB (call_isP XC hp hc hz hf) (by rfl) T.isinstance (by decide +kernel) (pa_cons (pv 0) (pa_cons (pe_glob (v := .ref (He.ga K "InvalidFacts")) rfl G.g5 rfl) pa_nil))) (fun σ H Q z => ⟨.ref p.1, z.1, z.2.1, _, _, _, rfl, fun _ h => h, X.k5, z.2.2⟩)) (pa_cons (PE.weak (t' := tIs p.1 d (decide (6 = n))) (pe_callB (call_isP XC hp hc hz hf) (by rfl) T.isinstance (by decide +kernel) (pa_cons (pv 0) (pa_cons (pe_glob (v := .ref (He.ga K "InvalidValues")) rfl G.g6 rfl) pa_nil))) (fun σ H Q z => ⟨.ref p.1, z.1, z.2.1, _, _, _, rfl, fun _ h => h, X.k6, z.2.2⟩)) (pa_cons (PE.weak (t' := tIs p.1 d (decide (7 = n))) (pe_callB (call_isP XC hp hc hz hf) (by rfl) T.isinstance (by decide +kernel) (pa_cons (pv 0) (pa_cons (pe_glob (v := .ref (He.ga K "InvalidPoints")) rfl G.g7 rfl) pa_nil))) (fun σ H Q z => ⟨.ref p.1, z.1, z.2.1, _, _, _, rfl, fun _ h => h, X.k7, z.2.2⟩)) pa_nil))))))
    (pss_cons (ps_set (i := 1) sc_l_sort.nd rfl (.inl rfl) (pe_op op_cat (pv 1) (pe_lst (pa_cons (PE.weak (t' := tIs p.1 d (decide (8 = n))) (pe_callB (call_isP XC hp hc hz hf) (by rfl) T.isinstance (by decide +kernel) (pa_cons (pv 0) (pa_cons (pe_glob (v := .ref (He.ga K "UnknownName")) rfl G.g8 rfl) pa_nil))) (fun σ H Q z => ⟨.ref p.1, z.1, z.2.1, _, _, _, rfl, fun _ h => h, X.k8, z.2.2⟩)) (pa_cons (PE.weak (t' := tIs p.1 d (decide (9 = n))) (pe_callB (call_isP XC hp hc hz hf) (by rfl) T.isinstance (by decide +kernel) (pa_cons (pv 0) (pa_cons (pe_glob (v := .ref (He.ga K "InUse")) rfl G.g9 rfl) pa_nil))) (fun σ H Q z => ⟨.ref p.1, z.1, z.2.1, _, _, _, rfl, fun _ h => h, X.k9, z.2.2⟩)) (pa_cons (PE.weak (t' := tIs p.1 d (decide (10 = n))) (pe_callB (call_isP XC hp hc hz hf) (by rfl) T.isinstance (by decide +kernel) (pa_cons (pv 0) (pa_cons (pe_glob (v := .ref (He.ga K "NoMachine")) rfl G.g10 rfl) pa_nil))) (fun σ H Q z => ⟨.ref p.1, z.1, z.2.1, _, _, _, rfl, fun _ h => h, X.k10, z.2.2⟩)) pa_nil))))))
    (pss_cons (ps_set (i := 1) sc_l_sort.nd rfl (.inl rfl) (pe_op op_cat (pv 1) (pe_lst (pa_cons (PE.weak (t' := tIs p.1 d (decide (11 = n))) (pe_callB (call_isP XC hp hc hz hf) (by rfl) T.isinstance (by decide +kernel) (pa_cons (pv 0) (pa_cons (pe_glob (v := .ref (He.ga K "TooMany")) rfl G.g11 rfl) pa_nil))) (fun σ H Q z => ⟨.ref p.1, z.1, z.2.1, _, _, _, rfl, fun _ h => h, X.k11, z.2.2⟩)) (pa_cons (PE.weak (t' := tIs p.1 d (decide (12 = n))) (pe_callB (call_isP XC hp hc hz hf) (by rfl) T.isinstance (by decide +kernel) (pa_cons (pv 0) (pa_cons (pe_glob (v := .ref (He.ga K "NothingToUndo")) rfl G.g12 rfl) pa_nil))) (fun σ H Q z => ⟨.ref p.1, z.1, z.2.1, _, _, _, rfl, fun _ h => h, X.k12, z.2.2⟩)) (pa_cons (PE.weak (t' := tIs p.1 d (decide (13 = n))) (pe_callB (call_isP XC hp hc hz hf) (by rfl) T.isinstance (by decide +kernel) (pa_cons (pv 0) (pa_cons (pe_glob (v := .ref (He.ga K "Broken")) rfl G.g13 rfl) pa_nil))) (fun σ H Q z => ⟨.ref p.1, z.1, z.2.1, _, _, _, rfl, fun _ h => h, X.k13, z.2.2⟩)) pa_nil))))))
    h2))))), ?_⟩
  have s0 : Same H H := Same.refl H
  refine ⟨rfl, hdd _ s0, rfl, hdd _ s0, rfl, hdd _ s0, by show 3 ≤ sizeLine; omega, fun l0 n0 => ?_⟩
  have s1 := same_upd (o := .lst ([.bl (decide (0 = n)), .bl (decide (1 = n)), .bl (decide (2 = n))] : List V)) n0
  have e1 : upd H l0 (.lst ([.bl (decide (0 = n)), .bl (decide (1 = n)), .bl (decide (2 = n))] : List V)) l0 = some (.lst ([.bl (decide (0 = n)), .bl (decide (1 = n)), .bl (decide (2 = n))] : List V)) := upd_same
  generalize upd H l0 (.lst ([.bl (decide (0 = n)), .bl (decide (1 = n)), .bl (decide (2 = n))] : List V)) = H1 at s1 e1 ⊢
  refine ⟨.ref l0, rfl, rfl, hdd _ s1, rfl, hdd _ s1, by show 2 ≤ sizeLine; omega, fun m1 nm1 => ?_⟩
  have sm1 := same_upd (o := .lst [.bl (decide (3 = n)), .bl (decide (4 = n))]) nm1
  refine ⟨l0, m1, _, _, rfl, rfl, sm1 _ _ e1, upd_same, by show 3 + 2 ≤ sizeLine; omega, fun l1 n1 => ?_⟩
  have s2 := (s1.trans sm1).trans (same_upd (o := .lst (([.bl (decide (0 = n)), .bl (decide (1 = n)), .bl (decide (2 = n))] : List V) ++ [.bl (decide (3 = n)), .bl (decide (4 = n))])) n1)
  have e2 : upd (upd H1 m1 (.lst [.bl (decide (3 = n)), .bl (decide (4 = n))])) l1 (.lst (([.bl (decide (0 = n)), .bl (decide (1 = n)), .bl (decide (2 = n))] : List V) ++ [.bl (decide (3 = n)), .bl (decide (4 = n))])) l1 = some (.lst (([.bl (decide (0 = n)), .bl (decide (1 = n)), .bl (decide (2 = n))] : List V) ++ [.bl (decide (3 = n)), .bl (decide (4 = n))])) := upd_same
  generalize upd (upd H1 m1 (.lst [.bl (decide (3 = n)), .bl (decide (4 = n))])) l1 (.lst (([.bl (decide (0 = n)), .bl (decide (1 = n)), .bl (decide (2 = n))] : List V) ++ [.bl (decide (3 = n)), .bl (decide (4 = n))])) = H2 at s2 e2 ⊢
  refine ⟨.ref l1, rfl, rfl, hdd _ s2, rfl, hdd _ s2, rfl, hdd _ s2, by show 3 ≤ sizeLine; omega, fun m2 nm2 => ?_⟩
  have sm2 := same_upd (o := .lst [.bl (decide (5 = n)), .bl (decide (6 = n)), .bl (decide (7 = n))]) nm2
  refine ⟨l1, m2, _, _, rfl, rfl, sm2 _ _ e2, upd_same, by show 5 + 3 ≤ sizeLine; omega, fun l2 n2 => ?_⟩
  have s3 := (s2.trans sm2).trans (same_upd (o := .lst ((([.bl (decide (0 = n)), .bl (decide (1 = n)), .bl (decide (2 = n))] : List V) ++ [.bl (decide (3 = n)), .bl (decide (4 = n))]) ++ [.bl (decide (5 = n)), .bl (decide (6 = n)), .bl (decide (7 = n))])) n2)
  have e3 : upd (upd H2 m2 (.lst [.bl (decide (5 = n)), .bl (decide (6 = n)), .bl (decide (7 = n))])) l2 (.lst ((([.bl (decide (0 = n)), .bl (decide (1 = n)), .bl (decide (2 = n))] : List V) ++ [.bl (decide (3 = n)), .bl (decide (4 = n))]) ++ [.bl (decide (5 = n)), .bl (decide (6 = n)), .bl (decide (7 = n))])) l2 = some (.lst ((([.bl (decide (0 = n)), .bl (decide (1 = n)), .bl (decide (2 = n))] : List V) ++ [.bl (decide (3 = n)), .bl (decide (4 = n))]) ++ [.bl (decide (5 = n)), .bl (decide (6 = n)), .bl (decide (7 = n))])) := upd_same
  generalize upd (upd H2 m2 (.lst [.bl (decide (5 = n)), .bl (decide (6 = n)), .bl (decide (7 = n))])) l2 (.lst ((([.bl (decide (0 = n)), .bl (decide (1 = n)), .bl (decide (2 = n))] : List V) ++ [.bl (decide (3 = n)), .bl (decide (4 = n))]) ++ [.bl (decide (5 = n)), .bl (decide (6 = n)), .bl (decide (7 = n))])) = H3 at s3 e3 ⊢
  refine ⟨.ref l2, rfl, rfl, hdd _ s3, rfl, hdd _ s3, rfl, hdd _ s3, by show 3 ≤ sizeLine; omega, fun m3 nm3 => ?_⟩
  have sm3 := same_upd (o := .lst [.bl (decide (8 = n)), .bl (decide (9 = n)), .bl (decide (10 = n))]) nm3
  refine ⟨l2, m3, _, _, rfl, rfl, sm3 _ _ e3, upd_same, by show 8 + 3 ≤ sizeLine; omega, fun l3 n3 => ?_⟩
  have s4 := (s3.trans sm3).trans (same_upd (o := .lst (((([.bl (decide (0 = n)), .bl (decide (1 = n)), .bl (decide (2 = n))] : List V) ++ [.bl (decide (3 = n)), .bl (decide (4 = n))]) ++ [.bl (decide (5 = n)), .bl (decide (6 = n)), .bl (decide (7 = n))]) ++ [.bl (decide (8 = n)), .bl (decide (9 = n)), .bl (decide (10 = n))])) n3)
  have e4 : upd (upd H3 m3 (.lst [.bl (decide (8 = n)), .bl (decide (9 = n)), .bl (decide (10 = n))])) l3 (.lst (((([.bl (decide (0 = n)), .bl (decide (1 = n)), .bl (decide (2 = n))] : List V) ++ [.bl (decide (3 = n)), .bl (decide (4 = n))]) ++ [.bl (decide (5 = n)), .bl (decide (6 = n)), .bl (decide (7 = n))]) ++ [.bl (decide (8 = n)), .bl (decide (9 = n)), .bl (decide (10 = n))])) l3 = some (.lst (((([.bl (decide (0 = n)), .bl (decide (1 = n)), .bl (decide (2 = n))] : List V) ++ [.bl (decide (3 = n)), .bl (decide (4 = n))]) ++ [.bl (decide (5 = n)), .bl (decide (6 = n)), .bl (decide (7 = n))]) ++ [.bl (decide (8 = n)), .bl (decide (9 = n)), .bl (decide (10 = n))])) := upd_same
  generalize upd (upd H3 m3 (.lst [.bl (decide (8 = n)), .bl (decide (9 = n)), .bl (decide (10 = n))])) l3 (.lst (((([.bl (decide (0 = n)), .bl (decide (1 = n)), .bl (decide (2 = n))] : List V) ++ [.bl (decide (3 = n)), .bl (decide (4 = n))]) ++ [.bl (decide (5 = n)), .bl (decide (6 = n)), .bl (decide (7 = n))]) ++ [.bl (decide (8 = n)), .bl (decide (9 = n)), .bl (decide (10 = n))])) = H4 at s4 e4 ⊢
  refine ⟨.ref l3, rfl, rfl, hdd _ s4, rfl, hdd _ s4, rfl, hdd _ s4, by show 3 ≤ sizeLine; omega, fun m4 nm4 => ?_⟩
  have sm4 := same_upd (o := .lst [.bl (decide (11 = n)), .bl (decide (12 = n)), .bl (decide (13 = n))]) nm4
  refine ⟨l3, m4, _, _, rfl, rfl, sm4 _ _ e4, upd_same, by show 11 + 3 ≤ sizeLine; omega, fun l4 n4 => ?_⟩
  have s5 := (s4.trans sm4).trans (same_upd (o := .lst ((((([.bl (decide (0 = n)), .bl (decide (1 = n)), .bl (decide (2 = n))] : List V) ++ [.bl (decide (3 = n)), .bl (decide (4 = n))]) ++ [.bl (decide (5 = n)), .bl (decide (6 = n)), .bl (decide (7 = n))]) ++ [.bl (decide (8 = n)), .bl (decide (9 = n)), .bl (decide (10 = n))]) ++ [.bl (decide (11 = n)), .bl (decide (12 = n)), .bl (decide (13 = n))])) n4)
  have e5 : upd (upd H4 m4 (.lst [.bl (decide (11 = n)), .bl (decide (12 = n)), .bl (decide (13 = n))])) l4 (.lst ((((([.bl (decide (0 = n)), .bl (decide (1 = n)), .bl (decide (2 = n))] : List V) ++ [.bl (decide (3 = n)), .bl (decide (4 = n))]) ++ [.bl (decide (5 = n)), .bl (decide (6 = n)), .bl (decide (7 = n))]) ++ [.bl (decide (8 = n)), .bl (decide (9 = n)), .bl (decide (10 = n))]) ++ [.bl (decide (11 = n)), .bl (decide (12 = n)), .bl (decide (13 = n))])) l4 = some (.lst ((((([.bl (decide (0 = n)), .bl (decide (1 = n)), .bl (decide (2 = n))] : List V) ++ [.bl (decide (3 = n)), .bl (decide (4 = n))]) ++ [.bl (decide (5 = n)), .bl (decide (6 = n)), .bl (decide (7 = n))]) ++ [.bl (decide (8 = n)), .bl (decide (9 = n)), .bl (decide (10 = n))]) ++ [.bl (decide (11 = n)), .bl (decide (12 = n)), .bl (decide (13 = n))])) := upd_same
  generalize upd (upd H4 m4 (.lst [.bl (decide (11 = n)), .bl (decide (12 = n)), .bl (decide (13 = n))])) l4 (.lst ((((([.bl (decide (0 = n)), .bl (decide (1 = n)), .bl (decide (2 = n))] : List V) ++ [.bl (decide (3 = n)), .bl (decide (4 = n))]) ++ [.bl (decide (5 = n)), .bl (decide (6 = n)), .bl (decide (7 = n))]) ++ [.bl (decide (8 = n)), .bl (decide (9 = n)), .bl (decide (10 = n))]) ++ [.bl (decide (11 = n)), .bl (decide (12 = n)), .bl (decide (13 = n))])) = H5 at s5 e5 ⊢
  exact hq _ _ s5 e5
end
end Kr

set_option Elab.async false
set_option linter.all false
set_option maxRecDepth 100000
set_option maxHeartbeats 4000000
/-! The law sorts what was raised, second part. -/
namespace Kr
open PySem PySem.Spec PyProof.Rows L2 L2H
def wordsL : List V := [.str "number", .str "name", .str "index", .str "promise", .str "command", .str "facts", .str "values", .str "points", .str "unknown"] ++ [.str "use", .str "machine", .str "many", .str "undo", .str "broken"]
structure OwnOk (n : Nat) (wd : Str) : Prop where
  ct : ((ownL n).countP fun z => eqV z (.bl true)) = 1
  at_ : (ownL n)[n]? = some (.bl true)
  ix : ∀ (m : Nat) (z : V), m < n → (ownL n)[m]? = some z → eqV z (.bl true) = false
  lt : n < 14
  wd : wordsL[n]? = some (.str wd)
theorem own_ix {n : Nat} (h : ((List.range n).all fun m => match (ownL n)[m]? with | some z => !eqV z (.bl true) | none => true) = true) : ∀ (m : Nat) (z : V), m < n → (ownL n)[m]? = some z → eqV z (.bl true) = false := fun m z hm hz => by
  have h1 := List.all_eq_true.mp h m (List.mem_range.mpr hm)
  rw [hz] at h1
  simpa using h1
theorem ownOk2 : OwnOk 2 "index" := ⟨by decide, rfl, own_ix (by decide), by decide, rfl⟩
theorem ownOk8 : OwnOk 8 "unknown" := ⟨by decide, rfl, own_ix (by decide), by decide, rfl⟩
theorem ownOk9 : OwnOk 9 "use" := ⟨by decide, rfl, own_ix (by decide), by decide, rfl⟩
theorem ownOk12 : OwnOk 12 "undo" := ⟨by decide, rfl, own_ix (by decide), by decide, rfl⟩
theorem ownOk13 : OwnOk 13 "broken" := ⟨by decide, rfl, own_ix (by decide), by decide, rfl⟩
theorem own_flat (n : Nat) : (ownL n).all flatV = true := rfl
theorem eqv3 : ∀ a b c : Bool, PyData.eqv (.list [.bool a, .bool b, .bool c]) (.list [.bool a, .bool b, .bool c]) = true := by decide
theorem shp3 : ∀ a b c : Bool, SeqAt.shaped (.list [.bool a, .bool b, .bool c]) = true := by decide
theorem in89 (n : Nat) : inV (.int (n : Nat)) [.int 8, .int 9] = decide (n = 8 ∨ n = 9) := by
  show ((8 : Int) == (n : Int) || ((9 : Int) == (n : Int) || false)) = _
  rw [Bool.or_false]
  by_cases h8 : n = 8
  · subst h8; rfl
  · by_cases h9 : n = 9
    · subst h9; rfl
    · rw [decide_eq_false (by omega)]
      rw [Bool.or_eq_false_iff]
      exact ⟨by rw [beq_eq_false_iff_ne]; omega, by rw [beq_eq_false_iff_ne]; omega⟩
def tIn89 (n : Nat) : TE := fun σ H Q => σ[2]? = some (some (V.int (n : Nat))) ∧ ∀ j, H j = none → Q (.bl (decide (n = 8 ∨ n = 9))) (upd H j (.lst [.int 8, .int 9]))
def tBet (n : Nat) : TE := fun σ H Q => σ[2]? = some (some (V.int (n : Nat))) ∧ Q (.bl (decide (9 < n))) H
def tLt8 (n : Nat) : TE := fun σ H Q => σ[2]? = some (some (V.int (n : Nat))) ∧ Q (.bl (decide (n < 8))) H
section
variable {P : Program} {w : World} {K : PySem.W.Frag} {mg : Str → Option Value} {base : Heap}
theorem sort_mid2 {cdv : Value} {A : Around} {outer : List Env} {s : Shared} {H0 H : Hp} {E : XK} {p : Addr × Obj} {cls : Value} {d : Option Addr} {c wd : Str} {n : Nat} {t2 : TS} {D : Ends} (T : Fre mg) (X : SortX K c n) (O : OwnOk n wd) (hc : cls = .ref (He.ga K c)) (hz : Zc cls d p.2) (hf : ∃ fv, p.2.data = .fields fv)
    (hu : (A.deeper (envOfC "_law_sort" (defScope s_l_sort) s.heap.objs.size (He.ga K "_law_sort") cdv)).units + 64 < cLine) (hdd : ∀ H1, Same H H1 → ∀ d0, d = some d0 → ∃ fs, H1 d0 = some (.xd fs))  (h2 : PSs (cxH CX0 P w K mg base ["_law_e", "_law_own", "_law_at", "_law_kin", "_law_words_here", "_law_word"] "_law_sort" (defScope s_l_sort) (He.ga K "_law_sort") cdv A outer s H0 E p) ((defBody s_l_sort).drop 10) t2)
    (hq : ∀ H1 l k ws, Same H H1 → t2 D [some (.ref p.1), some (.ref l), some (.int (n : Nat)), some k, some ws, some (.str wd)] H1) :
    ∃ t, PSs (cxH CX0 P w K mg base ["_law_e", "_law_own", "_law_at", "_law_kin", "_law_words_here", "_law_word"] "_law_sort" (defScope s_l_sort) (He.ga K "_law_sort") cdv A outer s H0 E p) ((defBody s_l_sort).drop 5) t ∧ ∀ H1 l, Same H H1 → H1 l = some (.lst (ownL n)) → t D [some (.ref p.1), some (.ref l), none, none, none, none] H1 := by
  have XC := X.C
  have big := big1000
  have hlt := O.lt
  have hp : p ∈ [p] := List.mem_singleton_self _
  refine ⟨_, (pss_cons (ps_set (i := 2) sc_l_sort.nd rfl (.inl rfl) (pe_ifExp (pt_cmpR op_eq (pe_bm PySem.F.plainAttrs_list PySem.F.slot_list_count PySem.F.type_list_count mt_count (pv 1) (pa_cons pe_bl pa_nil)) pe_int (nomark _)) (pe_bm PySem.F.plainAttrs_list PySem.F.slot_list_index PySem.F.type_list_index mt_index (pv 1) (pa_cons pe_bl pa_nil)) pe_int))
    (pss_cons (ps_set (i := 3) sc_l_sort.nd rfl (.inl rfl) (pe_lst (pa_cons (PE.weak (t' := tIs p.1 d (decide (n < 8))) (pe_callB (call_isP XC hp hc hz hf) (by rfl) T.isinstance (by decide +kernel) (pa_cons (pv 0) (pa_cons (pe_bltn (v := .ty "ValueError") (by rfl) T.ValueError (by decide +kernel) rfl) pa_nil))) (fun σ H Q z => ⟨.ref p.1, z.1, z.2.1, _, _, _, rfl, fun _ h => h, X.kv, z.2.2⟩)) (pa_cons (PE.weak (t' := tIs p.1 d (decide (n = 8 ∨ n = 9))) (pe_callB (call_isP XC hp hc hz hf) (by rfl) T.isinstance (by decide +kernel) (pa_cons (pv 0) (pa_cons (pe_bltn (v := .ty "LookupError") (by rfl) T.LookupError (by decide +kernel) rfl) pa_nil))) (fun σ H Q z => ⟨.ref p.1, z.1, z.2.1, _, _, _, rfl, fun _ h => h, X.kl, z.2.2⟩)) (pa_cons (PE.weak (t' := tIs p.1 d (decide (9 < n))) (pe_callB (call_isP XC hp hc hz hf) (by rfl) T.isinstance (by decide +kernel) (pa_cons (pv 0) (pa_cons (pe_bltn (v := .ty "ArithmeticError") (by rfl) T.ArithmeticError (by decide +kernel) rfl) pa_nil))) (fun σ H Q z => ⟨.ref p.1, z.1, z.2.1, _, _, _, rfl, fun _ h => h, X.ka, z.2.2⟩)) pa_nil)))))
    (pss_cons (ps_if (pt_cmpR (op_neD hu) (pv 3) (pe_lst (pa_cons (PE.weak (t' := tLt8 n) (pe_cmpR op_lt (pv 2) pe_int (nomark _)) (fun σ H Q z => ⟨.int (n : Nat), z.1, _, _, rfl, rfl, by have h := z.2; rw [show decide (n < 8) = decide ((n : Int) < 8) from decide_eq_decide.mpr (by omega)] at h; exact h⟩)) (pa_cons (PE.weak (t' := tIn89 n) (pe_cmpR op_in_seq (pv 2) (pe_lst (pa_cons pe_int (pa_cons pe_int pa_nil))) (by rfl)) (fun σ H Q z => ⟨.int (n : Nat), z.1, by show 2 ≤ sizeLine; omega, fun j nj => ⟨j, _, rfl, .inl (.inl (.inl upd_same)), rfl, rfl, by have h := z.2 j nj; rw [← in89] at h; exact h⟩⟩)) (pa_cons (PE.weak (t' := tBet n) (pe_chain op_lt op_lt pe_int (pv 2) pe_int) (fun σ H Q z => ⟨.int (n : Nat), z.1, _, _, rfl, rfl, _, rfl, by
      by_cases h9 : 9 < n
      · rw [if_pos (decide_eq_true (show (9 : Int) < n by omega))]
        refine ⟨_, _, rfl, rfl, ?_⟩
        have h := z.2
        rw [show decide (9 < n) = decide ((n : Int) < 14) from decide_eq_decide.mpr (by omega)] at h
        exact h
      · rw [if_neg (by simp; omega)]
        have h := z.2
        rw [decide_eq_false h9] at h
        exact h⟩)) pa_nil)))) (nomark _)) (pss_one ps_never) pss_nil)
    (pss_cons (ps_set (i := 4) sc_l_sort.nd rfl (.inl rfl) (pe_lst (pa_cons pe_str (pa_cons pe_str (pa_cons pe_str (pa_cons pe_str (pa_cons pe_str (pa_cons pe_str (pa_cons pe_str (pa_cons pe_str (pa_cons pe_str pa_nil)))))))))))
    (pss_cons (ps_set (i := 5) sc_l_sort.nd rfl (.inl rfl) (pe_ix ix_list (pe_op op_cat (pv 4) (pe_lst (pa_cons pe_str (pa_cons pe_str (pa_cons pe_str (pa_cons pe_str (pa_cons pe_str pa_nil))))))) (pv 2) (fun _ _ => rfl)))
    h2))))), fun H9 l s9 hl => ?_⟩
  have fl := own_flat n
  have tl : tyV K "list" (.ref l) H9 := .inl ⟨rfl, _, .inl (.inl hl)⟩
  refine ⟨.ref l, rfl, tl, l, ownL n, .bl true, rfl, rfl, .inl (.inl hl), rfl, fl, rfl, _, rfl, ifT (by rw [O.ct]; rfl) ⟨.ref l, rfl, tl, l, ownL n, .bl true, n, .bl true, rfl, rfl, .inl (.inl hl), rfl, fl, O.at_, rfl, O.ix, ?_⟩⟩
  have s0 : Same H H9 := s9
  refine ⟨rfl, hdd _ s0, rfl, hdd _ s0, rfl, hdd _ s0, by show 3 ≤ sizeLine; omega, fun kk nk => ?_⟩
  have s1 := same_upd (o := .lst [.bl (decide (n < 8)), .bl (decide (n = 8 ∨ n = 9)), .bl (decide (9 < n))]) nk
  have ek : upd H9 kk (.lst [.bl (decide (n < 8)), .bl (decide (n = 8 ∨ n = 9)), .bl (decide (9 < n))]) kk = some (.lst [.bl (decide (n < 8)), .bl (decide (n = 8 ∨ n = 9)), .bl (decide (9 < n))]) := upd_same
  generalize upd H9 kk (.lst [.bl (decide (n < 8)), .bl (decide (n = 8 ∨ n = 9)), .bl (decide (9 < n))]) = H1 at s1 ek ⊢
  refine ⟨.ref kk, rfl, rfl, rfl, fun j nj => ⟨rfl, by show 3 ≤ sizeLine; omega, fun g ng => ?_⟩⟩
  have s2 := (same_upd (o := .lst [.int 8, .int 9]) nj).trans (same_upd (o := .lst [.bl (decide (n < 8)), .bl (decide (n = 8 ∨ n = 9)), .bl (decide (9 < n))]) ng)
  have eg : upd (upd H1 j (.lst [.int 8, .int 9])) g (.lst [.bl (decide (n < 8)), .bl (decide (n = 8 ∨ n = 9)), .bl (decide (9 < n))]) g = some (.lst [.bl (decide (n < 8)), .bl (decide (n = 8 ∨ n = 9)), .bl (decide (9 < n))]) := upd_same
  generalize upd (upd H1 j (.lst [.int 8, .int 9])) g (.lst [.bl (decide (n < 8)), .bl (decide (n = 8 ∨ n = 9)), .bl (decide (9 < n))]) = H2 at s2 eg ⊢
  have ek2 := s2 _ _ ek
  have s12 := s9.trans (s1.trans s2)
  refine ⟨.list [.bool (decide (n < 8)), .bool (decide (n = 8 ∨ n = 9)), .bool (decide (9 < n))], .list [.bool (decide (n < 8)), .bool (decide (n = 8 ∨ n = 9)), .bool (decide (9 < n))], .lst (.inl (.inl ek2)) (.cons (.bl _) (.cons (.bl _) (.cons (.bl _) .nil))), .lst (.inl (.inl eg)) (.cons (.bl _) (.cons (.bl _) (.cons (.bl _) .nil))), shp3 _ _ _, shp3 _ _ _, _, rfl, ifF (by rw [eqv3]; rfl) ?_⟩
  refine ⟨by show 9 ≤ sizeLine; omega, fun ws nw => ?_⟩
  have s3 := same_upd (o := .lst ([.str "number", .str "name", .str "index", .str "promise", .str "command", .str "facts", .str "values", .str "points", .str "unknown"] : List V)) nw
  have ew : upd H2 ws (.lst ([.str "number", .str "name", .str "index", .str "promise", .str "command", .str "facts", .str "values", .str "points", .str "unknown"] : List V)) ws = some (.lst ([.str "number", .str "name", .str "index", .str "promise", .str "command", .str "facts", .str "values", .str "points", .str "unknown"] : List V)) := upd_same
  generalize upd H2 ws (.lst ([.str "number", .str "name", .str "index", .str "promise", .str "command", .str "facts", .str "values", .str "points", .str "unknown"] : List V)) = H3 at s3 ew ⊢
  refine ⟨.ref ws, rfl, by show 5 ≤ sizeLine; omega, fun w2 nw2 => ?_⟩
  have s4 := same_upd (o := .lst ([.str "use", .str "machine", .str "many", .str "undo", .str "broken"] : List V)) nw2
  refine ⟨ws, w2, _, _, rfl, rfl, s4 _ _ ew, upd_same, by show 9 + 5 ≤ sizeLine; omega, fun w3 nw3 => ?_⟩
  have s5 := s4.trans (same_upd (o := .lst wordsL) nw3)
  refine ⟨.int (n : Nat), rfl, w3, _, _, _, rfl, rfl, .inl (.inl upd_same), atI_nat (j := n) (xs := wordsL) O.wd, ?_⟩
  exact hq _ l (.ref kk) (.ref ws) ((s12.trans s3).trans s5)
end
end Kr

set_option Elab.async false
set_option linter.all false
set_option maxRecDepth 100000
set_option maxHeartbeats 4000000
/-! The law sorts what was raised: the five that can come. -/
namespace Kr
open PySem PySem.Spec PyProof.Rows L2 L2H
section
variable {P : Program} {w : World} {K : PySem.W.Frag} {mg : Str → Option Value} {base : Heap}
def spLSort (K : PySem.W.Frag) : Addr → Value → Option Addr → Sp := fun a cls d vs H Q _ => ∃ er, vs = [.ref a] ∧ ErE K H cls d er ∧ ErNd er ∧ ∀ H' v, Same H H' → ErrV H' v er → Q v H'
theorem l_sort_ok (D : DefIn K mg "_law_sort" s_l_sort) (T : Fre mg) (S : SortAll K mg) : SOk P w K mg base CX0 1 "_law_sort" ["_law_e"] (spLSort K) := by
  obtain ⟨fd, F⟩ := D.fu
  have big := big1000
  refine ⟨D.m, D.kp, fd, Fun.okS F sc_l_sort (fun a cls d vs H Q E h => ?_) (fun cdv A outer s H vs Q E p cls d hg hr hz hf h => ?_), F.binds (fun _ _ _ _ _ _ us hl => match us, hl with | [_], _ => rfl)⟩
  · obtain ⟨_, rfl, _⟩ := h
    rfl
  · obtain ⟨er, rfl, he, hn, q⟩ := h
    have hu : (A.deeper (envOfC "_law_sort" (defScope s_l_sort) s.heap.objs.size (He.ga K "_law_sort") cdv)).units + 64 < cLine := by have := hr.un; omega
    have hp : p ∈ [p] := List.mem_singleton_self _
    have ht31 : top31 = 10000000000000000000000000000000 := rfl
    cases er with
    | index i =>
      obtain ⟨hc, dd, rfl, ed⟩ := he
      have hdd : ∀ H1, Same H H1 → ∀ d0, some dd = some d0 → ∃ fs, H1 d0 = some (.xd fs) := fun H1 s1 d0 e => ⟨_, by cases e; exact s1 _ _ ed⟩
      have rest : ∃ t2, PSs (cxH CX0 P w K mg base ["_law_e", "_law_own", "_law_at", "_law_kin", "_law_words_here", "_law_word"] "_law_sort" (defScope s_l_sort) (He.ga K "_law_sort") cdv A outer s H E p) ((defBody s_l_sort).drop 10) t2 ∧ ∀ H1 l k0 ws, Same H H1 → t2 { nx := fun _ H' => Q .non H', rt := Q } [some (.ref p.1), some (.ref l), some (.int ((2 : Nat) : Int)), some k0, some ws, some (.str (Er.word (.index i)))] H1 := by
        refine ⟨_, (pss_cons (ps_if (PW.pt (pw_or (pt_cmpR op_lt (pv 2) pe_int (nomark _)) (pw_or1 (pt_cmpR op_eq (pv 2) pe_int (nomark _))))) (pss_one (ps_ret (pe_lst (pa_cons (pv 5) (pa_cons (pe_callB (call_repr_D hg hu) (by rfl) T.repr_ (by decide +kernel) (pa_cons (pe_xfP S.xIndex S.nIndex hp hz hf (pv 0)) pa_nil)) pa_nil))))) pss_nil)
        (pss_cons (ps_if (pt_cmpR op_lt (pv 2) pe_int (nomark _)) (pss_one ps_never) pss_nil)
        (pss_cons (ps_if (pt_cmpR op_eq (pv 2) pe_int (nomark _)) (pss_one ps_never) pss_nil)
        (pss_cons (ps_if (pt_cmpR op_eq (pv 2) pe_int (nomark _)) (pss_one ps_never) pss_nil)
        (pss_one ps_never))))), fun H1 l k0 ws s1 => ?_⟩
        have nb := Nd.int (i := i) (by have := hn.1; omega) (by have := hn.2; omega)
        exact ⟨.int _, rfl, _, _, rfl, rfl, _, rfl, ifT (by decide) (iteT ⟨_, rfl, .ref p.1, rfl, rfl, hc, dd, _, .int i, rfl, s1 _ _ ed, rfl, .int i, .int i, rfl, .int i, nb.sh, nb.nd, Nat.le_trans nb.dp (by decide), nb.len (by decide), by show 2 ≤ sizeLine; omega, fun r nr => q _ _ (s1.trans (same_upd nr)) ⟨r, rfl, upd_same⟩⟩)⟩
      obtain ⟨t2, h2, q2⟩ := rest
      have mid : ∃ t1, PSs (cxH CX0 P w K mg base ["_law_e", "_law_own", "_law_at", "_law_kin", "_law_words_here", "_law_word"] "_law_sort" (defScope s_l_sort) (He.ga K "_law_sort") cdv A outer s H E p) ((defBody s_l_sort).drop 5) t1 ∧ ∀ H1 l, Same H H1 → H1 l = some (.lst (ownL 2)) → t1 { nx := fun _ H' => Q .non H', rt := Q } [some (.ref p.1), some (.ref l), none, none, none, none] H1 := sort_mid2 T S.index ownOk2 hc hz hf hu hdd h2 (fun H1 l k0 ws s1 => q2 H1 l k0 ws s1)
      obtain ⟨t1, h1, q1⟩ := mid
      exact sort_front T S.G S.index hc hz hf hdd h1 q1
    | unknown z =>
      obtain ⟨hc, dd, rfl, ed⟩ := he
      have hdd : ∀ H1, Same H H1 → ∀ d0, some dd = some d0 → ∃ fs, H1 d0 = some (.xd fs) := fun H1 s1 d0 e => ⟨_, by cases e; exact s1 _ _ ed⟩
      have rest : ∃ t2, PSs (cxH CX0 P w K mg base ["_law_e", "_law_own", "_law_at", "_law_kin", "_law_words_here", "_law_word"] "_law_sort" (defScope s_l_sort) (He.ga K "_law_sort") cdv A outer s H E p) ((defBody s_l_sort).drop 10) t2 ∧ ∀ H1 l k0 ws, Same H H1 → t2 { nx := fun _ H' => Q .non H', rt := Q } [some (.ref p.1), some (.ref l), some (.int ((8 : Nat) : Int)), some k0, some ws, some (.str (Er.word (.unknown z)))] H1 := by
        refine ⟨_, (pss_cons (ps_if (PW.pt (pw_or (pt_cmpR op_lt (pv 2) pe_int (nomark _)) (pw_or1 (pt_cmpR op_eq (pv 2) pe_int (nomark _))))) (pss_one (ps_ret (pe_lst (pa_cons (pv 5) (pa_cons (pe_callB (call_repr_D hg hu) (by rfl) T.repr_ (by decide +kernel) (pa_cons (pe_xfP S.xUnknown S.nUnknown hp hz hf (pv 0)) pa_nil)) pa_nil))))) pss_nil)
        (pss_cons (ps_if (pt_cmpR op_lt (pv 2) pe_int (nomark _)) (pss_one ps_never) pss_nil)
        (pss_cons (ps_if (pt_cmpR op_eq (pv 2) pe_int (nomark _)) (pss_one ps_never) pss_nil)
        (pss_cons (ps_if (pt_cmpR op_eq (pv 2) pe_int (nomark _)) (pss_one ps_never) pss_nil)
        (pss_one ps_never))))), fun H1 l k0 ws s1 => ?_⟩
        have nb := GoodName.nd hn
        exact ⟨.int _, rfl, _, _, rfl, rfl, _, rfl, ifF (by decide) ⟨.int _, rfl, rfl, _, rfl, ifT (by decide) ⟨_, rfl, .ref p.1, rfl, rfl, hc, dd, _, .str z, rfl, s1 _ _ ed, rfl, .str z, .str z, rfl, .str z, nb.sh, nb.nd, Nat.le_trans nb.dp (by decide), nb.len (by decide), by show 2 ≤ sizeLine; omega, fun r nr => q _ _ (s1.trans (same_upd nr)) ⟨r, rfl, upd_same⟩⟩⟩⟩
      obtain ⟨t2, h2, q2⟩ := rest
      have mid : ∃ t1, PSs (cxH CX0 P w K mg base ["_law_e", "_law_own", "_law_at", "_law_kin", "_law_words_here", "_law_word"] "_law_sort" (defScope s_l_sort) (He.ga K "_law_sort") cdv A outer s H E p) ((defBody s_l_sort).drop 5) t1 ∧ ∀ H1 l, Same H H1 → H1 l = some (.lst (ownL 8)) → t1 { nx := fun _ H' => Q .non H', rt := Q } [some (.ref p.1), some (.ref l), none, none, none, none] H1 := sort_mid2 T S.unknown ownOk8 hc hz hf hu hdd h2 (fun H1 l k0 ws s1 => q2 H1 l k0 ws s1)
      obtain ⟨t1, h1, q1⟩ := mid
      exact sort_front T S.G S.unknown hc hz hf hdd h1 q1
    | use k =>
      obtain ⟨hc, dd, rfl, ed⟩ := he
      have hdd : ∀ H1, Same H H1 → ∀ d0, some dd = some d0 → ∃ fs, H1 d0 = some (.xd fs) := fun H1 s1 d0 e => ⟨_, by cases e; exact s1 _ _ ed⟩
      have rest : ∃ t2, PSs (cxH CX0 P w K mg base ["_law_e", "_law_own", "_law_at", "_law_kin", "_law_words_here", "_law_word"] "_law_sort" (defScope s_l_sort) (He.ga K "_law_sort") cdv A outer s H E p) ((defBody s_l_sort).drop 10) t2 ∧ ∀ H1 l k0 ws, Same H H1 → t2 { nx := fun _ H' => Q .non H', rt := Q } [some (.ref p.1), some (.ref l), some (.int ((9 : Nat) : Int)), some k0, some ws, some (.str (Er.word (.use k)))] H1 := by
        refine ⟨_, (pss_cons (ps_if (PW.pt (pw_or (pt_cmpR op_lt (pv 2) pe_int (nomark _)) (pw_or1 (pt_cmpR op_eq (pv 2) pe_int (nomark _))))) (pss_one ps_never) pss_nil)
        (pss_cons (ps_if (pt_cmpR op_lt (pv 2) pe_int (nomark _)) (pss_one (ps_ret (pe_lst (pa_cons (pv 5) (pa_cons (pe_callB (call_repr_D hg hu) (by rfl) T.repr_ (by decide +kernel) (pa_cons (pe_xfP S.xUse S.nUse hp hz hf (pv 0)) pa_nil)) pa_nil))))) pss_nil)
        (pss_cons (ps_if (pt_cmpR op_eq (pv 2) pe_int (nomark _)) (pss_one ps_never) pss_nil)
        (pss_cons (ps_if (pt_cmpR op_eq (pv 2) pe_int (nomark _)) (pss_one ps_never) pss_nil)
        (pss_one ps_never))))), fun H1 l k0 ws s1 => ?_⟩
        have hk : k ≤ 1000 := hn
        have nb := Nd.int (i := (k : Nat)) (by omega) (by omega)
        exact ⟨.int _, rfl, _, _, rfl, rfl, _, rfl, ifF (by decide) ⟨.int _, rfl, rfl, _, rfl, ifF (by decide) ⟨.int _, rfl, _, _, rfl, rfl, _, rfl, ifT (by decide) ⟨_, rfl, .ref p.1, rfl, rfl, hc, dd, _, .int k, rfl, s1 _ _ ed, rfl, .int k, .int k, rfl, .int k, nb.sh, nb.nd, Nat.le_trans nb.dp (by decide), nb.len (by decide), by show 2 ≤ sizeLine; omega, fun r nr => q _ _ (s1.trans (same_upd nr)) ⟨r, rfl, upd_same⟩⟩⟩⟩⟩
      obtain ⟨t2, h2, q2⟩ := rest
      have mid : ∃ t1, PSs (cxH CX0 P w K mg base ["_law_e", "_law_own", "_law_at", "_law_kin", "_law_words_here", "_law_word"] "_law_sort" (defScope s_l_sort) (He.ga K "_law_sort") cdv A outer s H E p) ((defBody s_l_sort).drop 5) t1 ∧ ∀ H1 l, Same H H1 → H1 l = some (.lst (ownL 9)) → t1 { nx := fun _ H' => Q .non H', rt := Q } [some (.ref p.1), some (.ref l), none, none, none, none] H1 := sort_mid2 T S.use ownOk9 hc hz hf hu hdd h2 (fun H1 l k0 ws s1 => q2 H1 l k0 ws s1)
      obtain ⟨t1, h1, q1⟩ := mid
      exact sort_front T S.G S.use hc hz hf hdd h1 q1
    | undo =>
      obtain ⟨hc, rfl⟩ := he
      have hdd : ∀ H1, Same H H1 → ∀ d0, (none : Option Addr) = some d0 → ∃ fs, H1 d0 = some (.xd fs) := fun _ _ _ e => nomatch e
      have rest : ∃ t2, PSs (cxH CX0 P w K mg base ["_law_e", "_law_own", "_law_at", "_law_kin", "_law_words_here", "_law_word"] "_law_sort" (defScope s_l_sort) (He.ga K "_law_sort") cdv A outer s H E p) ((defBody s_l_sort).drop 10) t2 ∧ ∀ H1 l k0 ws, Same H H1 → t2 { nx := fun _ H' => Q .non H', rt := Q } [some (.ref p.1), some (.ref l), some (.int ((12 : Nat) : Int)), some k0, some ws, some (.str (Er.word (.undo)))] H1 := by
        refine ⟨_, (pss_cons (ps_if (PW.pt (pw_or (pt_cmpR op_lt (pv 2) pe_int (nomark _)) (pw_or1 (pt_cmpR op_eq (pv 2) pe_int (nomark _))))) (pss_one ps_never) pss_nil)
        (pss_cons (ps_if (pt_cmpR op_lt (pv 2) pe_int (nomark _)) (pss_one ps_never) pss_nil)
        (pss_cons (ps_if (pt_cmpR op_eq (pv 2) pe_int (nomark _)) (pss_one ps_never) pss_nil)
        (pss_cons (ps_if (pt_cmpR op_eq (pv 2) pe_int (nomark _)) (pss_one ps_never) pss_nil)
        (pss_one (ps_ret (pe_lst (pa_cons (pv 5) (pa_cons (pe_ifExp (pt_cmpR op_eq (pv 2) pe_int (nomark _)) pe_str pe_never) pa_nil))))))))), fun H1 l k0 ws s1 => ?_⟩
        exact ⟨.int _, rfl, _, _, rfl, rfl, _, rfl, ifF (by decide) ⟨.int _, rfl, rfl, _, rfl, ifF (by decide) ⟨.int _, rfl, _, _, rfl, rfl, _, rfl, ifF (by decide) ⟨.int _, rfl, rfl, _, rfl, ifF (by decide) ⟨.int _, rfl, rfl, _, rfl, ifF (by decide) ⟨_, rfl, .int _, rfl, rfl, _, rfl, ifT (by decide) ⟨by show 2 ≤ sizeLine; omega, fun r nr => q _ _ (s1.trans (same_upd nr)) ⟨r, rfl, upd_same⟩⟩⟩⟩⟩⟩⟩⟩
      obtain ⟨t2, h2, q2⟩ := rest
      have mid : ∃ t1, PSs (cxH CX0 P w K mg base ["_law_e", "_law_own", "_law_at", "_law_kin", "_law_words_here", "_law_word"] "_law_sort" (defScope s_l_sort) (He.ga K "_law_sort") cdv A outer s H E p) ((defBody s_l_sort).drop 5) t1 ∧ ∀ H1 l, Same H H1 → H1 l = some (.lst (ownL 12)) → t1 { nx := fun _ H' => Q .non H', rt := Q } [some (.ref p.1), some (.ref l), none, none, none, none] H1 := sort_mid2 T S.undo ownOk12 hc hz hf hu hdd h2 (fun H1 l k0 ws s1 => q2 H1 l k0 ws s1)
      obtain ⟨t1, h1, q1⟩ := mid
      exact sort_front T S.G S.undo hc hz hf hdd h1 q1
    | broken k sh =>
      obtain ⟨hc, dd, y, rfl, ed, hy⟩ := he
      have hdd : ∀ H1, Same H H1 → ∀ d0, some dd = some d0 → ∃ fs, H1 d0 = some (.xd fs) := fun H1 s1 d0 e => ⟨_, by cases e; exact s1 _ _ ed⟩
      have rest : ∃ t2, PSs (cxH CX0 P w K mg base ["_law_e", "_law_own", "_law_at", "_law_kin", "_law_words_here", "_law_word"] "_law_sort" (defScope s_l_sort) (He.ga K "_law_sort") cdv A outer s H E p) ((defBody s_l_sort).drop 10) t2 ∧ ∀ H1 l k0 ws, Same H H1 → t2 { nx := fun _ H' => Q .non H', rt := Q } [some (.ref p.1), some (.ref l), some (.int ((13 : Nat) : Int)), some k0, some ws, some (.str (Er.word (.broken k sh)))] H1 := by
        refine ⟨_, (pss_cons (ps_if (PW.pt (pw_or (pt_cmpR op_lt (pv 2) pe_int (nomark _)) (pw_or1 (pt_cmpR op_eq (pv 2) pe_int (nomark _))))) (pss_one ps_never) pss_nil)
        (pss_cons (ps_if (pt_cmpR op_lt (pv 2) pe_int (nomark _)) (pss_one ps_never) pss_nil)
        (pss_cons (ps_if (pt_cmpR op_eq (pv 2) pe_int (nomark _)) (pss_one ps_never) pss_nil)
        (pss_cons (ps_if (pt_cmpR op_eq (pv 2) pe_int (nomark _)) (pss_one ps_never) pss_nil)
        (pss_one (ps_ret (pe_lst (pa_cons (pv 5) (pa_cons (pe_ifExp (pt_cmpR op_eq (pv 2) pe_int (nomark _)) pe_str (pe_callB (call_repr_D hg hu) (by rfl) T.repr_ (by decide +kernel) (pa_cons (pe_lst (pa_cons (pe_xfP S.xBroken S.nBroken hp hz hf (pv 0)) (pa_cons (pe_xfP S.xBroken S.nBroken2 hp hz hf (pv 0)) pa_nil))) pa_nil))) pa_nil))))))))), fun H1 l k0 ws s1 => ?_⟩
        have nb := broken_nd hn
        refine ⟨.int _, rfl, _, _, rfl, rfl, _, rfl, ifF (by decide) ⟨.int _, rfl, rfl, _, rfl, ifF (by decide) ⟨.int _, rfl, _, _, rfl, rfl, _, rfl, ifF (by decide) ⟨.int _, rfl, rfl, _, rfl, ifF (by decide) ⟨.int _, rfl, rfl, _, rfl, ifF (by decide) ⟨_, rfl, .int _, rfl, rfl, _, rfl, ifF (by decide) ⟨.ref p.1, rfl, rfl, hc, dd, _, .int k, rfl, s1 _ _ ed, rfl, .ref p.1, rfl, rfl, hc, dd, _, y, rfl, s1 _ _ ed, rfl, by show 2 ≤ sizeLine; omega, fun g ng => ?_⟩⟩⟩⟩⟩⟩⟩
        have s2 := same_upd (o := .lst [.int k, y]) ng
        refine ⟨.ref g, brokenD k sh, rfl, .lst (.inl (.inl upd_same)) (.cons (.int _) (.cons ((hy.ts s1.ts).ts s2.ts).dp .nil)), nb.sh, nb.nd, Nat.le_trans nb.dp (by decide), nb.len (by decide), by show 2 ≤ sizeLine; omega, fun r nr => ?_⟩
        exact q _ _ ((s1.trans s2).trans (same_upd nr)) ⟨r, rfl, upd_same⟩
      obtain ⟨t2, h2, q2⟩ := rest
      have mid : ∃ t1, PSs (cxH CX0 P w K mg base ["_law_e", "_law_own", "_law_at", "_law_kin", "_law_words_here", "_law_word"] "_law_sort" (defScope s_l_sort) (He.ga K "_law_sort") cdv A outer s H E p) ((defBody s_l_sort).drop 5) t1 ∧ ∀ H1 l, Same H H1 → H1 l = some (.lst (ownL 13)) → t1 { nx := fun _ H' => Q .non H', rt := Q } [some (.ref p.1), some (.ref l), none, none, none, none] H1 := sort_mid2 T S.broken ownOk13 hc hz hf hu hdd h2 (fun H1 l k0 ws s1 => q2 H1 l k0 ws s1)
      obtain ⟨t1, h1, q1⟩ := mid
      exact sort_front T S.G S.broken hc hz hf hdd h1 q1
end
end Kr

set_option Elab.async false
set_option linter.all false
set_option maxRecDepth 100000
set_option maxHeartbeats 4000000
/-! What a deed is told to be. -/
namespace Kr
open PySem PySem.Spec PyProof.Rows L2 L2H LamX
/-- the three classes that are caught -/
def caught (K : PySem.W.Frag) (cls : Value) : Prop := PySem.W.exmAny K cls [.ref (He.ga K "WrongValue"), .ref (He.ga K "WrongName"), .ref (He.ga K "NoAnswer")] = some true
def TToldG (K : PySem.W.Frag) : (XK → Hp → VK → Prop) → Hp → VK → Prop := fun tl H Q =>
  tl (fun cls d H' => caught K cls ∧ ∃ er, ErE K H' cls d er ∧ ErNd er ∧ ∀ H2 v, Same H' H2 → ErrV H2 v er → Q v H2) H (fun v H' => v = .non ∧ ∀ H2 r, Same H' H2 → H2 r = some (.lst [.str "gave", .str "None"]) → Q (.ref r) H2)
theorem PE.cont {X : Cx} {e : Expr} {te : TE} (h : PE X e te) : PE X e (fun σ H Q => ∃ Q1 : VK, te σ H Q1 ∧ ∀ v H2, Q1 v H2 → Q v H2) :=
  ⟨fun pins s σ H Q I ⟨Q1, q, m⟩ => thn (h.run pins s σ H Q1 I q) fun u s1 ⟨v, H1, I1, r, q⟩ => ⟨v, H1, I1, r, m _ _ q⟩⟩
theorem PSs.len {X : Cx} {body : List Stmt} {t : TS} (h : PSs X body t) : PSs X body (fun D σ H => σ.length = X.N.length → t D σ H) := ⟨fun pins s σ H D I q => h.run pins s σ H D I (q I.len)⟩
theorem sc_l_told : FnScope ["_law_act", "_law_back", "_law_e"] ["_law_act"] (defScope s_l_told) := ⟨rfl, rfl, rfl, by decide +kernel, rfl, by decide +kernel, by decide +kernel⟩
structure ToldC (mg : Str → Option Value) (K : PySem.W.Frag) : Prop where
  m1 : mg "WrongValue" = some (.ref (He.ga K "WrongValue"))
  m2 : mg "WrongName" = some (.ref (He.ga K "WrongName"))
  m3 : mg "NoAnswer" = some (.ref (He.ga K "NoAnswer"))
theorem told_givesG {X : Cx} {q : Str} {g : Addr} {cdg : Value} (hg : X.A.guards = some []) (hr : Room 2 X.A) (T : Fre X.mg) (C : ToldC X.mg X.K) (S : SOk X.prog X.w X.K X.mg X.base CX0 1 "_law_sort" ["_law_e"] (spLSort X.K)) :
    GivesTo X ["_law_act", "_law_back", "_law_e"] "_law_told" (defScope s_l_told) g cdg (defBody s_l_told) "_law_act" q (TToldG X.K) := by
  intro f c' s H Q tl act hc h
  have hr1 : Room 1 (X.A.deeper (envOfC "_law_told" (defScope s_l_told) s.heap.objs.size g cdg)) := hr.deeper _
  refine ⟨_, pss_cons (ps_try_tup (X := (cxOf CX0 X.prog X.w X.K X.mg X.base ["_law_act", "_law_back", "_law_e"] "_law_told" (defScope s_l_told) g cdg X.A X.stack s H E0).nox) (i := 2)
      (ts := fun a cls d D σ H => σ.length = 3 → tRet (fun σ H Q => tCons (tVar 2) tNil σ H fun vs H1 => spLSort X.K a cls d vs H1 Q fun _ _ _ => False) D σ H)
      (tb := fun W D σ H1 => ∃ (Ech : XK) (Q1 : VK), (∀ cls d σ' H', Ech cls d H' → W cls d σ' H') ∧ (σ[0]? = some (some (.ref f)) ∧ H1 c' = some (CodeO c' q) ∧ tl Ech H1 Q1) ∧ ∀ v H2, Q1 v H2 → D.nx (σ.set 1 (some v)) H2)
      rfl rfl sc_l_told.nd rfl rfl rfl C.m1 rfl C.m2 rfl C.m3 (fun W pn xe tk _ => ?_) (fun a oe cls d pn hz hf => PSs.len (pss_one (ps_ret (pe_fnS (X := (cxOf CX0 X.prog X.w X.K X.mg X.base ["_law_act", "_law_back", "_law_e"] "_law_told" (defScope s_l_told) g cdg X.A X.stack s H E0).nox.suite a ((a, oe) :: pn)) (p := (a, oe)) (cls := cls) (d := d) S hg (show RoomH 1 _ from ⟨hr1.dp, hr1.un⟩) List.mem_cons_self hz hf (pa_cons (pv 2) pa_nil))))))
      (pss_one (ps_ret (pe_lst (pa_cons pe_str (pa_cons (pe_callB (call_repr_D hg hr1.units) (by rfl) T.repr_ (by decide +kernel) (pa_cons (pv 1) pa_nil)) pa_nil))))), ?_⟩
  · refine ⟨fun pins s' σ H' D I h' => ?_⟩
    obtain ⟨Ech, Q1, hW, h1, h2⟩ := h'
    exact (pss_one (ps_set (i := 1) sc_l_told.nd rfl (.inl rfl) (PE.cont (act W pn xe Ech _ _ tk hW)))).run pins s' σ H' D I ⟨Q1, h1, h2⟩
  · refine ⟨fun cls d H' => caught X.K cls ∧ ∃ er, ErE X.K H' cls d er ∧ ErNd er ∧ ∀ H2 v, Same H' H2 → ErrV H2 v er → Q v H2, fun v H' => v = .non ∧ ∀ H2 r, Same H' H2 → H2 r = some (.lst [.str "gave", .str "None"]) → Q (.ref r) H2, fun cls d σ' H' h => ?_, ⟨rfl, hc, h⟩, fun v H2 h => ?_⟩
    · obtain ⟨hcaught, er, he, hn, q2⟩ := h
      refine ⟨hcaught, fun a na hl => ⟨.ref a, ?_, er, rfl, he, hn, q2⟩⟩
      rw [List.length_set] at hl
      rw [List.getElem?_set_self (by omega)]
    · obtain ⟨rfl, q2⟩ := h
      have nb := Nd.non
      exact ⟨.non, rfl, .non, .none, rfl, .non, nb.sh, nb.nd, Nat.le_trans nb.dp (by decide), nb.len (by decide), by show 2 ≤ sizeLine; have := big1000; omega, fun r nr => q2 _ _ (same_upd nr) upd_same⟩
end Kr

set_option Elab.async false
set_option linter.all false
set_option maxRecDepth 100000
set_option maxHeartbeats 4000000
/-! The law's lambdas told; the past. -/
namespace Kr
open PySem PySem.Spec PyProof.Rows L2 L2H LamX
/-- a def of the module whose code object stands at c -/
structure DefC (K : PySem.W.Frag) (mg : Str → Option Value) (x : Str) (st : Stmt) (c : Addr) : Prop where
  m : mg x = some (.ref (He.ga K x))
  kp : PySem.W.keepIn K (.ref (He.ga K x)) = true
  fu : ∃ fd, L2.Fun K x x st (He.ga K x) fd ∧ fd.code = .ref c
section
variable {P : Program} {w : World} {K : PySem.W.Frag} {mg : Str → Option Value} {base : Heap} {x : Str} {st : Stmt} {N ps : List Str} {k : Nat} {sp : Sp}
theorem DefC.okG {c : Addr} (D : DefC K mg x st c) (S : FnScope N ps (defScope st)) (len : ∀ vs H Q E, sp vs H Q E → vs.length = ps.length)
    (hb : ∀ (kV doc pm : Value) (an : Option Addr) (cdv ct : Value) (us : List Value), us.length = ps.length → bindArgs (PySem.W.fnOf x x (defArgs st) (defBody st) (defScope st) .none kV doc pm an cdv ct) ⟨us, []⟩ = pure (ps.zip us))
    (hbody : ∀ (A : Around) (outer : List Env) (s : Shared) (H : Hp) (vs : List V) (Q : VK) (E : XK), A.guards = some [] → Room k (A.deeper (envOfC x (defScope st) s.heap.objs.size (He.ga K x) (.ref c))) → sp vs H Q E →
      ∃ t, PSs (cxOf CX0 P w K mg base N x (defScope st) (He.ga K x) (.ref c) A outer s H E).nox (defBody st) t ∧ t { nx := fun _ H' => Q .non H', rt := Q } (L2.start N vs) H) : GOk P w K mg base CX0 (k + 1) x ps sp := by
  obtain ⟨fd, F, ec⟩ := D.fu
  refine ⟨D.m, D.kp, fd, Kr.Fun.okG F S len (fun cdv A outer s H vs Q E hc e hg hr h => ?_), F.binds hb⟩
  have e2 : cdv = .ref c := e.symm.trans ec
  subst e2
  exact hbody A outer s H vs Q E hg hr h
end
/-- told(lambda: body) -/
theorem pe_told {X : Cx} {T : List (Addr × Str)} {c Pt : Addr} {k : Nat} {params : Arguments} {body : Expr} {scope : Scope} {t : XK → TE} {p lpos pos : Pos} (DT : DefIn X.K X.mg "_law_told" s_l_told) (FT : Fre X.mg) (C : ToldC X.mg X.K) (S : SOk X.prog X.w X.K X.mg X.base CX0 1 "_law_sort" ["_law_e"] (spLSort X.K)) (hg : X.A.guards = some []) (hr : Room (k + 2) X.A)
    (TB : TabB X.base X.mg c Pt) (hcode : X.env.code = .ref c) (hmT : (Pt, X.env.qual ++ "<lambda>") ∈ T) (hu : ∀ p ∈ T, p.1 = Pt → p.2 = X.env.qual ++ "<lambda>") (L : LamS X.env.scope scope)
    (hbind : ∀ (q : Str) (cl : List (Str × Addr)) (pm cv ctv : Value), bindArgs (PySem.W.kla_fn "<lambda>" q params body scope cl pm cv ctv) ⟨[], []⟩ = pure [])
    (hbody : ∀ (A : Around) (outer : List Env) (s : Shared) (H : Hp) (E : XK) (f c' : Addr), Room k (A.deeper (lamEnv X scope s.heap.objs.size f c')) → PE (lamCx X A outer s H E scope f c') body (t E))
    (hgl : Gl X "_law_told" := by rfl) (hdef : defaultsOf params X.env = ([], []) := by rfl) :
    PE X (.Call (.Name "_law_told" p) [.Lambda params body scope lpos] [] pos) (tLam T (TToldG X.K) t) := by
  obtain ⟨fd, F⟩ := DT.fu
  obtain ⟨oc, od, kV, doc, pm, an, cdv, ct, osl, rfl, lk, hcd⟩ := F.ex
  exact pe_lamcall hgl DT.m DT.kp lk hcd (F.binds fun _ _ _ _ _ _ us hl => match us, hl with | [_], _ => rfl) sc_l_told rfl (.inl rfl) (told_givesG hg (hr.mono (by omega)) FT C S) TB hcode hmT hu hr L hdef hbind hbody
/-! ### heaps where the tables of code grow -/
/-- all but the tables and what stands at S stays -/
def FrN (S : List Addr) (H H' : Hp) : Prop := ∀ b o, b ∉ S → (∀ ps, o ≠ .tbl ps) → H b = some o → H' b = some o
theorem FrN.refl (S : List Addr) (H : Hp) : FrN S H H := fun _ _ _ _ h => h
theorem FrN.trans {S : List Addr} {H H1 H2 : Hp} (a : FrN S H H1) (b : FrN S H1 H2) : FrN S H H2 := fun c o n m h => b c o n m (a c o n m h)
theorem Fr.n {S S' : List Addr} {H H' : Hp} (h : Fr S H H') (hs : ∀ a ∈ S, a ∈ S') : FrN S' H H' := fun b o n _ e => h b o (fun z => n (hs b z)) e
theorem _root_.LamX.ExtN.n {S : List Addr} {H H' : Hp} (h : ExtN H H') : FrN S H H' := fun b o _ m e => h b o e m
theorem _root_.L2.Same.n {S : List Addr} {H H' : Hp} (h : Same H H') : FrN S H H' := fun b o _ _ e => h b o e
theorem FrN.ts {S : List Addr} {H H' : Hp} (e : FrN S H H') (n : NoT S H) : Ts H H' :=
  ⟨fun b xs h => e b _ (n.no h (fun _ z => nomatch z) fun _ _ _ z => nomatch z) (fun _ z => nomatch z) h, fun b o u h => e b _ (n.no h (fun _ z => nomatch z) fun _ _ _ z => nomatch z) (fun _ z => nomatch z) h, fun b xs h => e b _ (n.no h (fun _ z => nomatch z) fun _ _ _ z => nomatch z) (fun _ z => nomatch z) h⟩
/-! ### the past -/
/-- the states so far, the first one first -/
structure PastV (K : PySem.W.Frag) (H : Hp) (vs : List V) (past : List AS) : Prop where
  len : vs.length = past.length
  st : ∀ i v s, vs[i]? = some v → past[i]? = some s → StV K H v s i
structure PastOk (n : Nat) (past : List AS) : Prop where
  ok : ∀ i s, past[i]? = some s → AOk n s ∧ (∀ u ∈ s.vows, UB u) ∧ s.tab.length ≤ i ∧ s.vows.length ≤ i
theorem StV.fr {K : PySem.W.Frag} {H H' : Hp} {v : V} {s : AS} {k : Nat} {S : List Addr} (h : StV K H v s k) (n : NoT S H) (e : FrN S H H') (hS : ∀ a ∈ S, (∃ p, a = p ∧ Vial H p) ∨ ∃ C dx fs, H a = some (.ins C dx fs)) : StV K H' v s k := by
  obtain ⟨c, t, l, ys, rfl, hc, ht, hl, hpv⟩ := h
  have ts := e.ts n
  have hlS : l ∉ S := fun hm => by
    rcases hS l hm with ⟨p, rfl, vi⟩ | ⟨C, dx, fs, q⟩
    · exact st_ne hl hpv vi rfl
    · rw [hl] at q
      cases q
  exact ⟨c, t, l, ys, rfl, ts.sqt hc, ht.ts ts, e _ _ hlS (fun _ z => nomatch z) hl, Paired.mapP hpv fun _ _ z => z.ts ts⟩
end Kr

set_option Elab.async false
set_option linter.all false
set_option maxRecDepth 100000
set_option maxHeartbeats 1000000
/-! The past: its last state, one more, one less. -/
namespace Kr
open PySem PySem.Spec PyProof.Rows L2
theorem PastV.length {K : PySem.W.Frag} {H : Hp} {us : List V} {past : List AS} {v : V} {s : AS} (h : PastV K H (us ++ [v]) (past ++ [s])) : us.length = past.length := by
  have := h.len
  rw [List.length_append, List.length_append, List.length_singleton, List.length_singleton] at this
  omega
theorem PastV.last {K : PySem.W.Frag} {H : Hp} {us : List V} {past : List AS} {v : V} {s : AS} (h : PastV K H (us ++ [v]) (past ++ [s])) : StV K H v s past.length := by
  have hl := h.length
  refine h.st past.length v s ?_ ?_
  · rw [← hl, List.getElem?_append_right (Nat.le_refl _), Nat.sub_self]
    rfl
  · rw [List.getElem?_append_right (Nat.le_refl _), Nat.sub_self]
    rfl
theorem PastV.init {K : PySem.W.Frag} {H : Hp} {us : List V} {past : List AS} {v : V} {s : AS} (h : PastV K H (us ++ [v]) (past ++ [s])) : PastV K H us past := by
  have hl := h.length
  refine ⟨hl, fun i x y hx hy => h.st i x y ?_ ?_⟩
  · rw [List.getElem?_append_left (List.getElem?_eq_some_iff.mp hx).1]
    exact hx
  · rw [List.getElem?_append_left (List.getElem?_eq_some_iff.mp hy).1]
    exact hy
theorem PastV.snoc {K : PySem.W.Frag} {H : Hp} {us : List V} {past : List AS} {v : V} {s : AS} (h : PastV K H us past) (hv : StV K H v s past.length) : PastV K H (us ++ [v]) (past ++ [s]) := by
  refine ⟨by rw [List.length_append, List.length_append, h.len]; rfl, fun i x y hx hy => ?_⟩
  by_cases hi : i < past.length
  · rw [List.getElem?_append_left (by rw [h.len]; exact hi)] at hx
    rw [List.getElem?_append_left hi] at hy
    exact h.st i x y hx hy
  · have hi2 : i < (past ++ [s]).length := (List.getElem?_eq_some_iff.mp hy).1
    rw [List.length_append, List.length_singleton] at hi2
    have e : i = past.length := by omega
    subst e
    rw [List.getElem?_append_right (by rw [h.len]; exact Nat.le_refl _), h.len, Nat.sub_self] at hx
    rw [List.getElem?_append_right (Nat.le_refl _), Nat.sub_self] at hy
    cases hx
    cases hy
    exact hv
theorem PastV.map {K : PySem.W.Frag} {H H' : Hp} {us : List V} {past : List AS} (h : PastV K H us past) (m : ∀ v s k, StV K H v s k → StV K H' v s k) : PastV K H' us past := ⟨h.len, fun i v s a b => m v s i (h.st i v s a b)⟩
theorem PastOk.init {n : Nat} {past : List AS} {s : AS} (h : PastOk n (past ++ [s])) : PastOk n past := ⟨fun i y hy => h.ok i y (by rw [List.getElem?_append_left (List.getElem?_eq_some_iff.mp hy).1]; exact hy)⟩
theorem PastOk.last {n : Nat} {past : List AS} {s : AS} (h : PastOk n (past ++ [s])) : AOk n s ∧ (∀ u ∈ s.vows, UB u) ∧ s.tab.length ≤ past.length ∧ s.vows.length ≤ past.length := h.ok past.length s (by rw [List.getElem?_append_right (Nat.le_refl _), Nat.sub_self]; rfl)
theorem PastOk.snoc {n : Nat} {past : List AS} {s : AS} (h : PastOk n past) (hs : AOk n s ∧ (∀ u ∈ s.vows, UB u) ∧ s.tab.length ≤ past.length ∧ s.vows.length ≤ past.length) : PastOk n (past ++ [s]) := ⟨fun i y hy => by
  by_cases hi : i < past.length
  · rw [List.getElem?_append_left hi] at hy
    exact h.ok i y hy
  · have hi2 : i < (past ++ [s]).length := (List.getElem?_eq_some_iff.mp hy).1
    rw [List.length_append, List.length_singleton] at hi2
    have e : i = past.length := by omega
    subst e
    rw [List.getElem?_append_right (Nat.le_refl _), Nat.sub_self] at hy
    cases hy
    exact hs⟩
theorem act_ub {n : Nat} {s s' : AS} {j : Job} (h : ∀ u ∈ s.vows, UB u) (jo : JobOk n j) (e : j.act s = .ok s') : ∀ u ∈ s'.vows, UB u := by
  cases j with
  | put x F =>
    have e : putA s x F = .ok s' := e
    unfold putA at e
    split at e
    · cases e
    · cases e
      exact h
  | vow w =>
    have e : vowA s w = .ok s' := e
    unfold vowA at e
    split at e
    · cases e
    · split at e
      · cases e
      · cases e
        intro u hu
        rcases List.mem_append.mp hu with hu | hu
        · exact h u hu
        · rw [List.mem_singleton.mp hu]
          exact jo.1
  | rem x =>
    have e : remA s x = .ok s' := e
    unfold remA at e
    split at e
    · split at e
      · cases e
      · cases e
        exact h
    · cases e
  | lift i =>
    have e : liftA s i = .ok s' := e
    unfold liftA at e
    split at e
    · cases e
      exact fun u hu => h u (mem_cut hu)
    · cases e
end Kr

set_option Elab.async false
set_option linter.all false
set_option maxRecDepth 100000
set_option maxHeartbeats 1000000
/-! One turn of the law. -/
namespace Kr
open PySem PySem.Spec PyProof.Rows L2 L2H LamX
section
variable {P : Program} {w : World} {K : PySem.W.Frag} {mg : Str → Option Value} {base : Heap}
/-- the name of a lambda within a def -/
def lamQ (x : Str) (st : Stmt) : Str := (envOfC x (defScope st) 0 0 (.ref 0)).qual ++ "<lambda>"
/-- the five that can come are caught -/
structure CaughtAll (K : PySem.W.Frag) : Prop where
  index : caught K (.ref (He.ga K "InvalidIndex"))
  unknown : caught K (.ref (He.ga K "UnknownName"))
  use : caught K (.ref (He.ga K "InUse"))
  undo : caught K (.ref (He.ga K "NothingToUndo"))
  broken : caught K (.ref (He.ga K "Broken"))
structure Turn (K : PySem.W.Frag) (T : List (Addr × Str)) (H : Hp) (p M D W : Addr) (n : Nat) (zs : List Str) : Prop where
  v : Vial H p
  hn : Base n
  m : MapsAt K H M n
  w : H W = some (.lst (zs.map V.str))
  z : zs ≠ []
  zl : zs.length ≤ 1000
  zg : ∀ z ∈ zs, GoodName z
  t : Tabs T H
theorem tabs_fr {T : List (Addr × Str)} {S : List Addr} {H H' : Hp} (t : Tabs T H) (e : Fr S H H') (n : NoT S H) : Tabs T H' := fun p hp => by
  obtain ⟨ps, h1, h2, h3⟩ := t p hp
  refine ⟨ps, e _ _ (n.no h1 (fun _ z => nomatch z) fun _ _ _ z => nomatch z) h1, h2, fun pos cv hc => ?_⟩
  obtain ⟨c, e1, e2⟩ := h3 pos cv hc
  exact ⟨c, e1, e _ _ (n.no e2 (fun _ z => nomatch z) fun _ _ _ z => nomatch z) e2⟩
theorem past_ne {K : PySem.W.Frag} {H : Hp} {L p : Addr} {us : List V} {v : V} {s : AS} {k : Nat} (e : H L = some (.lst (us ++ [v]))) (h : StV K H v s k) (vi : Vial H p) : L ≠ p := fun z => by
  obtain ⟨a, b, h3, _⟩ := vi
  obtain ⟨c, _, _, _, rfl, _⟩ := h
  rw [z, h3] at e
  have e2 := Option.some.inj e
  simp only [HO.lst.injEq] at e2
  have hm : V.ref c ∈ ([V.int a, V.int b] : List V) := by
    rw [e2]
    exact List.mem_append_right _ (List.mem_singleton_self _)
  simp at hm
theorem cut_last (us : List V) (v : V) : cutV (us ++ [v]) none (some (-1)) = us := by
  unfold cutV
  rw [HT.sIx_none]
  have e : HT.sIx (us ++ [v]).length (us ++ [v]).length (some (-1)) = us.length := by
    show (if (-1 : Int) < 0 then ((-1 : Int) + ((us ++ [v]).length : Int)).toNat else min (-1 : Int).toNat (us ++ [v]).length) = us.length
    rw [if_pos (by decide), List.length_append, List.length_singleton]
    omega
  rw [e]
  simp
def spMoved (K : PySem.W.Frag) (T : List (Addr × Str)) : Sp := fun vs H Q _ => ∃ (p M D L W : Addr) (n : Nat) (zs : List Str) (us : List V) (past : List AS), vs = [.ref p, .ref M, .ref D, .ref L, .ref W] ∧ Turn K T H p M D W n zs ∧ H L = some (.lst us) ∧ PastV K H us past ∧ PastOk n past ∧ past ≠ [] ∧ past.length ≤ 20 ∧ DeskAt K H D past.reverse ∧
  ∀ H' L' us' past', FrN [p, D] H H' → Vial H' p → Tabs T H' → H' L' = some (.lst us') → PastV K H' us' past' → PastOk n past' → past' ≠ [] → past'.length ≤ past.length + 1 → DeskAt K H' D past'.reverse → Q (.ref L') H'
theorem sc_l_moved : FnScope ["_law_vial_here", "_law_maps_here", "_law_mine", "_law_past", "_law_words_here", "_law_state", "_law_due_here", "_law_job_here", "_law_word", "_law_got"] ["_law_vial_here", "_law_maps_here", "_law_mine", "_law_past", "_law_words_here"] (defScope s_l_moved) := ⟨rfl, rfl, rfl, by decide +kernel, rfl, by decide +kernel, by decide +kernel⟩
end
end Kr

set_option Elab.async false
set_option linter.all false
set_option maxRecDepth 100000
set_option maxHeartbeats 1000000
/-! One turn of the law, from the deed drawn on. -/
namespace Kr
open PySem PySem.Spec PyProof.Rows L2 L2H LamX
theorem firstBad_nd {n : Nat} (hn : Base n) {tab : Tab} {x : Str} {sh : Shown} (ht : TOk n tab) : ∀ {vows : List Vow} {k i : Nat}, (∀ u ∈ vows, UOk tab u) → firstBad tab x k vows = some (i, sh) → i < k + vows.length ∧ Nd sh.d 1 2
  | [], _, _, _, h => by cases h
  | u :: r, k, i, ok, h => by
    unfold firstBad at h
    have ih := fun z => firstBad_nd (x := x) (sh := sh) hn ht (vows := r) (k := k + 1) (i := i) (fun u hu => ok u (List.mem_cons_of_mem _ hu)) z
    have nx : ∀ z : firstBad tab x (k + 1) r = some (i, sh), i < k + (u :: r).length ∧ Nd sh.d 1 2 := fun z => by
      obtain ⟨a, b⟩ := ih z
      rw [List.length_cons]
      exact ⟨by omega, b⟩
    split at h
    · split at h
      · rename_i sh' hT
        cases h
        rw [List.length_cons]
        exact ⟨by omega, shown_nd hn ht (ok u List.mem_cons_self) hT⟩
      · exact nx h
    · exact nx h
theorem firstUse_lt {x : Str} : ∀ {vows : List Vow} {k i : Nat}, firstUse x k vows = some i → i < k + vows.length
  | [], _, _, h => by cases h
  | u :: r, k, i, h => by
    unfold firstUse at h
    rw [List.length_cons]
    split at h
    · cases h
      omega
    · have := firstUse_lt h
      omega
theorem firstNo_mem {tab : Tab} {z : Str} : ∀ {l : List Str}, firstNo tab l = some z → z ∈ l
  | [], h => by cases h
  | y :: r, h => by
    unfold firstNo at h
    split at h
    · exact List.mem_cons_of_mem _ (firstNo_mem h)
    · cases h
      exact List.mem_cons_self
/-- an error that is due has small numbers -/
theorem act_nd {n : Nat} {s : AS} {j : Job} {er : Er} (hn : Base n) (ao : AOk n s) (jo : JobOk n j) (hl : s.vows.length ≤ 900) (e : j.act s = .error er) : ErNd er := by
  cases j with
  | put x F =>
    have e : putA s x F = .error er := e
    unfold putA at e
    split at e
    · rename_i k sh hb
      cases e
      obtain ⟨a, b⟩ := firstBad_nd hn (ao.t.put jo.2) (fun u hu => (ao.v u hu).ok.put) hb
      exact ⟨by omega, b⟩
    · cases e
  | vow w =>
    have e : vowA s w = .error er := e
    unfold vowA at e
    split at e
    · rename_i z hz
      cases e
      exact jo.2 _ (firstNo_mem hz)
    · rename_i hz
      split at e
      · rename_i sh hT
        cases e
        exact ⟨by omega, shown_nd hn ao.t ⟨firstNo_none hz, jo.1.p0⟩ hT⟩
      · cases e
  | rem x =>
    have e : remA s x = .error er := e
    unfold remA at e
    split at e
    · split at e
      · rename_i k hk
        cases e
        have := firstUse_lt hk
        show k ≤ 1000
        omega
      · cases e
    · cases e
      exact jo
  | lift i =>
    have e : liftA s i = .error er := e
    unfold liftA at e
    split at e
    · cases e
    · cases e
      exact jo
theorem caught_er {K : PySem.W.Frag} {H : Hp} {cls : Value} {d : Option Addr} {er : Er} (C : CaughtAll K) (h : ErE K H cls d er) : caught K cls := by
  cases er with
  | unknown z =>
    obtain ⟨rfl, _⟩ := h
    exact C.unknown
  | use k =>
    obtain ⟨rfl, _⟩ := h
    exact C.use
  | index i =>
    obtain ⟨rfl, _⟩ := h
    exact C.index
  | broken k sh =>
    obtain ⟨rfl, _⟩ := h
    exact C.broken
  | undo =>
    obtain ⟨rfl, _⟩ := h
    exact C.undo
theorem StV.ty {K : PySem.W.Frag} {H : Hp} {v : V} {s : AS} {k : Nat} (h : StV K H v s k) : TyX K H v (.type "tuple") := by
  obtain ⟨c, t, l, ys, rfl, hc, _⟩ := h
  exact tyT hc
structure MovIn (K : PySem.W.Frag) (T : List (Addr × Str)) (H : Hp) (p M D L W : Addr) (n : Nat) (zs : List Str) (us : List V) (st : V) (past : List AS) (s0 : AS) (Q : VK) : Prop where
  tn : Turn K T H p M D W n zs
  eL : H L = some (.lst (us ++ [st]))
  pv : PastV K H (us ++ [st]) (past ++ [s0])
  po : PastOk n (past ++ [s0])
  l20 : past.length + 1 ≤ 20
  hd : DeskAt K H D (s0 :: past.reverse)
  q : ∀ H' L' us' past', FrN [p, D] H H' → Vial H' p → Tabs T H' → H' L' = some (.lst us') → PastV K H' us' past' → PastOk n past' → past' ≠ [] → past'.length ≤ past.length + 2 → DeskAt K H' D past'.reverse → Q (.ref L') H'
section
variable {P : Program} {w : World} {K : PySem.W.Frag} {mg : Str → Option Value} {base : Heap}
theorem desk_ne {K : PySem.W.Frag} {H : Hp} {D p : Addr} {l : List AS} (hd : DeskAt K H D l) (v : Vial H p) : D ≠ p := fun e => by
  obtain ⟨dx, hv0, eD, _⟩ := hd
  obtain ⟨_, _, e2, _⟩ := v
  rw [e, e2] at eD
  cases eD
theorem MovIn.ne {T : List (Addr × Str)} {H : Hp} {p M D L W : Addr} {n : Nat} {zs : List Str} {us : List V} {st : V} {past : List AS} {s0 : AS} {Q : VK} (m : MovIn K T H p M D L W n zs us st past s0 Q) : L ≠ p ∧ L ≠ D ∧ D ≠ p :=
by
  refine ⟨past_ne m.eL m.pv.last m.tn.v, fun e => ?_, desk_ne m.hd m.tn.v⟩
  obtain ⟨dx, hv0, eD, _⟩ := m.hd
  have := m.eL
  rw [e, eD] at this
  cases this
theorem MovIn.fr {T : List (Addr × Str)} {H H' : Hp} {p M D L W : Addr} {n : Nat} {zs : List Str} {us : List V} {st : V} {past : List AS} {s0 : AS} {Q : VK} (m : MovIn K T H p M D L W n zs us st past s0 Q) (f : Fr [p] H H') (v : Vial H' p) : MovIn K T H' p M D L W n zs us st past s0 Q := by
  obtain ⟨n1, n2, n3⟩ := m.ne
  have vi := m.tn.v
  exact ⟨⟨v, m.tn.hn, m.tn.m.draw m.tn.hn vi f, f _ _ (by simpa using strs_ne m.tn.w vi) m.tn.w, m.tn.z, m.tn.zl, m.tn.zg, tabs_fr m.tn.t f vi.noT⟩, f _ _ (by simpa using n1) m.eL, m.pv.map fun _ _ _ h => h.draw vi f, m.po, m.l20,
    m.hd.fr f vi.noT (by simpa using n3), fun H2 L' us' past' f2 => m.q H2 L' us' past' ((f.n (fun a h => by rw [List.mem_singleton.mp h]; exact List.mem_cons_self)).trans f2)⟩
theorem MovIn.st {T : List (Addr × Str)} {H : Hp} {p M D L W : Addr} {n : Nat} {zs : List Str} {us : List V} {st : V} {past : List AS} {s0 : AS} {Q : VK} (m : MovIn K T H p M D L W n zs us st past s0 Q) : StV K H st s0 past.length := m.pv.last
abbrev N_moved : List Str := ["_law_vial_here", "_law_maps_here", "_law_mine", "_law_past", "_law_words_here", "_law_state", "_law_due_here", "_law_job_here", "_law_word", "_law_got"]
theorem moved_tail {c Pt : Addr} {TL : List (Addr × Str)} (T : Fre mg) (DT : DefIn K mg "_law_told" s_l_told) (TC : ToldC mg K) (S : SOk P w K mg base CX0 1 "_law_sort" ["_law_e"] (spLSort K)) (TB : TabB base mg c Pt) (hmT : (Pt, lamQ "_law_moved" s_l_moved) ∈ TL) (hu : ∀ p ∈ TL, p.1 = Pt → p.2 = lamQ "_law_moved" s_l_moved)
    (CA : CaughtAll K) (D_l_do : DOk P w K mg base (L2.CX P w) 10 "_law_do" ["_law_desk_here", "_law_job_here"] (spLDo K)) (D_l_due : GOk P w K mg base CX0 7 "_law_due" ["_law_maps_here", "_law_state", "_law_job_here"] (spLDue K))
    (A : Around) (outer : List Env) (s : Shared) (Hc : Hp) (Q : VK) (E : XK) (hg : A.guards = some []) (hr : Room 12 (A.deeper (envOfC "_law_moved" (defScope s_l_moved) s.heap.objs.size (He.ga K "_law_moved") (.ref c)))) :
    ∃ t, PSs (cxOf CX0 P w K mg base N_moved "_law_moved" (defScope s_l_moved) (He.ga K "_law_moved") (.ref c) A outer s Hc E).nox ((defBody s_l_moved).drop 4) t ∧
      ∀ (H : Hp) (p M D L W : Addr) (n : Nat) (zs : List Str) (us : List V) (st : V) (past : List AS) (s0 : AS) (v7 : V) (j : Job) (o6 o8 o9 : Option V), MovIn K TL H p M D L W n zs us st past s0 Q → JobV K H v7 j → JobOk n j →
        t { nx := fun _ H' => Q .non H', rt := Q } [some (.ref p), some (.ref M), some (.ref D), some (.ref L), some (.ref W), some st, o6, some v7, o8, o9] H := by
  have hu64 := hr.units
  refine ⟨_, (pss_cons (ps_set (i := 6) sc_l_moved.nd rfl (.inl rfl) (pe_fnG D_l_due hg hr (pa_cons (pv 1) (pa_cons (pv 5) (pa_cons (pv 7) pa_nil)))))
      (pss_cons (ps_set (i := 9) sc_l_moved.nd rfl (.inl rfl) (pe_told (k := 10) DT T TC S (by exact hg) (by exact hr) (by exact TB) (by rfl) (by exact hmT) (by exact hu) (lamS_by (sc := defScope s_l_moved) (by decide +kernel)) (fun _ _ _ _ _ => rfl) (fun A outer s H E f c' hr => pe_fn D_l_do hr (pa_cons (pv 2 (hv := .inr (.inr rfl))) (pa_cons (pv 7 (hv := .inr (.inr rfl))) pa_nil)) (hx := passes_call (takes_of rfl rfl rfl rfl) (fun _ _ _ _ h => h)))))
      (pss_cons (ps_if (pt_val (pe_callB call_isi (by rfl) T.isinstance (by decide +kernel) (pa_cons (pv 6) (pa_cons (pe_bltn (v := .ty "tuple") (by rfl) T.tuple_ (by decide +kernel) rfl) pa_nil)))) (pss_one (ps_ret (pe_ifExp (pt_cmpR (op_eqV hu64) (pv 9) (pe_lst (pa_cons pe_str (pa_cons pe_str pa_nil))) (nomark _)) (pe_op op_cat (pv 3) (pe_lst (pa_cons (pv 6) pa_nil))) (pe_lst pa_nil)))) pss_nil)
      (pss_one (ps_ret (pe_ifExp (pt_cmpR (op_eqV hu64) (pv 9) (pv 6) (nomark _)) (pv 3) (pe_lst pa_nil))))))), ?_⟩
  intro H p M D0 L W n zs us st past s0 v7 j o6 o8 o9 m jv jo
  have big := big1000
  obtain ⟨nLp, nLD, nDp⟩ := m.ne
  obtain ⟨ao, ub, hlt, hlv⟩ := m.po.last
  have l20 := m.l20
  refine ⟨.ref M, rfl, st, rfl, v7, rfl, M, st, v7, n, past.length, s0, j, rfl, m.tn.hn, m.tn.m, m.st, jv, jo, ao, by omega, by omega, by omega, fun H1 r s1 due => ?_⟩
  refine ⟨m.tn.t.ext fun b o e => s1 b o e, fun H2 e2 t2 => ?_⟩
  have f2 : FrN [p, D0] H H2 := s1.n.trans e2.n
  have jv2 : JobV K H2 v7 j := jv.ts (FrN.ts (S := []) (s1.n.trans e2.n) (fun b hb => absurd hb (by simp)))
  have hd2 : DeskAt K H2 D0 (s0 :: past.reverse) := by
    obtain ⟨dx, hv0, eD, hh⟩ := m.hd
    exact ⟨dx, hv0, e2 _ _ (s1 _ _ eD) (fun ps z => by cases z), hh.ts (FrN.ts (S := []) (s1.n.trans e2.n) (fun b hb => absurd hb (by simp)))⟩
  have v2 : Vial H2 p := by
    obtain ⟨va, vb, ev, hv2⟩ := m.tn.v
    exact ⟨va, vb, e2 _ _ (s1 _ _ ev) (fun ps z => by cases z), hv2⟩
  refine ⟨.ref D0, rfl, v7, rfl, D0, v7, j, n, s0, past.reverse, rfl, jv2, jo, m.tn.hn, hd2, ao, by omega, by omega, fun s' es H3 f3 d3 => ⟨rfl, fun H4 g s4 eg => ?_⟩, fun er ee H3 cls d s3 he => ⟨caught_er CA he, er, he, act_nd m.tn.hn ao jo (by omega) ee, fun H4 v s4 hv => ?_⟩⟩
  · rw [es] at due
    have due : StV K H1 r s' (past.length + 1) := due
    have nt : NoT [p, D0] H := fun b hb => by
      rcases List.mem_cons.mp hb with rfl | hb
      · exact m.tn.v.noT _ (List.mem_singleton_self _)
      · exact m.hd.noT _ hb
    have due2 : StV K H2 r s' (past.length + 1) := due.fr (S := []) (fun b hb => absurd hb (by simp)) e2.n (fun a ha => absurd ha (by simp))
    have due3 : StV K H3 r s' (past.length + 1) := due2.fr (S := [D0]) hd2.noT (f3.n fun a h => h) (fun a ha => by
      rw [List.mem_singleton.mp ha]
      obtain ⟨dx, hv0, eD, _⟩ := hd2
      exact .inr ⟨_, _, _, eD⟩)
    have due4 := due3.same s4
    have f4 : FrN [p, D0] H H4 := f2.trans ((f3.n fun a h => List.mem_cons_of_mem _ h).trans s4.n)
    have eL4 := f4 _ _ (by simp [nLp, nLD]) (fun ps z => by cases z) m.eL
    refine ⟨r, rfl, r, .ty "tuple", _, _, true, rfl, .ty _, due4.ty, kit_ty (by decide +kernel), true, rfl, iteT ?_⟩
    refine ⟨.ref g, rfl, by show 2 ≤ sizeLine; omega, fun q1 nq1 => ⟨1, by decide, .inl ⟨g, q1, _, _, rfl, rfl, .inl (.inl (same_upd nq1 _ _ eg)), .inl (.inl upd_same), .cons (.inl ⟨rfl, rfl⟩) (.cons (.inl ⟨rfl, rfl⟩) .nil)⟩, _, rfl, ifT rfl ?_⟩⟩
    have s5 := same_upd (o := .lst [.str "gave", .str "None"]) nq1
    refine ⟨.ref L, rfl, r, rfl, by show 1 ≤ sizeLine; omega, fun q2 nq2 => ⟨L, q2, us ++ [st], [r], rfl, rfl, same_upd nq2 _ _ (s5 _ _ eL4), upd_same, ?_, fun q3 nq3 => ?_⟩⟩
    · have := m.pv.length
      rw [List.length_append, List.length_singleton, List.length_singleton]
      omega
    · have s8 := (s5.trans (same_upd (o := .lst [r]) nq2)).trans (same_upd (o := .lst ((us ++ [st]) ++ [r])) nq3)
      have f8 := f4.trans s8.n
      have v4 : Vial H4 p := by
        obtain ⟨va, vb, ev, hv2⟩ := v2
        exact ⟨va, vb, s4 _ _ (f3 _ _ (by simpa using nDp.symm) ev), hv2⟩
      have t4 := (tabs_fr t2 f3 hd2.noT).ext fun b o e => s4 b o e
      obtain ⟨l1, l2⟩ := act_len es
      have pv8 := (m.pv.map fun v s k h => (h.fr nt f4 fun a ha => by
        rcases List.mem_cons.mp ha with rfl | ha
        · exact .inl ⟨a, rfl, m.tn.v⟩
        · obtain ⟨dx, hv0, eD, _⟩ := m.hd
          rw [List.mem_singleton.mp ha]
          exact .inr ⟨_, _, _, eD⟩).same s8).snoc (v := r) (s := s') (by
        rw [List.length_append, List.length_singleton]
        exact due4.same s8)
      have po8 := m.po.snoc (s := s') (by
        rw [List.length_append, List.length_singleton]
        exact ⟨ao.act jo es, act_ub ub jo es, by omega, by omega⟩)
      exact m.q _ q3 _ _ f8 (v4.same s8) (t4.ext fun b o e => s8 b o e) upd_same pv8 po8 (by simp) (by simp) (by
        rw [List.reverse_append, List.reverse_append]
        exact (d3.same s4).same s8)
  · rw [ee] at due
    obtain ⟨c1, rfl, ec⟩ : ErrV H1 r er := due
    obtain ⟨g, rfl, eg⟩ := hv
    have s34 := s3.trans s4
    have f4 : FrN [p, D0] H H4 := f2.trans s34.n
    have ec4 := s34 _ _ (e2 _ _ ec (fun ps z => by cases z))
    refine ⟨.ref c1, rfl, .ref c1, .ty "tuple", _, _, false, rfl, .ty _, .base (.lst ec4), kit_ty (by decide +kernel), false, rfl, iteF ?_⟩
    refine ⟨.ref g, rfl, .ref c1, rfl, 1, by decide, .inl ⟨g, c1, _, _, rfl, rfl, .inl (.inl eg), .inl (.inl ec4), .cons (.inl ⟨rfl, rfl⟩) (.cons (.inl ⟨rfl, rfl⟩) .nil)⟩, _, rfl, ifT rfl ⟨.ref L, rfl, ?_⟩⟩
    have eL4 := f4 _ _ (by simp [nLp, nLD]) (fun ps z => by cases z) m.eL
    have v4 := v2.same s34
    exact m.q H4 L _ _ f4 v4 (t2.ext fun b o e => s34 b o e) eL4 (m.pv.map fun v s k h => h.fr (S := []) (fun b hb => absurd hb (by simp)) ((s1.n.trans e2.n).trans s34.n) (fun a ha => absurd ha (by simp))) m.po (by simp) (by simp) (by rw [List.reverse_append]; exact hd2.same s34)
end
end Kr

set_option Elab.async false
set_option linter.all false
set_option maxRecDepth 100000
set_option maxHeartbeats 1000000
/-! One turn of the law. -/
namespace Kr
open PySem PySem.Spec PyProof.Rows L2 L2H LamX
section
variable {P : Program} {w : World} {K : PySem.W.Frag} {mg : Str → Option Value} {base : Heap}
theorem l_moved_ok {c Pt : Addr} {TL : List (Addr × Str)} (D : DefC K mg "_law_moved" s_l_moved c) (T : Fre mg) (DT : DefIn K mg "_law_told" s_l_told) (TC : ToldC mg K) (S : SOk P w K mg base CX0 1 "_law_sort" ["_law_e"] (spLSort K)) (TB : TabB base mg c Pt) (hmT : (Pt, lamQ "_law_moved" s_l_moved) ∈ TL) (hu : ∀ p ∈ TL, p.1 = Pt → p.2 = lamQ "_law_moved" s_l_moved)
    (CA : CaughtAll K) (C : DeskC K mg) (MU : MOk P w K mg base (L2.CX P w) 1 "Desk" "undo" ["self"] (spDUndo K)) (D_l_do : DOk P w K mg base (L2.CX P w) 10 "_law_do" ["_law_desk_here", "_law_job_here"] (spLDo K))
    (D_l_drop : DOk P w K mg base CX0 1 "_law_drop" ["_law_vial_here", "_law_size"] spDrop) (D_l_any : DOk P w K mg base CX0 2 "_law_any" ["_law_vial_here", "_law_some"] (spAny K)) (D_l_job : DOk P w K mg base CX0 6 "_law_job" ["_law_vial_here", "_law_maps_here", "_law_state", "_law_words_here"] (spLJob K)) (D_l_due : GOk P w K mg base CX0 7 "_law_due" ["_law_maps_here", "_law_state", "_law_job_here"] (spLDue K)) :
    GOk P w K mg base CX0 13 "_law_moved" ["_law_vial_here", "_law_maps_here", "_law_mine", "_law_past", "_law_words_here"] (spMoved K TL) := by
  obtain ⟨fdU, FU, bU⟩ := MU.ok
  refine D.okG sc_l_moved (fun vs H Q E h => ?_) (fun _ _ _ _ _ _ us hl => match us, hl with | [_, _, _, _, _], _ => rfl) (fun A outer s H vs Q E hg hr h => ?_)
  · obtain ⟨_, _, _, _, _, _, _, _, _, rfl, _⟩ := h
    rfl
  · obtain ⟨p, M, D0, L, W, n, zs, us, past, rfl, tn, eL, pv0, po, hne, hl20, hd, q⟩ := h
    have hu1 := hu_of hr
    have hu0 := Nat.lt_of_succ_lt hu1
    have hu64 := hr.units
    obtain ⟨tt, htt, hqt⟩ := moved_tail T DT TC S TB hmT hu CA D_l_do D_l_due A outer s H Q E hg hr
    refine ⟨_, (pss_cons (ps_set (i := 5) sc_l_moved.nd rfl (.inl rfl) (pe_ix ix_list (pv 3) (pe_un un_neg pe_int) (fun _ _ => rfl)))
      (pss_cons (ps_if (pt_cmpR op_eq (pe_fn D_l_drop hr (pa_cons (pv 0) (pa_cons pe_int pa_nil))) pe_int (nomark _)) (pss_cons (ps_set (i := 6) sc_l_moved.nd rfl (.inl rfl) (pe_ifExp (pt_cmpR op_eq (pe_callB call_len_seq (by rfl) T.len_ (by decide +kernel) (pa_cons (pv 3) pa_nil)) pe_int (nomark _)) (pe_lst (pa_cons pe_str (pa_cons pe_str pa_nil))) (pe_lst (pa_cons pe_str (pa_cons pe_str pa_nil)))))
        (pss_cons (ps_if (pt_cmpR (op_neD hu64) (pe_told (k := 10) DT T TC S (by exact hg) (by exact hr) (by exact TB) (by rfl) (by exact hmT) (by exact hu) (lamS_by (sc := defScope s_l_moved) (by decide +kernel)) (fun _ _ _ _ _ => rfl) (fun A outer s H E f c' hr => pe_meth0 (pv 2 (hv := .inr (.inr rfl))) C.cl ⟨MU.at_, MU.fn, MU.kp⟩ FU (hr.mono (by decide)) bU .nil (passes_call (takes_of rfl rfl rfl rfl) (fun _ _ _ _ h => h)))) (pv 6) (nomark _)) (pss_one ps_never) pss_nil)
        (pss_one (ps_ret (pe_ifExp (pt_cmpR op_gt (pe_callB call_len_seq (by rfl) T.len_ (by decide +kernel) (pa_cons (pv 3) pa_nil)) pe_int (nomark _)) (pe_slice sl_list (pv 3) po_none (po_some (pe_un un_neg pe_int))) (pv 3)))))) pss_nil)
      (pss_cons (ps_set (i := 7) sc_l_moved.nd rfl (.inr rfl) (pe_fn D_l_job hr (pa_cons (pv 0) (pa_cons (pv 1) (pa_cons (pv 5) (pa_cons (pv 4) pa_nil))))))
      (pss_cons (ps_if (PW.pt (pw_and (pt_cmpR op_eq (pe_fn D_l_drop hr (pa_cons (pv 0) (pa_cons pe_int pa_nil))) pe_int (nomark _)) (pw_and1 (pt_cmpR (op_ne0D hu0) (pe_ix ix_tup (pv 5) pe_int (fun _ _ => rfl)) pe_dnewK (nomark _))))) (pss_cons (ps_set (i := 8) sc_l_moved.nd rfl (.inl rfl) (pe_fn D_l_any hr (pa_cons (pv 0) (pa_cons (pe_callB (call_sortedD rfl) (by rfl) T.sorted (by decide +kernel) (pa_cons (pe_ix ix_tup (pv 5) pe_int (fun _ _ => rfl)) pa_nil)) pa_nil))))
        (pss_one (ps_set (i := 7) sc_l_moved.nd rfl (.inr rfl) (pe_tup (pa_cons pe_str (pa_cons (pv 8) (pa_cons (pe_dget hu1 (pe_ix ix_tup (pv 5) pe_int (fun _ _ => rfl)) (pv 8) (fun _ _ => rfl)) pa_nil))))))) pss_nil)
      htt)))), ?_⟩
    obtain ⟨past, s0, rfl⟩ : ∃ l x, past = l ++ [x] := ⟨past.dropLast, past.getLast hne, (List.dropLast_concat_getLast hne).symm⟩
    have usne : us ≠ [] := fun e => by
      have := pv0.len
      rw [e, List.length_append] at this
      simp at this
    obtain ⟨us, st, rfl⟩ : ∃ l x, us = l ++ [x] := ⟨us.dropLast, us.getLast usne, (List.dropLast_concat_getLast usne).symm⟩
    have hst := pv0.last
    have pok := po.last
    have hlen := pv0.length
    have big := big1000
    rw [List.length_append, List.length_singleton] at hl20
    refine ⟨.ref L, rfl, 1, rfl, L, _, _, _, rfl, rfl, .inl (.inl eL), atI_last us st, ?_⟩
    refine ⟨.ref p, rfl, p, 4, rfl, tn.v, by decide, by decide, fun H1 d1 f1 v1 a1 b1 => ⟨rfl, _, rfl, ite2 (fun h0 => ?_) fun h0 => ?_⟩⟩
    · have nLp := past_ne eL hst tn.v
      have eL1 := f1 _ _ (by simpa using nLp) eL
      refine ⟨.ref L, rfl, L, _, rfl, .inl (.inl (.inl eL1)), rfl, _, rfl, ite2 (fun h1 => ?_) fun h1 => ?_⟩
      · refine ⟨by show 2 ≤ sizeLine; omega, fun q1 nq1 => ?_⟩
        have s2 := same_upd (o := .lst [.str "undo", .str ""]) nq1
        refine ⟨(tabs_fr tn.t f1 tn.v.noT).ext (fun b o e => s2 b o e), fun H3 e3 t3 => ?_⟩
        have hp0 : past = [] := by
          have h2 : ((us ++ [st]).length : Int) = 1 := by
            have h3 := of_decide_eq_true h1
            injection h3
          rw [List.length_append, List.length_singleton] at h2
          exact List.length_eq_zero_iff.mp (by omega)
        subst hp0
        obtain ⟨dx, hv0, eD, hh⟩ := id hd
        have nDp : D0 ≠ p := fun e => by
          obtain ⟨_, _, e2, _⟩ := tn.v
          rw [e, e2] at eD
          cases eD
        have f03 : FrN [p] H H3 := (f1.n (fun a h => h)).trans (s2.n.trans e3.n)
        have eD3 := f03 _ _ (by simpa using nDp) (fun ps z => by cases z) eD
        have hd3 : DeskAt K H3 D0 [s0] := ⟨dx, hv0, eD3, hh.ts (f03.ts tn.v.noT)⟩
        refine ⟨.ref D0, rfl, D0, dx, _, rfl, eD3, rfl, D0, s0, [], rfl, hd3, fun z => (z rfl).elim, fun _ H4 s4 => ?_⟩
        refine ⟨CA.undo, .undo, ⟨rfl, rfl⟩, True.intro, fun H5 v s5 hv => ?_⟩
        obtain ⟨g, rfl, eg⟩ := hv
        have eq1 := (s4.trans s5) _ _ (e3 _ _ (upd_same (H := H1) (a := q1) (o := .lst [.str "undo", .str ""])) (fun ps z => by cases z))
        refine ⟨.ref q1, rfl, .list [.str "undo", .str ""], .list [.str "undo", .str ""], .lst (.inl (.inl eg)) (.cons (.str _) (.cons (.str _) .nil)), .lst (.inl (.inl eq1)) (.cons (.str _) (.cons (.str _) .nil)), by decide +kernel, by decide +kernel, _, rfl, ifF (by decide +kernel) ?_⟩
        have f05 := f03.trans ((s4.trans s5).n)
        have eL5 := f05 _ _ (by simpa using nLp) (fun ps z => by cases z) eL
        have l1 : (us ++ [st]).length = 1 := by
          rw [List.length_append, hlen]
          rfl
        refine ⟨.ref L, rfl, L, _, rfl, .inl (.inl (.inl eL5)), _, _, rfl, rfl, _, rfl, ifF (by rw [l1]; rfl) ⟨.ref L, rfl, ?_⟩⟩
        have s45 := s4.trans s5
        have v5 : Vial H5 p := by
          obtain ⟨va, vb, ev, hv2⟩ := v1.same s2
          exact ⟨va, vb, s45 _ _ (e3 _ _ ev (fun ps z => by cases z)), hv2⟩
        exact q H5 L (us ++ [st]) ([] ++ [s0]) (fun b o nb hb e => f05 b o (fun z => nb (List.mem_cons.mpr (.inl (List.mem_singleton.mp z)))) hb e) v5 (t3.ext fun b o e => s45 b o e) eL5 (pv0.map fun v s k h => h.fr tn.v.noT f05 fun a ha => .inl ⟨p, List.mem_singleton.mp ha, tn.v⟩) po (by simp) (by simp) (hd3.same s45)
      · refine ⟨by show 2 ≤ sizeLine; omega, fun q1 nq1 => ?_⟩
        have s2 := same_upd (o := .lst [.str "gave", .str "None"]) nq1
        refine ⟨(tabs_fr tn.t f1 tn.v.noT).ext (fun b o e => s2 b o e), fun H3 e3 t3 => ?_⟩
        have hp0 : past ≠ [] := fun e => h1 (decide_eq_true (by rw [List.length_append, List.length_singleton, hlen, e]; rfl))
        rw [List.reverse_append] at hd
        have hd : DeskAt K H D0 (s0 :: past.reverse) := hd
        obtain ⟨dx, hv0, eD, hh⟩ := id hd
        have nDp : D0 ≠ p := fun e => by
          obtain ⟨_, _, e2, _⟩ := tn.v
          rw [e, e2] at eD
          cases eD
        have f03 : FrN [p] H H3 := (f1.n (fun a h => h)).trans (s2.n.trans e3.n)
        have eD3 := f03 _ _ (by simpa using nDp) (fun ps z => by cases z) eD
        have hd3 : DeskAt K H3 D0 (s0 :: past.reverse) := ⟨dx, hv0, eD3, hh.ts (f03.ts tn.v.noT)⟩
        refine ⟨.ref D0, rfl, D0, dx, _, rfl, eD3, rfl, D0, s0, past.reverse, rfl, hd3, fun _ H4 f4 d4 => ⟨rfl, fun H5 g s5 eg => ?_⟩, fun z => absurd (List.reverse_eq_nil_iff.mp z) hp0⟩
        have n1 : q1 ≠ D0 := fun e => by
          have := e3 _ _ (upd_same (H := H1) (a := q1) (o := .lst [.str "gave", .str "None"])) (fun ps z => by cases z)
          rw [e, eD3] at this
          cases this
        have eq1 := s5 _ _ (f4 _ _ (by simpa using n1) (e3 _ _ (upd_same (H := H1) (a := q1) (o := .lst [.str "gave", .str "None"])) (fun ps z => by cases z)))
        refine ⟨.ref q1, rfl, .list [.str "gave", .str "None"], .list [.str "gave", .str "None"], .lst (.inl (.inl eg)) (.cons (.str _) (.cons (.str _) .nil)), .lst (.inl (.inl eq1)) (.cons (.str _) (.cons (.str _) .nil)), by decide +kernel, by decide +kernel, _, rfl, ifF (by decide +kernel) ?_⟩
        have f4n : FrN [p, D0] H H4 := fun b o nb hb e => f4 _ _ (fun z => nb (List.mem_cons_of_mem _ z)) (f03 _ _ (fun z => nb (List.mem_cons.mpr (.inl (List.mem_singleton.mp z)))) hb e)
        have f05 := f4n.trans s5.n
        have nLD : L ≠ D0 := fun e => by
          rw [e, eD] at eL
          cases eL
        have eL5 := f05 _ _ (by simp [nLp, nLD]) (fun ps z => by cases z) eL
        refine ⟨.ref L, rfl, L, _, rfl, .inl (.inl (.inl eL5)), _, _, rfl, rfl, _, rfl, ifT ?_ ⟨.ref L, rfl, 1, rfl, (-1 : Int), rfl, L, _, rfl, .inl (.inl eL5), fun m nm => ?_⟩⟩
        · rw [List.length_append, List.length_singleton, hlen]
          have : past.length ≠ 0 := fun e => hp0 (List.length_eq_zero_iff.mp e)
          exact decide_eq_true (by omega)
        · rw [cut_last]
          have s6 := same_upd (o := .lst us) nm
          have s56 := s5.trans s6
          have v4 : Vial H4 p := by
            obtain ⟨va, vb, ev, hv2⟩ := v1.same s2
            exact ⟨va, vb, f4 _ _ (by simpa using nDp.symm) (e3 _ _ ev (fun ps z => by cases z)), hv2⟩
          have nt2 : NoT [p, D0] H := fun b hb => by
            rcases List.mem_cons.mp hb with rfl | hb
            · exact tn.v.noT _ (List.mem_singleton_self _)
            · exact hd.noT _ hb
          have t4 := tabs_fr t3 f4 hd3.noT
          exact q _ m us past (f4n.trans s56.n) (v4.same s56) (t4.ext fun b o e => s56 b o e) upd_same (pv0.init.map fun v s k h => (h.fr nt2 f4n fun a ha => by
            rcases List.mem_cons.mp ha with rfl | ha
            · exact .inl ⟨a, rfl, tn.v⟩
            · rw [List.mem_singleton.mp ha]
              exact .inr ⟨_, _, _, eD⟩).same s56) po.init hp0 (by rw [List.length_append, List.length_singleton]; omega) (d4.same s56)
    · have mi : MovIn K TL H p M D0 L W n zs us st past s0 Q := ⟨tn, eL, pv0, po, by omega, by rw [List.reverse_append] at hd; exact hd, fun H' L' us' past' a b c d e f g h i => q H' L' us' past' a b c d e f g (by rw [List.length_append, List.length_singleton]; exact h) i⟩
      have m1 := mi.fr f1 v1
      obtain ⟨ao, ub, hlt, hlv⟩ := po.last
      refine ⟨.ref p, rfl, .ref M, rfl, st, rfl, .ref W, rfl, p, M, W, st, n, past.length, s0, zs, rfl, v1, tn.hn, m1.tn.m, m1.st, ao, by omega, by omega, m1.tn.w, tn.z, tn.zl, tn.zg, fun H2 r j f2 v2 jv jo => ?_⟩
      have m2 := m1.fr f2 v2
      refine ⟨.ref p, rfl, p, 6, rfl, v2, by decide, by decide, fun H3 d3 f3 v3 a3 b3 => ⟨rfl, _, rfl, ite2 (fun h3 => ?_) fun h3 => ?_⟩⟩
      · have m3 := m2.fr f3 v3
        have jv3 := jv.ts (f3.ts v2.noT)
        obtain ⟨c0, t0, l0, ys, est, hc0, ht0, hl0, hpv0⟩ := m3.st
        obtain ⟨kvs, et, tv⟩ := id ht0
        refine ⟨st, rfl, c0, _, _, _, est, rfl, hc0, atI_nat (j := 0) rfl, fun d nd => ⟨t0, d, kvs, rfl, rfl, same_upd nd _ _ et, upd_same, _, rfl, ?_⟩⟩
        have s4 := same_upd (o := .dK []) nd
        have m4 := m3.fr (s4.fr [p]) (v3.same s4)
        have jv4 := jv3.ts s4.ts
        have ht4 := ht0.same s4
        have hc4 := s4.sqt hc0
        have et4 := s4 _ _ et
        have v4 := v3.same s4
        generalize upd H3 d (.dK []) = H4 at s4 m4 jv4 ht4 hc4 et4 v4 ⊢
        cases hke : kvs.isEmpty with
        | true => exact iteF (hqt _ _ _ _ _ _ _ _ _ _ _ _ _ _ _ _ _ m4 jv4 jo)
        | false =>
          have hkl : (keys s0.tab).length = s0.tab.length := by unfold keys; rw [List.length_map]
          refine iteT ⟨.ref p, rfl, st, rfl, c0, _, _, _, est, rfl, hc4, atI_nat (j := 0) rfl, t0, kvs, keys s0.tab, rfl, .inl et4, tv.keys, by omega, fun ys g hperm hsrt ng => ?_⟩
          have s5 := same_upd (o := .lst (ys.map V.str)) ng
          have m5 := m4.fr (s5.fr [p]) (v4.same s5)
          have v5 := v4.same s5
          have eg : upd H4 g (.lst (ys.map V.str)) g = some (.lst (ys.map V.str)) := upd_same
          have ht5 := ht4.same s5
          have hc5 := s5.sqt hc4
          generalize upd H4 g (.lst (ys.map V.str)) = H5 at s5 m5 v5 eg ht5 hc5 ⊢
          have hyl : ys.length = s0.tab.length := by rw [hperm.length_eq, hkl]
          have hyn : ys.map V.str ≠ [] := fun e => by
            have e2 : ys.length = 0 := by rw [List.map_eq_nil_iff.mp e]; rfl
            have e3 : kvs.length = 0 := by rw [tv.length]; omega
            rw [List.length_eq_zero_iff.mp e3] at hke
            cases hke
          refine ⟨p, g, _, rfl, v5, .inl (.inl eg), strs_ne eg v5, hyn, by rw [List.length_map]; omega, fun H6 x f6 v6 hx => ?_⟩
          obtain ⟨z, hz, rfl⟩ := List.mem_map.mp hx
          have m6 := m5.fr f6 v6
          have ts6 := f6.ts v5.noT
          obtain ⟨F, hF⟩ := getF_key (hperm.mem_iff.mp hz)
          obtain ⟨u, hgu, hu6⟩ := (ht5.ts ts6).get hF
          refine ⟨.str z, rfl, st, rfl, c0, _, _, _, est, rfl, ts6.sqt hc5, atI_nat (j := 0) rfl, .str z, rfl, t0, u, rfl, hgu, by show 3 ≤ sizeLine; omega, fun r7 nr7 => ?_⟩
          have s7 := same_upd (o := .tup [.str "put", .str z, u]) nr7
          exact hqt _ _ _ _ _ _ _ _ _ _ _ _ _ (.put z F) _ _ _ (m6.fr (s7.fr [p]) (v6.same s7)) ⟨r7, u, rfl, .inl (.inl upd_same), hu6.ts s7.ts⟩ ⟨ao.g _ (getF_mem hF), ao.t.get hF⟩
      · exact iteF (hqt _ _ _ _ _ _ _ _ _ _ _ _ _ _ _ _ _ (m2.fr f3 v3) (jv.ts (f3.ts v2.noT)) jo)
end
end Kr

set_option Elab.async false
set_option linter.all false
set_option maxRecDepth 100000
set_option maxHeartbeats 1000000
/-! One number's desk, led and taken back. -/
namespace Kr
open PySem PySem.Spec PyProof.Rows L2 L2H LamX
theorem passF {P : Program} {w : World} {X : Cx} : Passes (L2.CX P w) X (fun _ _ _ => False) := fun _ _ _ _ _ _ _ ⟨_, _, _, _, _, _, _, _, _, _, _, _, f⟩ => f.elim
section
variable {P : Program} {w : World} {K : PySem.W.Frag} {mg : Str → Option Value} {base : Heap}
theorem MapsAt.frN {S : List Addr} {H H' : Hp} {M : Addr} {n : Nat} (h : MapsAt K H M n) (e : FrN S H H') (nt : NoT S H) (hM : M ∉ S) : MapsAt K H' M n := by
  obtain ⟨ys, e1, h1⟩ := h
  exact ⟨ys, e _ _ hM (fun _ z => nomatch z) e1, Paired.mapP h1 fun _ _ z => z.ts (e.ts nt)⟩
/-- the states so far, at a heap -/
structure RightIn (K : PySem.W.Frag) (T : List (Addr × Str)) (H0 H : Hp) (p M D W : Addr) (n : Nat) (zs : List Str) (L : Addr) (us : List V) (past : List AS) : Prop where
  tn : Turn K T H p M D W n zs
  eL : H L = some (.lst us)
  pv : PastV K H us past
  po : PastOk n past
  ne : past ≠ []
  hd : DeskAt K H D past.reverse
  fr : FrN [p] H0 H
theorem dd_ne {H : Hp} {D p : Addr} {l : List AS} (hd : DeskAt K H D l) (v : Vial H p) : D ≠ p := fun e => by
  obtain ⟨dx, hv0, eD, _⟩ := hd
  obtain ⟨_, _, e2, _⟩ := v
  rw [e, e2] at eD
  cases eD
theorem turn_fr {T : List (Addr × Str)} {H H' : Hp} {p M D W : Addr} {n : Nat} {zs : List Str} {l : List AS} (t : Turn K T H p M D W n zs) (hd : DeskAt K H D l) (f : FrN [p, D] H H') (v : Vial H' p) (tt : Tabs T H') : Turn K T H' p M D W n zs := by
  obtain ⟨dx, hv0, eD, _⟩ := id hd
  have nD : ∀ {b : Addr} {xs : List V}, H b = some (.lst xs) → b ≠ D := fun e z => by
    rw [z, eD] at e
    cases e
  have nt : NoT [p, D] H := fun b hb => by
    rcases List.mem_cons.mp hb with rfl | hb
    · exact t.v.noT _ (List.mem_singleton_self _)
    · exact hd.noT _ hb
  obtain ⟨ys, eM, _⟩ := id t.m
  exact ⟨v, t.hn, t.m.frN f nt (by simp [maps_ne t.hn t.m t.v, nD eM]), f _ _ (by simp [strs_ne t.w t.v, nD t.w]) (fun _ z => nomatch z) t.w, t.z, t.zl, t.zg, tt⟩
/-- what is seen is what is due -/
theorem sight_same {s : AS} {ys zs : List Str} {k : Nat} (p1 : ys.Perm (keys s.tab)) (h1 : sortedS ys = true) (p2 : zs.Perm (keys s.tab)) (h2 : sortedS zs = true) : sightD s ys k = sightD s zs k := by
  rw [sort_uniq (p1.trans p2.symm) h1 h2]
theorem RightIn.same {T : List (Addr × Str)} {H0 H H' : Hp} {p M D W : Addr} {n : Nat} {zs : List Str} {L : Addr} {us : List V} {past : List AS} (e : Same H H') (r : RightIn K T H0 H p M D W n zs L us past) : RightIn K T H0 H' p M D W n zs L us past :=
  ⟨⟨r.tn.v.same e, r.tn.hn, r.tn.m.same e, e _ _ r.tn.w, r.tn.z, r.tn.zl, r.tn.zg, r.tn.t.ext fun b o h => e b o h⟩, e _ _ r.eL, r.pv.map fun _ _ _ h => h.same e, r.po, r.ne, r.hd.same e, r.fr.trans e.n⟩
theorem atI_neg {α : Type} {xs : List α} {i : Int} {j : Nat} {v : α} (h0 : i < 0) (hj : (j : Int) = xs.length + i) (hv : xs[j]? = some v) : atI xs i = some v := by
  unfold atI ixN
  rw [if_neg (by omega), if_pos (by omega)]
  show xs[(i + xs.length).toNat]? = some v
  rw [show i + (xs.length : Int) = (j : Int) by omega, Int.toNat_natCast]
  exact hv
theorem vial_new {H : Hp} {p a : Addr} (v : Vial H p) (na : H a = none) : a ≠ p := fun e => by
  obtain ⟨_, _, e2, _⟩ := v
  rw [e, e2] at na
  cases na
theorem past_nil {n : Nat} {s : AS} {past : List AS} (h : PastOk n (s :: past)) : s = ⟨[], []⟩ := by
  obtain ⟨_, _, a, b⟩ := h.ok 0 s rfl
  obtain ⟨t, v⟩ := s
  have e1 : t = [] := List.length_eq_zero_iff.mp (by simpa using a)
  have e2 : v = [] := List.length_eq_zero_iff.mp (by simpa using b)
  rw [e1, e2]
theorem take_rev {α : Type} {l : List α} {i : Nat} {x : α} (h : l[i]? = some x) : (l.take (i + 1)).reverse = x :: (l.take i).reverse := by
  rw [List.take_add_one, h, List.reverse_append]
  rfl
theorem base_of {x : V} (h : x ∈ ([.int 2, .int 3, .int 4, .int 6] : List V)) : ∃ n : Nat, Base n ∧ x = .int n := by
  simp only [List.mem_cons, List.not_mem_nil, or_false] at h
  rcases h with rfl | rfl | rfl | rfl
  · exact ⟨2, .inl rfl, rfl⟩
  · exact ⟨3, .inr (.inl rfl), rfl⟩
  · exact ⟨4, .inr (.inr (.inl rfl)), rfl⟩
  · exact ⟨6, .inr (.inr (.inr rfl)), rfl⟩
theorem ne_same {x y : Str} (h : x = y) : (!decide (V.str x = V.str y)) = false := by
  rw [h]
  simp
def spRight (T : List (Addr × Str)) : Sp := fun vs H Q _ => ∃ p, vs = [.ref p] ∧ Vial H p ∧ Tabs T H ∧ ∀ H', FrN [p] H H' → Tabs T H' → Q (.bl true) H'
theorem sc_l_right : FnScope ["_law_vial_here", "_law_maps_here", "_law_words_here", "_law_mine", "_law_past", "_law_turn", "_law_k"] ["_law_vial_here"] (defScope s_l_right) := ⟨rfl, rfl, rfl, by decide +kernel, rfl, by decide +kernel, by decide +kernel⟩
theorem l_right_ok {c Pt : Addr} {TL : List (Addr × Str)} (D : DefC K mg "_law_right" s_l_right c) (T : Fre mg) (DT : DefIn K mg "_law_told" s_l_told) (TC : ToldC mg K) (S : SOk P w K mg base CX0 1 "_law_sort" ["_law_e"] (spLSort K)) (TB : TabB base mg c Pt) (hmT : (Pt, lamQ "_law_right" s_l_right) ∈ TL) (hu : ∀ p ∈ TL, p.1 = Pt → p.2 = lamQ "_law_right" s_l_right)
    (CA : CaughtAll K) (C : DeskC K mg) (hmk : PySem.W.makesIn K (He.ga K "Desk") = true) (hkp : PySem.W.keepIn K (.ref (He.ga K "Desk")) = true) (MI : MOk P w K mg base CX0 1 "Desk" "__init__" ["self"] (spDInit K)) (MU : MOk P w K mg base (L2.CX P w) 1 "Desk" "undo" ["self"] (spDUndo K))
    (PN : PrOk P w K mg base CX0 1 "Desk" "names" (spDNames K)) (PC : PrOk P w K mg base CX0 1 "Desk" "changes" (spDChanges K))
    (D_l_maps : DOk P w K mg base CX0 2 "_law_maps" ["_law_size"] (spMaps K)) (D_l_any : DOk P w K mg base CX0 2 "_law_any" ["_law_vial_here", "_law_some"] (spAny K)) (D_l_words : DOk P w K mg base CX0 3 "_law_words" ["_law_vial_here", "_law_many"] (spWords K))
    (D_l_moved : GOk P w K mg base CX0 13 "_law_moved" ["_law_vial_here", "_law_maps_here", "_law_mine", "_law_past", "_law_words_here"] (spMoved K TL))
    (D_l_sight : DOk P w K mg base CX0 5 "_law_sight" ["_law_desk_here"] (spLSight K)) (D_l_due_sight : DOk P w K mg base CX0 1 "_law_due_sight" ["_law_state"] (spLDueS K)) :
    GOk P w K mg base CX0 14 "_law_right" ["_law_vial_here"] (spRight TL) := by
  obtain ⟨fdI, FI, bI⟩ := MI.ok
  obtain ⟨fdU, FU, bU⟩ := MU.ok
  obtain ⟨pN, gN, fdN, prN, FN, bN⟩ := PN.ok
  obtain ⟨pC, gC, fdC, prC, FC, bC⟩ := PC.ok
  refine D.okG sc_l_right (fun vs H Q E h => ?_) (fun _ _ _ _ _ _ us hl => match us, hl with | [_], _ => rfl) (fun A outer s H vs Q E hg hr h => ?_)
  · obtain ⟨_, rfl, _⟩ := h
    rfl
  · obtain ⟨p, rfl, hv, ht, q⟩ := h
    have hu1 := hu_of hr
    have hu0 := Nat.lt_of_succ_lt hu1
    have hu64 := hr.units
    have big := big1000
    refine ⟨_, (pss_cons (ps_set (i := 1) sc_l_right.nd rfl (.inl rfl) (pe_fn D_l_maps hr (pa_cons (pe_fn D_l_any hr (pa_cons (pv 0) (pa_cons (pe_lst (pa_cons pe_int (pa_cons pe_int (pa_cons pe_int (pa_cons pe_int pa_nil))))) pa_nil))) pa_nil)))
      (pss_cons (ps_asg (pe_tup (pa_cons (pe_fn D_l_words hr (pa_cons (pv 0) (pa_cons pe_int pa_nil))) (pa_cons (pe_make0 ⟨hmk, MI.at_, MI.fn, hkp⟩ FI (hr.mono (by decide)) (by rfl) C.gm bI .nil pass0) (pa_cons (pe_lst (pa_cons (pe_tup (pa_cons pe_dnewK (pa_cons (pe_lst pa_nil) (pa_cons pe_int pa_nil)))) pa_nil)) pa_nil)))) (pg_tup rfl (pgs_cons (pg_name (i := 2) sc_l_right.nd rfl (.inl rfl)) (pgs_cons (pg_name (i := 3) sc_l_right.nd rfl (.inr rfl)) (pgs_cons (pg_name (i := 4) sc_l_right.nd rfl (.inl rfl)) pgs_nil)))))
      (pss_cons (ps_for PassesOwn.never rfl (pi_range1 (by rfl) T.range_ (pa_cons pe_int pa_nil)) (pg_name (i := 5) sc_l_right.nd rfl (.inl rfl))
        (pss_cons (ps_set (i := 4) sc_l_right.nd rfl (.inl rfl) (pe_fnG D_l_moved hg hr (pa_cons (pv 0) (pa_cons (pv 1) (pa_cons (pv 3) (pa_cons (pv 4) (pa_cons (pv 2) pa_nil)))))))
        (pss_one (ps_if (PW.pt (pw_or (pt_cmpR (op_eq0L hu0) (pv 4) (pe_lst pa_nil) (nomark _)) (pw_or1 (pt_cmpR op_ne (pe_callB (call_repr_D hg hu64) (by rfl) T.repr_ (by decide +kernel) (pa_cons (pe_fn D_l_sight hr (pa_cons (pv 3) pa_nil)) pa_nil)) (pe_callB (call_repr_D hg hu64) (by rfl) T.repr_ (by decide +kernel) (pa_cons (pe_fn D_l_due_sight hr (pa_cons (pe_ix ix_list (pv 4) (pe_un un_neg pe_int) (fun _ _ => rfl)) pa_nil)) pa_nil)) (nomark _))))) (pss_one ps_never) pss_nil))))
      (pss_cons (ps_for PassesOwn.never rfl (pi_range1 (by rfl) T.range_ (pa_cons (pe_op op_sub (pe_callB call_len_seq (by rfl) T.len_ (by decide +kernel) (pa_cons (pv 4) pa_nil)) pe_int) pa_nil)) (pg_name (i := 6) sc_l_right.nd rfl (.inl rfl))
        (pss_one (ps_if (PW.pt (pw_or (pt_cmpR op_notN (pe_meth0 (pv 3) C.cl ⟨MU.at_, MU.fn, MU.kp⟩ FU (hr.mono (by decide)) bU .nil passF) pe_non (nomark _)) (pw_or1 (pt_cmpR op_ne (pe_callB (call_repr_D hg hu64) (by rfl) T.repr_ (by decide +kernel) (pa_cons (pe_fn D_l_sight hr (pa_cons (pv 3) pa_nil)) pa_nil)) (pe_callB (call_repr_D hg hu64) (by rfl) T.repr_ (by decide +kernel) (pa_cons (pe_fn D_l_due_sight hr (pa_cons (pe_ix ix_list (pv 4) (pe_op op_sub (pe_un un_neg pe_int) (pv 6)) (fun _ _ => rfl)) pa_nil)) pa_nil)) (nomark _))))) (pss_one ps_never) pss_nil)))
      (pss_one (ps_ret (pe_and (pe_cmpR (op_eq0T hu0) (pe_prop (pv 3) C.cl prN FN (hr.mono (by decide)) bN .nil pass0 rfl) (pe_tup pa_nil) (nomark _)) (pe_and (pe_cmpR op_eq (pe_prop (pv 3) C.cl prC FC (hr.mono (by decide)) bC .nil pass0 rfl) pe_int (nomark _)) (pe_one (pe_cmpR (op_eqV hu64) (pe_told (k := 10) DT T TC S (by exact hg) (by exact hr.mono (by decide)) (by exact TB) (by rfl) (by exact hmT) (by exact hu) (lamS_by (sc := defScope s_l_right) (by decide +kernel)) (fun _ _ _ _ _ => rfl) (fun A outer s H E f c' hr => pe_meth0 (pv 3 (hv := .inr (.inr rfl))) C.cl ⟨MU.at_, MU.fn, MU.kp⟩ FU (hr.mono (by decide)) bU .nil (passes_call (takes_of rfl rfl rfl rfl) (fun _ _ _ _ h => h)))) (pe_lst (pa_cons pe_str (pa_cons pe_str pa_nil))) (nomark _))))))))))), ?_⟩
    refine ⟨.ref p, rfl, by show 4 ≤ sizeLine; omega, fun a na => ?_⟩
    have s0 := same_upd (o := .lst [.int 2, .int 3, .int 4, .int 6]) na
    have v0 := hv.same s0
    refine ⟨p, a, _, rfl, v0, .inl (.inl upd_same), vial_new hv na, by simp, by decide, fun H1 x f1 v1 hx => ?_⟩
    obtain ⟨n, hn, rfl⟩ := base_of hx
    refine ⟨n, rfl, hn, fun H2 M ys s2 eM nM hpM => ?_⟩
    have f02 : Fr [p] H H2 := ((s0.fr [p]).trans f1).trans (s2.fr [p])
    have v2 := v1.same s2
    have hM2 : MapsAt K H2 M n := ⟨ys, eM, hpM⟩
    refine ⟨.ref p, rfl, p, rfl, v2, fun H3 W zs f3 v3 eW nWp hz hzl hzg => ?_⟩
    have f03 := f02.trans f3
    have hM3 := hM2.draw hn v2 f3
    have t3 := tabs_fr ht f03 hv.noT
    intro D0 dx nD ndx nDd
    refine ⟨D0, dx, rfl, upd_same, fun H4 f4 hd4 => ⟨rfl, ?_⟩⟩
    have nD0 := (f03.fresh v3 nD).1
    have s34 : Same H3 H4 := fun b o e => by
      have h1 : b ≠ D0 := fun z => by
        rw [z, nD] at e
        cases e
      have h2 : b ≠ dx := fun z => by
        rw [z, ndx] at e
        cases e
      refine f4 b o (by simpa using h1) ?_
      rw [upd_ne h1, upd_ne h2]
      exact e
    intro d nd
    have s5 := same_upd (o := .dK []) nd
    refine ⟨Nat.zero_le _, fun l nl => ?_⟩
    have s6 := s5.trans (same_upd (o := .lst []) nl)
    have e6d : upd (upd H4 d (.dK [])) l (.lst []) d = some (.dK []) := same_upd nl _ _ upd_same
    have e6l : upd (upd H4 d (.dK [])) l (.lst []) l = some (.lst []) := upd_same
    generalize upd (upd H4 d (.dK [])) l (.lst []) = H6 at s6 e6d e6l ⊢
    refine ⟨by show 3 ≤ sizeLine; omega, fun c1 nc1 => ⟨by show 1 ≤ sizeLine; omega, fun L nL => ⟨by show 3 ≤ sizeLine; omega, fun t nt => ?_⟩⟩⟩
    have s7 := same_upd (o := .tup [.ref d, .ref l, .int 0]) nc1
    have s8 := same_upd (o := .lst [.ref c1]) nL
    have s9 := same_upd (o := .tup [.ref W, .ref D0, .ref L]) nt
    have e7c : upd H6 c1 (.tup [.ref d, .ref l, .int 0]) c1 = some (.tup [.ref d, .ref l, .int 0]) := upd_same
    have e8L : upd (upd H6 c1 (.tup [.ref d, .ref l, .int 0])) L (.lst [.ref c1]) L = some (.lst [.ref c1]) := upd_same
    have e9t : upd (upd (upd H6 c1 (.tup [.ref d, .ref l, .int 0])) L (.lst [.ref c1])) t (.tup [.ref W, .ref D0, .ref L]) t = some (.tup [.ref W, .ref D0, .ref L]) := upd_same
    have s69 := s7.trans (s8.trans s9)
    have e9c := (s8.trans s9) _ _ e7c
    have e9L := s9 _ _ e8L
    generalize upd (upd (upd H6 c1 (.tup [.ref d, .ref l, .int 0])) L (.lst [.ref c1])) t (.tup [.ref W, .ref D0, .ref L]) = H9 at s69 e9c e9L e9t ⊢
    refine ⟨t, _, rfl, .inl (.inl e9t), rfl, _, _, rfl, _, _, rfl, _, _, rfl, rfl, ?_⟩
    have s39 := (s34.trans s6).trans s69
    have ri : RightIn K TL H H9 p M D0 W n zs L [.ref c1] [⟨[], []⟩] := by
      refine ⟨⟨v3.same s39, hn, hM3.same s39, s39 _ _ eW, hz, by omega, hzg, t3.ext fun b o e => s39 b o e⟩, e9L, ⟨rfl, fun i v s hv hs => ?_⟩, ⟨fun i s hs => ?_⟩, by simp, hd4.same (s6.trans s69), (f03.n fun _ h => h).trans s39.n⟩
      · cases i with
        | zero =>
          cases hv
          cases hs
          exact ⟨c1, d, l, [], rfl, .inl (.inl e9c), ⟨[], s69 _ _ e6d, .nil⟩, s69 _ _ e6l, .nil⟩
        | succ i => cases hv
      · cases i with
        | zero =>
          cases hs
          exact ⟨⟨(fun _ h => absurd h List.not_mem_nil), (fun _ h => absurd h List.not_mem_nil), (fun _ h => absurd h List.not_mem_nil), List.Pairwise.nil⟩, (fun _ h => absurd h List.not_mem_nil), Nat.le_refl _, Nat.le_refl _⟩
        | succ i => cases hs
    refine ⟨14, rfl, by decide, by decide, ?_⟩
    refine for_range (lo := 0) (n := 14) (fun i σ H2 => ∃ L us past t5, σ = [some (.ref p), some (.ref M), some (.ref W), some (.ref D0), some (.ref L), t5, none] ∧ RightIn K TL H H2 p M D0 W n zs L us past ∧ past.length ≤ i + 1) ⟨L, _, _, _, rfl, ri, Nat.le_refl _⟩ ?_ ?_
    · rintro i σ H10 hi ⟨L, us, past, t5, rfl, ri, hlen⟩
      refine ⟨.ref p, rfl, .ref M, rfl, .ref D0, rfl, .ref L, rfl, .ref W, rfl, p, M, D0, L, W, n, zs, us, past, rfl, ri.tn, ri.eL, ri.pv, ri.po, ri.ne, by omega, ri.hd, fun H11 L3 us3 past3 f3 v3 t3 e3 pv3 po3 ne3 hl3 hd3 => ?_⟩
      have fr3 : FrN [p] H H11 := fun b o nb nt e => by
        have bD : b ≠ D0 := fun z => by
          rw [z, nD0] at e
          cases e
        have nbp : b ≠ p := fun z => nb (by rw [z]; exact List.mem_singleton_self _)
        exact f3 b o (by simp [nbp, bD]) nt (ri.fr b o nb nt e)
      have ri3 : RightIn K TL H H11 p M D0 W n zs L3 us3 past3 := ⟨turn_fr ri.tn ri.hd f3 v3 t3, e3, pv3, po3, ne3, hd3, fr3⟩
      obtain ⟨past4, s4, rfl⟩ : ∃ l x, past3 = l ++ [x] := ⟨past3.dropLast, past3.getLast ne3, (List.dropLast_concat_getLast ne3).symm⟩
      have usne : us3 ≠ [] := fun e => by
        have := pv3.len
        rw [e, List.length_append] at this
        simp at this
      obtain ⟨us4, st4, rfl⟩ : ∃ l x, us3 = l ++ [x] := ⟨us3.dropLast, us3.getLast usne, (List.dropLast_concat_getLast usne).symm⟩
      have hl4 : past4.length ≤ 20 := by
        rw [List.length_append, List.length_singleton] at hl3
        omega
      obtain ⟨ao, ub, hlt, hlv⟩ := po3.last
      refine ⟨.ref L3, rfl, Nat.zero_le _, fun l2 nl2 => ⟨L3, l2, us4 ++ [st4], rfl, rfl, .inl (.inl (same_upd nl2 _ _ e3)), .inl (.inl upd_same), _, rfl, ifF (by show (us4 ++ [st4]).isEmpty = false; cases us4 <;> rfl) ?_⟩⟩
      have ri5 := ri3.same (same_upd (o := .lst []) nl2)
      generalize upd H11 l2 (.lst []) = H12 at ri5 ⊢
      have hd5 : DeskAt K H12 D0 (s4 :: past4.reverse) := by
        have := ri5.hd
        rw [List.reverse_append] at this
        exact this
      refine ⟨.ref D0, rfl, D0, s4, past4.reverse, n, rfl, hd5, ao, by omega, fun H13 v5 ys5 s5 hp5 hs5 hdp5 => ?_⟩
      have ri6 := ri5.same s5
      have nb5 := sight_nd (k := past4.reverse.length) hn ao ub (by omega) (by omega) (by rw [List.length_reverse]; omega) hp5
      refine ⟨v5, _, rfl, hdp5, nb5.sh, nb5.nd, Nat.le_trans nb5.dp (by decide), nb5.len (by decide), ?_⟩
      refine ⟨.ref L3, rfl, 1, rfl, L3, _, _, _, rfl, rfl, .inl (.inl ri6.eL), atI_last us4 st4, st4, s4, past4.length, n, rfl, ri6.pv.last, ao, by omega, by omega, fun H14 u6 ys6 s6 hp6 hs6 hdp6 => ?_⟩
      have nb6 := sight_nd (k := past4.length) hn ao ub (by omega) (by omega) (by omega) hp6
      refine ⟨u6, _, rfl, hdp6, nb6.sh, nb6.nd, Nat.le_trans nb6.dp (by decide), nb6.len (by decide), rfl, _, rfl, ifF ?_ ?_⟩
      · exact ne_same (by rw [List.length_reverse, sight_same hp5 hs5 hp6 hs6])
      · exact ⟨L3, _, _, _, rfl, ri6.same s6, by omega⟩
    · rintro σ H10 ⟨L, us, past, t5, rfl, ri, hlen⟩
      have hul := ri.pv.len
      have hpl : 0 < past.length := List.length_pos_iff.mpr ri.ne
      refine ⟨.ref L, rfl, L, us, rfl, .inl (.inl (.inl ri.eL)), _, _, rfl, rfl, ((us.length : Int) - 1), rfl, by omega, by omega, ?_⟩
      rw [show ((us.length : Int) - 1).toNat = past.length - 1 by omega]
      refine for_range (lo := 0) (n := past.length - 1) (fun i σ H2 => ∃ t6, σ = [some (.ref p), some (.ref M), some (.ref W), some (.ref D0), some (.ref L), t5, t6] ∧ Tabs TL H2 ∧ H2 L = some (.lst us) ∧ PastV K H2 us past ∧ DeskAt K H2 D0 (past.take (past.length - i)).reverse ∧ FrN [p] H H2)
        ⟨none, rfl, ri.tn.t, ri.eL, ri.pv, by rw [Nat.sub_zero, List.take_length]; exact ri.hd, ri.fr⟩ ?_ ?_
      · rintro i σ H11 hi ⟨t6, rfl, t11, eL, pv, hd, fr⟩
        obtain ⟨j, hj⟩ : ∃ j, past.length = i + j + 2 := ⟨past.length - i - 2, by omega⟩
        have g1 := List.getElem?_eq_getElem (l := past) (i := j + 1) (by omega)
        have g2 := List.getElem?_eq_getElem (l := past) (i := j) (by omega)
        generalize past[j + 1] = s1 at g1
        generalize past[j] = s2 at g2
        have g3 := List.getElem?_eq_getElem (l := us) (i := j) (by omega)
        generalize us[j] = u2 at g3
        rw [show past.length - i = j + 1 + 1 by omega, take_rev g1, take_rev g2] at hd
        obtain ⟨dx, hv0, eD, _⟩ := id hd
        refine ⟨.ref D0, rfl, D0, dx, _, rfl, eD, rfl, D0, s1, s2 :: (past.take j).reverse, rfl, hd, fun _ H12 f12 d12 => ⟨rfl, _, rfl, ifF (by decide) ?_⟩, fun z => by cases z⟩
        obtain ⟨ao, ub, hlt, hlv⟩ := ri.po.ok j s2 g2
        have hjl : (past.take j).reverse.length = j := by
          rw [List.length_reverse, List.length_take]
          omega
        have eL12 := f12 _ _ (fun z => by
          rw [List.mem_singleton.mp z, eD] at eL
          cases eL) eL
        have pv12 := pv.map fun v s k h => h.fr (S := [D0]) hd.noT (f12.n fun _ h => h) fun a ha => by
          rw [List.mem_singleton.mp ha]
          exact .inr ⟨_, _, _, eD⟩
        have t12 := tabs_fr t11 f12 hd.noT
        have fr12 : FrN [p] H H12 := fun b o nb nt e => f12 b o (fun z => by
          rw [List.mem_singleton.mp z, nD0] at e
          cases e) (fr b o nb nt e)
        refine ⟨.ref D0, rfl, D0, s2, (past.take j).reverse, n, rfl, d12, ao, by omega, fun H13 v5 ys5 s5 hp5 hs5 hdp5 => ?_⟩
        have nb5 := sight_nd (k := (past.take j).reverse.length) hn ao ub (by omega) (by omega) (by omega) hp5
        refine ⟨v5, _, rfl, hdp5, nb5.sh, nb5.nd, Nat.le_trans nb5.dp (by decide), nb5.len (by decide), ?_⟩
        have pv13 := pv12.map fun v s k h => h.same s5
        refine ⟨.ref L, rfl, 2, rfl, _, rfl, _, _, rfl, rfl, L, us, _, _, rfl, rfl, .inl (.inl (s5 _ _ eL12)), atI_neg (j := j) (by omega) (by omega) g3, u2, s2, j, n, rfl, pv13.st j u2 s2 g3 g2, ao, by omega, by omega, fun H14 u6 ys6 s6 hp6 hs6 hdp6 => ?_⟩
        have nb6 := sight_nd (k := j) hn ao ub (by omega) (by omega) (by omega) hp6
        refine ⟨u6, _, rfl, hdp6, nb6.sh, nb6.nd, Nat.le_trans nb6.dp (by decide), nb6.len (by decide), rfl, _, rfl, ifF ?_ ?_⟩
        · exact ne_same (by rw [hjl, sight_same hp5 hs5 hp6 hs6])
        · have s56 := s5.trans s6
          refine ⟨_, rfl, t12.ext fun b o e => s56 b o e, s56 _ _ eL12, pv12.map fun v s k h => h.same s56, ?_, fr12.trans s56.n⟩
          rw [show past.length - (i + 1) = j + 1 by omega, take_rev g2]
          exact d12.same s56
      · rintro σ H11 ⟨t6, rfl, t11, eL, pv, hd, fr⟩
        have g1 := List.getElem?_eq_getElem (l := past) (i := 0) (by omega)
        generalize past[0] = s1 at g1
        have e1 : s1 = ⟨[], []⟩ := by
          obtain ⟨_, _, a, b⟩ := ri.po.ok 0 s1 g1
          obtain ⟨t, v⟩ := s1
          have e1 : t = [] := List.length_eq_zero_iff.mp (by simpa using a)
          have e2 : v = [] := List.length_eq_zero_iff.mp (by simpa using b)
          rw [e1, e2]
        rw [show past.length - (past.length - 1) = 0 + 1 by omega, take_rev g1, e1] at hd
        have hd : DeskAt K H11 D0 [⟨[], []⟩] := hd
        obtain ⟨dx, hv0, eD, _⟩ := id hd
        refine ⟨.ref D0, rfl, D0, dx, _, rfl, eD, D0, ⟨[], []⟩, [], rfl, hd, by decide, fun H12 pn ys s12 hperm hsrt ep => ?_⟩
        have hys : ys = [] := List.length_eq_zero_iff.mp hperm.length_eq
        subst hys
        refine ⟨Nat.zero_le _, fun e ne => ⟨pn, e, _, rfl, rfl, .inl (.inl (same_upd ne _ _ ep)), .inl (.inl upd_same), _, rfl, ifT rfl ?_⟩⟩
        have s13 := s12.trans (same_upd (o := .tup []) ne)
        generalize upd H12 e (.tup []) = H13 at s13 ⊢
        have hd13 := hd.same s13
        have eD13 := s13 _ _ eD
        refine ⟨.ref D0, rfl, D0, dx, _, rfl, eD13, D0, ⟨[], []⟩, [], rfl, hd13, rfl, _, rfl, ifT (by decide) ?_⟩
        refine ⟨t11.ext fun b o e => s13 b o e, fun H14 e14 t14 => ?_⟩
        have hd14 : DeskAt K H14 D0 [⟨[], []⟩] := by
          obtain ⟨dx1, hv1, eD1, hh⟩ := hd13
          exact ⟨dx1, hv1, e14 _ _ eD1 (fun ps z => by cases z), hh.ts (FrN.ts (S := []) e14.n (fun b hb => absurd hb (by simp)))⟩
        refine ⟨.ref D0, rfl, D0, dx, _, rfl, e14 _ _ eD13 (fun ps z => by cases z), rfl, D0, ⟨[], []⟩, [], rfl, hd14, fun z => (z rfl).elim, fun _ H15 s15 => ⟨CA.undo, .undo, ⟨rfl, rfl⟩, True.intro, fun H16 v s16 hv => ?_⟩⟩
        obtain ⟨g, rfl, eg⟩ := hv
        refine ⟨by show 2 ≤ sizeLine; omega, fun q1 nq1 => ⟨1, by decide, .inl ⟨g, q1, _, _, rfl, rfl, .inl (.inl (same_upd nq1 _ _ eg)), .inl (.inl upd_same), .cons (.inl ⟨rfl, rfl⟩) (.cons (.inl ⟨rfl, rfl⟩) .nil)⟩, ?_⟩⟩
        have s17 := (s15.trans s16).trans (same_upd (o := .lst [.str "undo", .str ""]) nq1)
        exact q _ (((fr.trans s13.n).trans e14.n).trans s17.n) (t14.ext fun b o e => s17 b o e)
end
end Kr

set_option Elab.async false
set_option linter.all false
set_option maxRecDepth 100000
set_option maxHeartbeats 1000000
/-! The law. -/
namespace Kr
open PySem PySem.Spec PyProof.Rows L2 L2H LamX
section
variable {P : Program} {w : World} {K : PySem.W.Frag} {mg : Str → Option Value} {base : Heap}
theorem sql_extN {H H' : Hp} {a : Addr} {xs : List V} (e : ExtN H H') (h : SqL K H a xs) : SqL K H' a xs := by
  rcases h with (h | ⟨o, h⟩) | h
  · exact .inl (.inl (e _ _ h fun _ z => nomatch z))
  · exact .inl (.inr ⟨o, e _ _ h fun _ z => nomatch z⟩)
  · exact .inr h
def spLawQ (K : PySem.W.Frag) (T : List (Addr × Str)) : Sp := fun vs H Q _ => ∃ (a : Addr) (ns : List Int), vs = [.ref a] ∧ SqL K H a (ns.map V.int) ∧ ns.length ≤ 1000 ∧ Tabs T H ∧ ∀ H', Q (.bl true) H'
theorem sc_law : FnScope ["_law_script", "_law_k"] ["_law_script"] (defScope s_law) := ⟨rfl, rfl, rfl, by decide +kernel, rfl, by decide +kernel, by decide +kernel⟩
theorem law_fn {TL : List (Addr × Str)} {f : Addr} {fd : FuncData} (F : L2.Fun K "law" "law" s_law f fd) (T : Fre mg) (D_l_vial : DOk P w K mg base CX0 1 "_law_vial" ["_law_script", "_law_turn"] (spVial K)) (D_l_right : GOk P w K mg base CX0 14 "_law_right" ["_law_vial_here"] (spRight TL)) :
    FnG P w K mg base CX0 15 f fd ["_law_script"] (spLawQ K TL) := by
  refine Kr.Fun.okG F sc_law (fun vs H Q E h => ?_) (fun cdv A outer s H vs Q E hcd _ hg hr h => ?_)
  · obtain ⟨_, _, rfl, _⟩ := h
    rfl
  · obtain ⟨a, ns, rfl, ha, hl, ht, q⟩ := h
    have big := big1000
    refine ⟨_, (pss_one (ps_ret (pe_callB (cr_all rfl) (by rfl) T.all_ (by decide +kernel) (pa_cons (pe_lc (own := [("_law_k", 1)]) (g := gName 1) (tt := tYes) rfl sc_law.nd (pi_range1 (by rfl) T.range_ (pa_cons (pe_callB (call_max2 rfl) (by rfl) T.max_ (by decide +kernel) (pa_cons pe_int (pa_cons (pe_callB (call_min2 rfl) (by rfl) T.min_ (by decide +kernel) (pa_cons (pe_callB call_len_seq (by rfl) T.len_ (by decide +kernel) (pa_cons (pv 0) pa_nil)) (pa_cons pe_int pa_nil))) pa_nil))) pa_nil)) (blkOk_by (N := ["_law_script", "_law_k"]) (sc := defScope s_law) (by decide +kernel)) (fun _ _ _ _ _ => (pg_name (i := 1) sc_law.nd rfl (.inl rfl))) (fun _ _ _ _ _ => pts_nil) (fun _ _ _ _ _ => (pe_fnG D_l_right hg hr (pa_cons (pe_fn D_l_vial hr (pa_cons (pv 0) (pa_cons (pv 1) pa_nil))) pa_nil)))) pa_nil)))), ?_⟩
    refine ⟨.ref a, rfl, a, _, rfl, .inl ha, _, _, rfl, _, _, rfl, ?_⟩
    rw [List.length_map]
    generalize hm : (if (if (4 : Int) < (ns.length : Int) then (4 : Int) else (ns.length : Int)) > 2 then (if (4 : Int) < (ns.length : Int) then (4 : Int) else (ns.length : Int)) else (2 : Int)) = m
    have h2 : 2 ≤ m ∧ m ≤ 4 := by
      rw [← hm]
      split
      · split
        · omega
        · omega
      · omega
    refine ⟨m, rfl, by omega, by omega, fun d nd => ?_⟩
    refine lc_range (lo := 0) (n := m.toNat) (fun i H2 => ExtN H H2 ∧ Tabs TL H2 ∧ H2 d = some (.lst ((List.replicate i true).map V.bl))) ⟨fun b o e _ => same_upd nd b o e, ht.ext fun b o e => same_upd nd b o e, upd_same⟩ ?_ ?_
    · rintro i H2 hi ⟨ex, t2, ed⟩
      refine ⟨rfl, .ref a, rfl, .int (0 + i), rfl, a, ns, i, (by rw [Int.zero_add]; rfl), sql_extN ex ha, hl, by omega, fun H3 p s3 np v3 => ?_⟩
      refine ⟨p, rfl, v3, t2.ext fun b o e => s3 b o e, fun H4 f4 t4 => ?_⟩
      have dp : d ≠ p := fun e => by
        rw [e, np] at ed
        cases ed
      have ed4 := f4 _ _ (by simpa using dp) (fun ps z => by cases z) (s3 _ _ ed)
      refine ⟨_, ed4, small1000 (by rw [List.length_map, List.length_replicate]; omega), fun b o e nt => ?_, tabs_fr (S := [d]) t4 (fun b o hb e => by rw [upd_ne (fun z => hb (by rw [z]; exact List.mem_singleton_self _))]; exact e) (fun b hb => by rw [List.mem_singleton.mp hb]; exact .inl ⟨_, ed4⟩), ?_⟩
      · have bd : b ≠ d := fun z => by
          rw [z, nd] at e
          cases e
        have e2 := ex b o e nt
        have bp : b ≠ p := fun z => by
          rw [z, np] at e2
          cases e2
        rw [upd_ne bd]
        exact f4 b o (by simpa using bp) nt (s3 _ _ e2)
      · rw [upd_same, List.replicate_succ', List.map_append]
        rfl
    · rintro H2 ⟨ex, t2, ed⟩
      refine ⟨d, _, rfl, .inl (.inl ed), ?_⟩
      rw [show (List.replicate m.toNat true).all id = true from List.all_eq_true.mpr fun x hx => by rw [List.eq_of_mem_replicate hx]; rfl]
      exact q H2
end
end Kr

set_option Elab.async false
set_option linter.all false
set_option maxRecDepth 100000
set_option maxHeartbeats 1000000
/-! What the head must tell, and the law from it. -/
namespace Kr
open PySem PySem.Spec PyProof.Rows L2 L2H LamX
/-! ### checks of the written part -/
def oexB (K : PySem.W.Frag) (C : Addr) (tl : List Value) (newId : String) : Bool := match K.lookup C with
  | some ⟨.type c, _, .cls cd, sl⟩ => decide (c = "type") && (match cd.mro, sl.toList with
    | .ref C2 :: bm, [_, _, _, _, some (.builtin n), _] => decide (C2 = C) && (decide (n = newId) && (cd.hasDict && (!cd.hasDel && PySem.W.excTail tl bm)))
    | _, _ => false)
  | _ => false
theorem oexB_ok {K : PySem.W.Frag} {C : Addr} {tl : List Value} {newId : String} (h : oexB K C tl newId = true) :
    ∃ nm q N bs bm sn sub ab col dd k0 k1 k2 k3 k5, K.lookup C = some (PySem.excClassObj nm q C N bs bm true sn sub ab col dd k0 k1 k2 k3 k5 newId) ∧ PySem.W.excTail tl bm = true := by
  unfold oexB at h
  split at h
  · rename_i c dd cd sl ho
    obtain ⟨hc, h⟩ := He.ba h
    split at h
    · rename_i C2 bm k0 k1 k2 k3 n k5 hm hs
      obtain ⟨h1, h⟩ := He.ba h
      obtain ⟨h2, h⟩ := He.ba h
      obtain ⟨h3, h⟩ := He.ba h
      obtain ⟨h4, h5⟩ := He.ba h
      have e0 := of_decide_eq_true hc
      have e1 := of_decide_eq_true h1
      have e2 := of_decide_eq_true h2
      have e4 : cd.hasDel = false := by simpa using h4
      obtain ⟨nm, bs, mro, ns, qn, hd, sn, sub, ab, col, del⟩ := cd
      dsimp only at hm h3 e4
      subst e0 e1 e2 hm h3 e4
      have hsl : sl = #[k0, k1, k2, k3, some (.builtin n), k5] := by
        obtain ⟨l⟩ := sl
        have hs : l = [k0, k1, k2, k3, some (.builtin n), k5] := hs
        rw [hs]
      subst hsl
      exact ⟨nm, qn, ns, bs, bm, sn, sub, ab, col, dd, k0, k1, k2, k3, k5, ho, h5⟩
    · cases h
  · cases h
abbrev tlVE : List Value := [.type "ValueError", .type "Exception", .type "BaseException", .type "object"]
abbrev tlLE : List Value := [.type "LookupError", .type "Exception", .type "BaseException", .type "object"]
abbrev tlAE : List Value := [.type "ArithmeticError", .type "Exception", .type "BaseException", .type "object"]
/-- an own exception class with an __init__: the base's tail and its new -/
def exiB (K : PySem.W.Frag) (c : Str) (tl : List Value) (newId : String) : Bool := oexB K (He.ga K c) tl newId && (decide (PySem.W.findIn K (.ref (He.ga K c)) "__setattr__" = some (some (.builtin "object.__setattr__"))) && (decide (PySem.W.subIn K (.ref (He.ga K c)) (.type "BaseException") = some true) &&
  (decide (PySem.W.typeIn K (.ref (He.ga K c)) = some (.type "type")) && (PySem.W.keepIn K (.ref (He.ga K c)) && decide (PySem.W.typeIn K (.ref (He.ma K (He.ga K c) "__init__")) = some (.type "function"))))))
theorem exiB_ok {K : PySem.W.Frag} {mg : Str → Option Value} {c : Str} {B newId initId : String} {tl : List Value} (eb : EB B newId initId tl) (h : exiB K c tl newId = true) (gm : mg c = some (.ref (He.ga K c))) : ExIn K mg c := by
  obtain ⟨h1, h⟩ := He.ba h
  obtain ⟨h2, h⟩ := He.ba h
  obtain ⟨h3, h⟩ := He.ba h
  obtain ⟨h4, h⟩ := He.ba h
  obtain ⟨h5, h6⟩ := He.ba h
  exact ⟨⟨⟨B, newId, initId, tl, eb, oexB_ok h1⟩, of_decide_eq_true h2, of_decide_eq_true h3, of_decide_eq_true h4, h5⟩, of_decide_eq_true h6, gm⟩
def exnB (K : PySem.W.Frag) : Bool := PySem.W.excIn K (He.ga K "NothingToUndo") tlAE "ArithmeticError.__new__" && (PySem.W.keepIn K (.ref (He.ga K "NothingToUndo")) && (decide (PySem.W.subIn K (.ref (He.ga K "NothingToUndo")) (.type "BaseException") = some true) && decide (PySem.W.typeIn K (.ref (He.ga K "NothingToUndo")) = some (.type "type"))))
theorem exnB_ok {K : PySem.W.Frag} {mg : Str → Option Value} (h : exnB K = true) (gm : mg "NothingToUndo" = some (.ref (He.ga K "NothingToUndo"))) : ExN K mg := by
  obtain ⟨h1, h⟩ := He.ba h
  obtain ⟨h2, h⟩ := He.ba h
  obtain ⟨h3, h4⟩ := He.ba h
  exact ⟨h1, gm, h2, of_decide_eq_true h3, of_decide_eq_true h4⟩
def excCB (K : PySem.W.Frag) (D : Addr) : Bool := decide (PySem.W.findIn K (.ref D) "__getattribute__" = some (some (.builtin "BaseException.__getattribute__"))) && (decide (PySem.W.findIn K (.ref D) "__getattr__" = some none) && (decide (PySem.W.subIn K (.ref D) (.type "BaseException") = some true) && (PySem.W.hasDictIn K D &&
  (decide (PySem.W.findIn K (.ref D) "__class__" = some (some (.builtin "object.__class__"))) && (decide (PySem.W.specialIn K (.builtin "object.__class__") "__get__" = some (some (.builtin "getset_descriptor.__get__"))) && (decide (PySem.W.takesIn K (.builtin "object.__class__") = some true) && decide (PySem.W.mroIn K D (.type "object") = some true)))))))
theorem excCB_ok {K : PySem.W.Frag} {D : Addr} (h : excCB K D = true) : ExcC K D := by
  obtain ⟨h1, h⟩ := He.ba h
  obtain ⟨h2, h⟩ := He.ba h
  obtain ⟨h3, h⟩ := He.ba h
  obtain ⟨h4, h⟩ := He.ba h
  obtain ⟨h5, h⟩ := He.ba h
  obtain ⟨h6, h⟩ := He.ba h
  obtain ⟨h7, h8⟩ := He.ba h
  exact ⟨of_decide_eq_true h1, of_decide_eq_true h2, of_decide_eq_true h3, h4, of_decide_eq_true h5, of_decide_eq_true h6, of_decide_eq_true h7, of_decide_eq_true h8⟩
def sortB (K : PySem.W.Frag) (c : Str) (n : Nat) : Bool := excCB K (He.ga K c) && (decide (PySem.W.kitOne K (.ref (He.ga K c)) (.ref (He.ga K "InvalidNumber")) = some (decide (0 = n))) && (decide (PySem.W.kitOne K (.ref (He.ga K c)) (.ref (He.ga K "InvalidName")) = some (decide (1 = n))) && (decide (PySem.W.kitOne K (.ref (He.ga K c)) (.ref (He.ga K "InvalidIndex")) = some (decide (2 = n))) && (decide (PySem.W.kitOne K (.ref (He.ga K c)) (.ref (He.ga K "InvalidPromise")) = some (decide (3 = n))) && (decide (PySem.W.kitOne K (.ref (He.ga K c)) (.ref (He.ga K "InvalidCommand")) = some (decide (4 = n))) && (decide (PySem.W.kitOne K (.ref (He.ga K c)) (.ref (He.ga K "InvalidFacts")) = some (decide (5 = n))) && (decide (PySem.W.kitOne K (.ref (He.ga K c)) (.ref (He.ga K "InvalidValues")) = some (decide (6 = n))) && (decide (PySem.W.kitOne K (.ref (He.ga K c)) (.ref (He.ga K "InvalidPoints")) = some (decide (7 = n))) && (decide (PySem.W.kitOne K (.ref (He.ga K c)) (.ref (He.ga K "UnknownName")) = some (decide (8 = n))) && (decide (PySem.W.kitOne K (.ref (He.ga K c)) (.ref (He.ga K "InUse")) = some (decide (9 = n))) && (decide (PySem.W.kitOne K (.ref (He.ga K c)) (.ref (He.ga K "NoMachine")) = some (decide (10 = n))) && (decide (PySem.W.kitOne K (.ref (He.ga K c)) (.ref (He.ga K "TooMany")) = some (decide (11 = n))) && (decide (PySem.W.kitOne K (.ref (He.ga K c)) (.ref (He.ga K "NothingToUndo")) = some (decide (12 = n))) && (decide (PySem.W.kitOne K (.ref (He.ga K c)) (.ref (He.ga K "Broken")) = some (decide (13 = n))) && (decide (PySem.W.kitOne K (.ref (He.ga K c)) (.type "ValueError") = some (decide (n < 8))) && (decide (PySem.W.kitOne K (.ref (He.ga K c)) (.type "LookupError") = some (decide (n = 8 ∨ n = 9))) && decide (PySem.W.kitOne K (.ref (He.ga K c)) (.type "ArithmeticError") = some (decide (9 < n)))))))))))))))))))
theorem sortB_ok {K : PySem.W.Frag} {c : Str} {n : Nat} (h : sortB K c n = true) : SortX K c n := by
  obtain ⟨hC, h⟩ := He.ba h
  obtain ⟨h0, h⟩ := He.ba h
  obtain ⟨h1, h⟩ := He.ba h
  obtain ⟨h2, h⟩ := He.ba h
  obtain ⟨h3, h⟩ := He.ba h
  obtain ⟨h4, h⟩ := He.ba h
  obtain ⟨h5, h⟩ := He.ba h
  obtain ⟨h6, h⟩ := He.ba h
  obtain ⟨h7, h⟩ := He.ba h
  obtain ⟨h8, h⟩ := He.ba h
  obtain ⟨h9, h⟩ := He.ba h
  obtain ⟨h10, h⟩ := He.ba h
  obtain ⟨h11, h⟩ := He.ba h
  obtain ⟨h12, h⟩ := He.ba h
  obtain ⟨h13, h⟩ := He.ba h
  obtain ⟨h14, h⟩ := He.ba h
  obtain ⟨h15, h⟩ := He.ba h
  exact ⟨excCB_ok hC, of_decide_eq_true h0, of_decide_eq_true h1, of_decide_eq_true h2, of_decide_eq_true h3, of_decide_eq_true h4, of_decide_eq_true h5, of_decide_eq_true h6, of_decide_eq_true h7, of_decide_eq_true h8, of_decide_eq_true h9, of_decide_eq_true h10, of_decide_eq_true h11, of_decide_eq_true h12, of_decide_eq_true h13, of_decide_eq_true h14, of_decide_eq_true h15, of_decide_eq_true h⟩
def cauB (K : PySem.W.Frag) (c : Str) : Bool := decide (PySem.W.exmAny K (.ref (He.ga K c)) [.ref (He.ga K "WrongValue"), .ref (He.ga K "WrongName"), .ref (He.ga K "NoAnswer")] = some true)
theorem cauB_ok {K : PySem.W.Frag} {c : Str} (h : cauB K c = true) : caught K (.ref (He.ga K c)) := by
  unfold cauB at h
  have h2 := of_decide_eq_true h
  exact h2
/-- a property's object, its getter -/
def prP (K : PySem.W.Frag) (C f : Str) : Addr := He.ma K (He.ga K C) f
def prG (K : PySem.W.Frag) (C f : Str) : Addr := match PySem.W.recIn K (prP K C f) "property" with
  | some (.ref g :: _) => g
  | _ => 0
def prB (K : PySem.W.Frag) (C f : Str) : Bool := decide (PySem.W.findIn K (.ref (He.ga K C)) f = some (some (.ref (prP K C f)))) && (decide (PySem.W.specialIn K (.ref (prP K C f)) "__get__" = some (some (.builtin "property.__get__"))) && (decide (PySem.W.takesIn K (.ref (prP K C f)) = some true) &&
  (match PySem.W.recIn K (prP K C f) "property" with
    | some (.ref _ :: _) => true
    | _ => false)))
theorem prB_ok {K : PySem.W.Frag} {C f : Str} (h : prB K C f = true) : PropOf K (He.ga K C) f (prP K C f) (prG K C f) := by
  obtain ⟨h1, h⟩ := He.ba h
  obtain ⟨h2, h⟩ := He.ba h
  obtain ⟨h3, h4⟩ := He.ba h
  refine ⟨of_decide_eq_true h1, of_decide_eq_true h2, of_decide_eq_true h3, ?_⟩
  unfold prG
  split at h4
  · rename_i g r q
    rw [q]
    exact ⟨r, rfl⟩
  · cases h4
/-- what the head tells -/
structure HdF (K : PySem.W.Frag) (w : World) (mg : Str → Option Value) : Prop where
  T : Fre mg
  d_gcd : DefIn K mg "gcd" s_gcd
  d_lcm : DefIn K mg "lcm" s_lcm
  d_rest_by : DefIn K mg "rest_by" s_rest_by
  d_agree : DefIn K mg "agree" s_agree
  d_inverse : DefIn K mg "inverse" s_inverse
  d_met : DefIn K mg "met" s_met
  d_is_integer : DefIn K mg "is_integer" s_is_integer
  d_is_between : DefIn K mg "is_between" s_is_between
  d_is_name : DefIn K mg "is_name" s_is_name
  d_are_integers : DefIn K mg "are_integers" s_are_integers
  d_is_fact : DefIn K mg "is_fact" s_is_fact
  d_check_facts : DefIn K mg "check_facts" s_check_facts
  d_do_quarrel : DefIn K mg "do_quarrel" s_do_quarrel
  d_all_quarrels : DefIn K mg "all_quarrels" s_all_quarrels
  d_known_by : DefIn K mg "known_by" s_known_by
  d_is_sure : DefIn K mg "is_sure" s_is_sure
  d_unsure_ones : DefIn K mg "unsure_ones" s_unsure_ones
  d_is_promise : DefIn K mg "is_promise" s_is_promise
  d_names_in : DefIn K mg "names_in" s_names_in
  d_truth_of : DefIn K mg "truth_of" s_truth_of
  d_check_promise : DefIn K mg "check_promise" s_check_promise
  d_l_vial : DefIn K mg "_law_vial" s_l_vial
  d_l_drop : DefIn K mg "_law_drop" s_l_drop
  d_l_any : DefIn K mg "_law_any" s_l_any
  d_l_mixed : DefIn K mg "_law_mixed" s_l_mixed
  d_l_words : DefIn K mg "_law_words" s_l_words
  d_l_shared : DefIn K mg "_law_shared" s_l_shared
  d_l_maps : DefIn K mg "_law_maps" s_l_maps
  d_l_keeps_fact : DefIn K mg "_law_keeps_fact" s_l_keeps_fact
  d_l_fitting : DefIn K mg "_law_fitting" s_l_fitting
  d_l_seen : DefIn K mg "_law_seen" s_l_seen
  d_l_is_sure : DefIn K mg "_law_is_sure" s_l_is_sure
  d_l_pair : DefIn K mg "_law_pair" s_l_pair
  d_l_fact : DefIn K mg "_law_fact" s_l_fact
  d_l_heap : DefIn K mg "_law_heap" s_l_heap
  d_l_broken : DefIn K mg "_law_broken" s_l_broken
  d_l_vow : DefIn K mg "_law_vow" s_l_vow
  d_l_true_vow : DefIn K mg "_law_true_vow" s_l_true_vow
  d_l_names_of : DefIn K mg "_law_names_of" s_l_names_of
  d_l_sort : DefIn K mg "_law_sort" s_l_sort
  d_l_told : DefIn K mg "_law_told" s_l_told
  d_l_sight : DefIn K mg "_law_sight" s_l_sight
  d_l_due_sight : DefIn K mg "_law_due_sight" s_l_due_sight
  d_l_put : DefIn K mg "_law_put" s_l_put
  d_l_vowed : DefIn K mg "_law_vowed" s_l_vowed
  d_l_removed : DefIn K mg "_law_removed" s_l_removed
  d_l_lifted : DefIn K mg "_law_lifted" s_l_lifted
  d_l_job : DefIn K mg "_law_job" s_l_job
  d_l_due : DefIn K mg "_law_due" s_l_due
  d_l_do : DefIn K mg "_law_do" s_l_do
  d_l_moved : DefIn K mg "_law_moved" s_l_moved
  d_l_right : DefIn K mg "_law_right" s_l_right
  d_law : DefIn K mg "law" s_law
  m_Desk_init : MethIn K "Desk" "__init__" "Desk.__init__" s_Desk_init
  m_Desk_contains : MethIn K "Desk" "__contains__" "Desk.__contains__" s_Desk_contains
  m_Desk_len : MethIn K "Desk" "__len__" "Desk.__len__" s_Desk_len
  m_Desk_getitem : MethIn K "Desk" "__getitem__" "Desk.__getitem__" s_Desk_getitem
  m_Desk_setitem : MethIn K "Desk" "__setitem__" "Desk.__setitem__" s_Desk_setitem
  m_Desk_become : MethIn K "Desk" "become" "Desk.become" s_Desk_become
  m_Desk_remove : MethIn K "Desk" "remove" "Desk.remove" s_Desk_remove
  m_Desk_promise : MethIn K "Desk" "promise" "Desk.promise" s_Desk_promise
  m_Desk_lift : MethIn K "Desk" "lift" "Desk.lift" s_Desk_lift
  m_Desk_undo : MethIn K "Desk" "undo" "Desk.undo" s_Desk_undo
  m_InvalidIndex_init : MethIn K "InvalidIndex" "__init__" "InvalidIndex.__init__" s_InvalidIndex_init
  m_UnknownName_init : MethIn K "UnknownName" "__init__" "UnknownName.__init__" s_UnknownName_init
  m_InUse_init : MethIn K "InUse" "__init__" "InUse.__init__" s_InUse_init
  m_Broken_init : MethIn K "Broken" "__init__" "Broken.__init__" s_Broken_init
  p_names : PropOf K (He.ga K "Desk") "names" (prP K "Desk" "names") (prG K "Desk" "names")
  f_names : ∃ fd, L2.Fun K "names" "Desk.names" s_Desk_names (prG K "Desk" "names") fd
  p_promises : PropOf K (He.ga K "Desk") "promises" (prP K "Desk" "promises") (prG K "Desk" "promises")
  f_promises : ∃ fd, L2.Fun K "promises" "Desk.promises" s_Desk_promises (prG K "Desk" "promises") fd
  p_changes : PropOf K (He.ga K "Desk") "changes" (prP K "Desk" "changes") (prG K "Desk" "changes")
  f_changes : ∃ fd, L2.Fun K "changes" "Desk.changes" s_Desk_changes (prG K "Desk" "changes") fd
  C : DeskC K mg
  mks : PySem.W.makesIn K (He.ga K "Desk") = true
  kp : PySem.W.keepIn K (.ref (He.ga K "Desk")) = true
  nq : PySem.W.noSeq K (He.ga K "Desk") = true
  gi : PySem.W.fnIn K (He.ma K (He.ga K "Desk") "__getitem__") = true
  x_InvalidIndex : ExIn K mg "InvalidIndex"
  x_UnknownName : ExIn K mg "UnknownName"
  x_InUse : ExIn K mg "InUse"
  x_Broken : ExIn K mg "Broken"
  xn : ExN K mg
  so : SortAll K mg
  ca : CaughtAll K
  tc : ToldC mg K
  sz : SzOk K w mg
  mf : ∃ t, mg "MOST_FACTS" = some (.int 40 t)
  lo : ∃ t, mg "LONGEST" = some (.int 8 t)
  le : ∃ t, mg "LETTERS" = some (.str lettersS t)
theorem law_all {P : Program} {w : World} {K : PySem.W.Frag} {mg : Str → Option Value} {base : Heap} {c1 c2 P1 P2 : Addr} {TL : List (Addr × Str)} (hd : HdF K w mg) (D1 : DefC K mg "_law_moved" s_l_moved c1) (D2 : DefC K mg "_law_right" s_l_right c2) (TB1 : TabB base mg c1 P1) (TB2 : TabB base mg c2 P2)
    (i1 : (P1, lamQ "_law_moved" s_l_moved) ∈ TL) (i2 : (P2, lamQ "_law_right" s_l_right) ∈ TL) (u1 : ∀ p ∈ TL, p.1 = P1 → p.2 = lamQ "_law_moved" s_l_moved) (u2 : ∀ p ∈ TL, p.1 = P2 → p.2 = lamQ "_law_right" s_l_right) : ∀ fd, L2.Fun K "law" "law" s_law (He.ga K "law") fd → FnG P w K mg base CX0 15 (He.ga K "law") fd ["_law_script"] (spLawQ K TL) := by
  obtain ⟨T, d_gcd, d_lcm, d_rest_by, d_agree, d_inverse, d_met, d_is_integer, d_is_between, d_is_name, d_are_integers, d_is_fact, d_check_facts, d_do_quarrel, d_all_quarrels, d_known_by, d_is_sure, d_unsure_ones, d_is_promise, d_names_in, d_truth_of, d_check_promise, d_l_vial, d_l_drop, d_l_any, d_l_mixed, d_l_words, d_l_shared, d_l_maps, d_l_keeps_fact, d_l_fitting, d_l_seen, d_l_is_sure, d_l_pair, d_l_fact, d_l_heap, d_l_broken, d_l_vow, d_l_true_vow, d_l_names_of, d_l_sort, d_l_told, d_l_sight, d_l_due_sight, d_l_put, d_l_vowed, d_l_removed, d_l_lifted, d_l_job, d_l_due, d_l_do, d_l_moved, d_l_right, d_law, m_Desk_init, m_Desk_contains, m_Desk_len, m_Desk_getitem, m_Desk_setitem, m_Desk_become, m_Desk_remove, m_Desk_promise, m_Desk_lift, m_Desk_undo, m_InvalidIndex_init, m_UnknownName_init, m_InUse_init, m_Broken_init, p_names, f_names, p_promises, f_promises, p_changes, f_changes, C, mk, kp, nq, gi, x_InvalidIndex, x_UnknownName, x_InUse, x_Broken, xn, so, ca, tc, sz, mf, lo, le⟩ := hd
  obtain ⟨_, n1, n2, n3, n4, n5⟩ : SortAll K mg ∧ _ ∧ _ ∧ _ ∧ _ ∧ _ := ⟨so, so.nIndex, so.nUnknown, so.nUse, so.nBroken, so.nBroken2⟩
  obtain ⟨g_names, hg_names⟩ := f_names
  have P_names : PrOk P w K mg base CX0 1 "Desk" "names" (spDNames K) := ⟨_, _, _, p_names, Desk_names_fn hg_names C T, hg_names.binds fun _ _ _ _ _ _ us hl => match us, hl with | [_], _ => rfl⟩
  obtain ⟨g_promises, hg_promises⟩ := f_promises
  have P_promises : PrOk P w K mg base CX0 1 "Desk" "promises" (spDPromises K) := ⟨_, _, _, p_promises, Desk_promises_fn hg_promises C, hg_promises.binds fun _ _ _ _ _ _ us hl => match us, hl with | [_], _ => rfl⟩
  obtain ⟨g_changes, hg_changes⟩ := f_changes
  have P_changes : PrOk P w K mg base CX0 1 "Desk" "changes" (spDChanges K) := ⟨_, _, _, p_changes, Desk_changes_fn hg_changes C, hg_changes.binds fun _ _ _ _ _ _ us hl => match us, hl with | [_], _ => rfl⟩
  have h_gcd_ok := gcd_ok (P := P) (w := w) (K := K) (mg := mg) (base := base) (by assumption) (by assumption)
  have h_shared_ok := shared_ok (P := P) (w := w) (K := K) (mg := mg) (base := base) (by assumption) (by assumption)
  have h_lcm_ok := lcm_ok (P := P) (w := w) (K := K) (mg := mg) (base := base) (by assumption) (by assumption) (by assumption)
  have h_rest_by_ok := rest_by_ok (P := P) (w := w) (K := K) (mg := mg) (base := base) (by assumption)
  have h_agree_ok := agree_ok (P := P) (w := w) (K := K) (mg := mg) (base := base) (by assumption) (by assumption)
  have h_inverse_ok := inverse_ok (P := P) (w := w) (K := K) (mg := mg) (base := base) (by assumption)
  have h_met_ok := met_ok (P := P) (w := w) (K := K) (mg := mg) (base := base) (by assumption) (by assumption) (by assumption) (by assumption)
  have h_do_quarrel_ok := do_quarrel_ok (P := P) (w := w) (K := K) (mg := mg) (base := base) (by assumption) (by assumption) (by assumption)
  have h_all_quarrels_ok := all_quarrels_ok (P := P) (w := w) (K := K) (mg := mg) (base := base) (by assumption) (by assumption) (by assumption)
  have h_known_by_ok := known_by_ok (P := P) (w := w) (K := K) (mg := mg) (base := base) (by assumption) (by assumption) (by assumption) (by assumption)
  have h_is_sure_ok := is_sure_ok (P := P) (w := w) (K := K) (mg := mg) (base := base) (by assumption) (by assumption) (by assumption) (by assumption)
  have h_unsure_ones_ok := unsure_ones_ok (P := P) (w := w) (K := K) (mg := mg) (base := base) (by assumption) (by assumption) (by assumption)
  have h_is_integer_ok := is_integer_ok (P := P) (w := w) (K := K) (mg := mg) (base := base) (by assumption) (by assumption)
  have h_is_between_ok := is_between_ok (P := P) (w := w) (K := K) (mg := mg) (base := base) (by assumption) (by assumption)
  have h_is_name_ok := is_name_ok (P := P) (w := w) (K := K) (mg := mg) (base := base) (by assumption) (by assumption) (by assumption) (by assumption)
  have h_are_integers_ok := are_integers_ok (P := P) (w := w) (K := K) (mg := mg) (base := base) (by assumption) (by assumption) (by assumption)
  have h_is_fact_ok := is_fact_ok (P := P) (w := w) (K := K) (mg := mg) (base := base) (by assumption) (by assumption)
  have h_check_facts_ok := check_facts_ok (P := P) (w := w) (K := K) (mg := mg) (base := base) (by assumption) (by assumption) (by assumption)
  have h_truth_of_ok := truth_of_ok (P := P) (w := w) (K := K) (mg := mg) (base := base) (by assumption) (by assumption) (by assumption) (by assumption) (by assumption)
  have h_InvalidIndex_init_ok := InvalidIndex_init_ok (P := P) (w := w) (K := K) (mg := mg) (base := base) (by assumption) (by assumption) (by assumption)
  have h_UnknownName_init_ok := UnknownName_init_ok (P := P) (w := w) (K := K) (mg := mg) (base := base) (by assumption) (by assumption) (by assumption)
  have h_InUse_init_ok := InUse_init_ok (P := P) (w := w) (K := K) (mg := mg) (base := base) (by assumption) (by assumption) (by assumption)
  have h_Broken_init_ok := Broken_init_ok (P := P) (w := w) (K := K) (mg := mg) (base := base) (by assumption) (by assumption) (by assumption) (by assumption)
  have h_check_promise_ok := check_promise_ok (P := P) (w := w) (K := K) (mg := mg) (base := base) (by assumption) (by assumption) (by assumption) (by assumption)
  have h_names_in_ok := names_in_ok (P := P) (w := w) (K := K) (mg := mg) (base := base) (by assumption)
  have h_is_promise_ok := is_promise_ok (P := P) (w := w) (K := K) (mg := mg) (base := base) (by assumption) (by assumption) (by assumption) (by assumption) (by assumption)
  have h_Desk_init_ok := Desk_init_ok (P := P) (w := w) (K := K) (mg := mg) (base := base) (by assumption) (by assumption)
  have h_Desk_become_ok := Desk_become_ok (P := P) (w := w) (K := K) (mg := mg) (base := base) (by assumption) (by assumption)
  have h_Desk_contains_ok := Desk_contains_ok (P := P) (w := w) (K := K) (mg := mg) (base := base) (by assumption) (by assumption) (by assumption)
  have h_Desk_len_ok := Desk_len_ok (P := P) (w := w) (K := K) (mg := mg) (base := base) (by assumption) (by assumption) (by assumption)
  have h_Desk_getitem_ok := Desk_getitem_ok (P := P) (w := w) (K := K) (mg := mg) (base := base) (by assumption) (by assumption) (by assumption)
  have h_Desk_lift_ok := Desk_lift_ok (P := P) (w := w) (K := K) (mg := mg) (base := base) (by assumption) (by assumption) (by assumption) (by assumption) (by assumption) (by assumption) (by assumption)
  have h_Desk_undo_ok := Desk_undo_ok (P := P) (w := w) (K := K) (mg := mg) (base := base) (by assumption) (by assumption) (by assumption)
  have h_Desk_setitem_ok := Desk_setitem_ok (P := P) (w := w) (K := K) (mg := mg) (base := base) (by assumption) (by assumption) (by assumption) (by assumption) (by assumption) (by assumption) (by assumption) (by assumption) (by assumption)
  have h_Desk_promise_ok := Desk_promise_ok (P := P) (w := w) (K := K) (mg := mg) (base := base) (by assumption) (by assumption) (by assumption) (by assumption) (by assumption) (by assumption) (by assumption) (by assumption) (by assumption) (by assumption)
  have h_Desk_remove_ok := Desk_remove_ok (P := P) (w := w) (K := K) (mg := mg) (base := base) (by assumption) (by assumption) (by assumption) (by assumption) (by assumption) (by assumption) (by assumption) (by assumption) (by assumption) (by assumption)
  have h_l_drop_ok := l_drop_ok (P := P) (w := w) (K := K) (mg := mg) (base := base) (by assumption) (by assumption)
  have h_l_any_ok := l_any_ok (P := P) (w := w) (K := K) (mg := mg) (base := base) (by assumption) (by assumption) (by assumption)
  have h_l_mixed_ok := l_mixed_ok (P := P) (w := w) (K := K) (mg := mg) (base := base) (by assumption) (by assumption) (by assumption)
  have h_l_words_ok := l_words_ok (P := P) (w := w) (K := K) (mg := mg) (base := base) (by assumption) (by assumption)
  have h_l_vial_ok := l_vial_ok (P := P) (w := w) (K := K) (mg := mg) (base := base) (by assumption) (by assumption)
  have h_l_maps_ok := l_maps_ok (P := P) (w := w) (K := K) (mg := mg) (base := base) (by assumption) (by assumption) (by assumption)
  have h_l_keeps_fact_ok := l_keeps_fact_ok (P := P) (w := w) (K := K) (mg := mg) (base := base) (by assumption) (by assumption)
  have h_l_fitting_okT := l_fitting_okT (P := P) (w := w) (K := K) (mg := mg) (base := base) (by assumption) (by assumption)
  have h_l_fitting_okL := l_fitting_okL (P := P) (w := w) (K := K) (mg := mg) (base := base) (by assumption) (by assumption)
  have h_l_seen_ok := l_seen_ok (P := P) (w := w) (K := K) (mg := mg) (base := base) (by assumption) (by assumption) (by assumption) (by assumption)
  have h_l_is_sure_ok := l_is_sure_ok (P := P) (w := w) (K := K) (mg := mg) (base := base) (by assumption) (by assumption) (by assumption)
  have h_l_pair_ok := l_pair_ok (P := P) (w := w) (K := K) (mg := mg) (base := base) (by assumption) (by assumption) (by assumption)
  have h_l_fact_ok := l_fact_ok (P := P) (w := w) (K := K) (mg := mg) (base := base) (by assumption) (by assumption) (by assumption) (by assumption)
  have h_l_heap_ok := l_heap_ok (P := P) (w := w) (K := K) (mg := mg) (base := base) (by assumption) (by assumption) (by assumption) (by assumption) (by assumption)
  have h_l_names_of_ok := l_names_of_ok (P := P) (w := w) (K := K) (mg := mg) (base := base) (by assumption)
  have h_l_broken_ok := l_broken_ok (P := P) (w := w) (K := K) (mg := mg) (base := base) (by assumption) (by assumption) (by assumption) (by assumption) (by assumption) (by assumption)
  have h_l_vow_ok := l_vow_ok (P := P) (w := w) (K := K) (mg := mg) (base := base) (by assumption) (by assumption) (by assumption) (by assumption) (by assumption)
  have h_l_true_vow_ok := l_true_vow_ok (P := P) (w := w) (K := K) (mg := mg) (base := base) (by assumption) (by assumption) (by assumption) (by assumption) (by assumption) (by assumption)
  have h_l_put_ok := l_put_ok (P := P) (w := w) (K := K) (mg := mg) (base := base) (by assumption) (by assumption) (by assumption) (by assumption)
  have h_l_vowed_ok := l_vowed_ok (P := P) (w := w) (K := K) (mg := mg) (base := base) (by assumption) (by assumption) (by assumption) (by assumption)
  have h_l_lifted_ok := l_lifted_ok (P := P) (w := w) (K := K) (mg := mg) (base := base) (by assumption) (by assumption)
  have h_l_removed_ok := l_removed_ok (P := P) (w := w) (K := K) (mg := mg) (base := base) (by assumption) (by assumption) (by assumption)
  have h_l_due_ok := l_due_ok (P := P) (w := w) (K := K) (mg := mg) (base := base) (by assumption) (by assumption) (by assumption) (by assumption) (by assumption)
  have h_l_job_ok := l_job_ok (P := P) (w := w) (K := K) (mg := mg) (base := base) (by assumption) (by assumption) (by assumption) (by assumption) (by assumption) (by assumption) (by assumption)
  have h_l_do_ok := l_do_ok (P := P) (w := w) (K := K) (mg := mg) (base := base) (by assumption) (by assumption) (by assumption) (by assumption) (by assumption) (by assumption) (by assumption)
  have h_l_sight_ok := l_sight_ok (P := P) (w := w) (K := K) (mg := mg) (base := base) (by assumption) (by assumption) (by assumption) (by assumption) (by assumption) (by assumption) (by assumption) (by assumption) (by assumption)
  have h_l_due_sight_ok := l_due_sight_ok (P := P) (w := w) (K := K) (mg := mg) (base := base) (by assumption) (by assumption)
  have h_l_sort_ok := l_sort_ok (P := P) (w := w) (K := K) (mg := mg) (base := base) (by assumption) (by assumption) (by assumption)
  have h_l_moved_ok := l_moved_ok (P := P) (w := w) (K := K) (mg := mg) (base := base) (c := c1) (Pt := P1) (TL := TL) (by assumption) (by assumption) (by assumption) (by assumption) (by assumption) (by assumption) (by assumption) (by assumption) (by assumption) (by assumption) (by assumption) (by assumption) (by assumption) (by assumption) (by assumption) (by assumption)
  have h_l_right_ok := l_right_ok (P := P) (w := w) (K := K) (mg := mg) (base := base) (c := c2) (Pt := P2) (TL := TL) (by assumption) (by assumption) (by assumption) (by assumption) (by assumption) (by assumption) (by assumption) (by assumption) (by assumption) (by assumption) (by assumption) (by assumption) (by assumption) (by assumption) (by assumption) (by assumption) (by assumption) (by assumption) (by assumption) (by assumption) (by assumption) (by assumption)
  exact fun fd F => law_fn F T h_l_vial_ok h_l_right_ok
end Kr

set_option Elab.async false
set_option linter.all false
set_option maxRecDepth 100000
set_option maxHeartbeats 1000000
/-! What is asked of the heap behind the top, and the Hook. -/
namespace Kr
open PySem PySem.Spec PyProof.Rows L2 L2H LamX
def hd_gcd : He5.DefA := ⟨fun K => He.ga K "gcd", "gcd", "gcd", defArgs s_gcd, defBody s_gcd, defScope s_gcd, [], []⟩
def hd_lcm : He5.DefA := ⟨fun K => He.ga K "lcm", "lcm", "lcm", defArgs s_lcm, defBody s_lcm, defScope s_lcm, [], []⟩
def hd_rest_by : He5.DefA := ⟨fun K => He.ga K "rest_by", "rest_by", "rest_by", defArgs s_rest_by, defBody s_rest_by, defScope s_rest_by, [], []⟩
def hd_agree : He5.DefA := ⟨fun K => He.ga K "agree", "agree", "agree", defArgs s_agree, defBody s_agree, defScope s_agree, [], []⟩
def hd_inverse : He5.DefA := ⟨fun K => He.ga K "inverse", "inverse", "inverse", defArgs s_inverse, defBody s_inverse, defScope s_inverse, [], []⟩
def hd_met : He5.DefA := ⟨fun K => He.ga K "met", "met", "met", defArgs s_met, defBody s_met, defScope s_met, [], []⟩
def hd_is_integer : He5.DefA := ⟨fun K => He.ga K "is_integer", "is_integer", "is_integer", defArgs s_is_integer, defBody s_is_integer, defScope s_is_integer, [], []⟩
def hd_is_between : He5.DefA := ⟨fun K => He.ga K "is_between", "is_between", "is_between", defArgs s_is_between, defBody s_is_between, defScope s_is_between, [], []⟩
def hd_is_name : He5.DefA := ⟨fun K => He.ga K "is_name", "is_name", "is_name", defArgs s_is_name, defBody s_is_name, defScope s_is_name, [], []⟩
def hd_are_integers : He5.DefA := ⟨fun K => He.ga K "are_integers", "are_integers", "are_integers", defArgs s_are_integers, defBody s_are_integers, defScope s_are_integers, [], []⟩
def hd_is_fact : He5.DefA := ⟨fun K => He.ga K "is_fact", "is_fact", "is_fact", defArgs s_is_fact, defBody s_is_fact, defScope s_is_fact, [], []⟩
def hd_check_facts : He5.DefA := ⟨fun K => He.ga K "check_facts", "check_facts", "check_facts", defArgs s_check_facts, defBody s_check_facts, defScope s_check_facts, [], []⟩
def hd_do_quarrel : He5.DefA := ⟨fun K => He.ga K "do_quarrel", "do_quarrel", "do_quarrel", defArgs s_do_quarrel, defBody s_do_quarrel, defScope s_do_quarrel, [], []⟩
def hd_all_quarrels : He5.DefA := ⟨fun K => He.ga K "all_quarrels", "all_quarrels", "all_quarrels", defArgs s_all_quarrels, defBody s_all_quarrels, defScope s_all_quarrels, [], []⟩
def hd_known_by : He5.DefA := ⟨fun K => He.ga K "known_by", "known_by", "known_by", defArgs s_known_by, defBody s_known_by, defScope s_known_by, [], []⟩
def hd_is_sure : He5.DefA := ⟨fun K => He.ga K "is_sure", "is_sure", "is_sure", defArgs s_is_sure, defBody s_is_sure, defScope s_is_sure, [], []⟩
def hd_unsure_ones : He5.DefA := ⟨fun K => He.ga K "unsure_ones", "unsure_ones", "unsure_ones", defArgs s_unsure_ones, defBody s_unsure_ones, defScope s_unsure_ones, [], []⟩
def hd_is_promise : He5.DefA := ⟨fun K => He.ga K "is_promise", "is_promise", "is_promise", defArgs s_is_promise, defBody s_is_promise, defScope s_is_promise, [], []⟩
def hd_names_in : He5.DefA := ⟨fun K => He.ga K "names_in", "names_in", "names_in", defArgs s_names_in, defBody s_names_in, defScope s_names_in, [], []⟩
def hd_truth_of : He5.DefA := ⟨fun K => He.ga K "truth_of", "truth_of", "truth_of", defArgs s_truth_of, defBody s_truth_of, defScope s_truth_of, [], []⟩
def hd_check_promise : He5.DefA := ⟨fun K => He.ga K "check_promise", "check_promise", "check_promise", defArgs s_check_promise, defBody s_check_promise, defScope s_check_promise, [], []⟩
def hd_l_vial : He5.DefA := ⟨fun K => He.ga K "_law_vial", "_law_vial", "_law_vial", defArgs s_l_vial, defBody s_l_vial, defScope s_l_vial, [], []⟩
def hd_l_drop : He5.DefA := ⟨fun K => He.ga K "_law_drop", "_law_drop", "_law_drop", defArgs s_l_drop, defBody s_l_drop, defScope s_l_drop, [], []⟩
def hd_l_any : He5.DefA := ⟨fun K => He.ga K "_law_any", "_law_any", "_law_any", defArgs s_l_any, defBody s_l_any, defScope s_l_any, [], []⟩
def hd_l_mixed : He5.DefA := ⟨fun K => He.ga K "_law_mixed", "_law_mixed", "_law_mixed", defArgs s_l_mixed, defBody s_l_mixed, defScope s_l_mixed, [], []⟩
def hd_l_words : He5.DefA := ⟨fun K => He.ga K "_law_words", "_law_words", "_law_words", defArgs s_l_words, defBody s_l_words, defScope s_l_words, [], []⟩
def hd_l_shared : He5.DefA := ⟨fun K => He.ga K "_law_shared", "_law_shared", "_law_shared", defArgs s_l_shared, defBody s_l_shared, defScope s_l_shared, [], []⟩
def hd_l_maps : He5.DefA := ⟨fun K => He.ga K "_law_maps", "_law_maps", "_law_maps", defArgs s_l_maps, defBody s_l_maps, defScope s_l_maps, [], []⟩
def hd_l_keeps_fact : He5.DefA := ⟨fun K => He.ga K "_law_keeps_fact", "_law_keeps_fact", "_law_keeps_fact", defArgs s_l_keeps_fact, defBody s_l_keeps_fact, defScope s_l_keeps_fact, [], []⟩
def hd_l_fitting : He5.DefA := ⟨fun K => He.ga K "_law_fitting", "_law_fitting", "_law_fitting", defArgs s_l_fitting, defBody s_l_fitting, defScope s_l_fitting, [], []⟩
def hd_l_seen : He5.DefA := ⟨fun K => He.ga K "_law_seen", "_law_seen", "_law_seen", defArgs s_l_seen, defBody s_l_seen, defScope s_l_seen, [], []⟩
def hd_l_is_sure : He5.DefA := ⟨fun K => He.ga K "_law_is_sure", "_law_is_sure", "_law_is_sure", defArgs s_l_is_sure, defBody s_l_is_sure, defScope s_l_is_sure, [], []⟩
def hd_l_pair : He5.DefA := ⟨fun K => He.ga K "_law_pair", "_law_pair", "_law_pair", defArgs s_l_pair, defBody s_l_pair, defScope s_l_pair, [], []⟩
def hd_l_fact : He5.DefA := ⟨fun K => He.ga K "_law_fact", "_law_fact", "_law_fact", defArgs s_l_fact, defBody s_l_fact, defScope s_l_fact, [], []⟩
def hd_l_heap : He5.DefA := ⟨fun K => He.ga K "_law_heap", "_law_heap", "_law_heap", defArgs s_l_heap, defBody s_l_heap, defScope s_l_heap, [], []⟩
def hd_l_broken : He5.DefA := ⟨fun K => He.ga K "_law_broken", "_law_broken", "_law_broken", defArgs s_l_broken, defBody s_l_broken, defScope s_l_broken, [], []⟩
def hd_l_vow : He5.DefA := ⟨fun K => He.ga K "_law_vow", "_law_vow", "_law_vow", defArgs s_l_vow, defBody s_l_vow, defScope s_l_vow, [], []⟩
def hd_l_true_vow : He5.DefA := ⟨fun K => He.ga K "_law_true_vow", "_law_true_vow", "_law_true_vow", defArgs s_l_true_vow, defBody s_l_true_vow, defScope s_l_true_vow, [], []⟩
def hd_l_names_of : He5.DefA := ⟨fun K => He.ga K "_law_names_of", "_law_names_of", "_law_names_of", defArgs s_l_names_of, defBody s_l_names_of, defScope s_l_names_of, [], []⟩
def hd_l_sort : He5.DefA := ⟨fun K => He.ga K "_law_sort", "_law_sort", "_law_sort", defArgs s_l_sort, defBody s_l_sort, defScope s_l_sort, [], []⟩
def hd_l_told : He5.DefA := ⟨fun K => He.ga K "_law_told", "_law_told", "_law_told", defArgs s_l_told, defBody s_l_told, defScope s_l_told, [], []⟩
def hd_l_sight : He5.DefA := ⟨fun K => He.ga K "_law_sight", "_law_sight", "_law_sight", defArgs s_l_sight, defBody s_l_sight, defScope s_l_sight, [], []⟩
def hd_l_due_sight : He5.DefA := ⟨fun K => He.ga K "_law_due_sight", "_law_due_sight", "_law_due_sight", defArgs s_l_due_sight, defBody s_l_due_sight, defScope s_l_due_sight, [], []⟩
def hd_l_put : He5.DefA := ⟨fun K => He.ga K "_law_put", "_law_put", "_law_put", defArgs s_l_put, defBody s_l_put, defScope s_l_put, [], []⟩
def hd_l_vowed : He5.DefA := ⟨fun K => He.ga K "_law_vowed", "_law_vowed", "_law_vowed", defArgs s_l_vowed, defBody s_l_vowed, defScope s_l_vowed, [], []⟩
def hd_l_removed : He5.DefA := ⟨fun K => He.ga K "_law_removed", "_law_removed", "_law_removed", defArgs s_l_removed, defBody s_l_removed, defScope s_l_removed, [], []⟩
def hd_l_lifted : He5.DefA := ⟨fun K => He.ga K "_law_lifted", "_law_lifted", "_law_lifted", defArgs s_l_lifted, defBody s_l_lifted, defScope s_l_lifted, [], []⟩
def hd_l_job : He5.DefA := ⟨fun K => He.ga K "_law_job", "_law_job", "_law_job", defArgs s_l_job, defBody s_l_job, defScope s_l_job, [], []⟩
def hd_l_due : He5.DefA := ⟨fun K => He.ga K "_law_due", "_law_due", "_law_due", defArgs s_l_due, defBody s_l_due, defScope s_l_due, [], []⟩
def hd_l_do : He5.DefA := ⟨fun K => He.ga K "_law_do", "_law_do", "_law_do", defArgs s_l_do, defBody s_l_do, defScope s_l_do, [], []⟩
def hd_l_moved : He5.DefA := ⟨fun K => He.ga K "_law_moved", "_law_moved", "_law_moved", defArgs s_l_moved, defBody s_l_moved, defScope s_l_moved, [], []⟩
def hd_l_right : He5.DefA := ⟨fun K => He.ga K "_law_right", "_law_right", "_law_right", defArgs s_l_right, defBody s_l_right, defScope s_l_right, [], []⟩
def hd_law : He5.DefA := ⟨fun K => He.ga K "law", "law", "law", defArgs s_law, defBody s_law, defScope s_law, [], []⟩
def hm_Desk_init : He5.DefA := ⟨fun K => He.ma K (He.ga K "Desk") "__init__", "__init__", "Desk.__init__", defArgs s_Desk_init, defBody s_Desk_init, defScope s_Desk_init, [], []⟩
def hm_Desk_contains : He5.DefA := ⟨fun K => He.ma K (He.ga K "Desk") "__contains__", "__contains__", "Desk.__contains__", defArgs s_Desk_contains, defBody s_Desk_contains, defScope s_Desk_contains, [], []⟩
def hm_Desk_len : He5.DefA := ⟨fun K => He.ma K (He.ga K "Desk") "__len__", "__len__", "Desk.__len__", defArgs s_Desk_len, defBody s_Desk_len, defScope s_Desk_len, [], []⟩
def hm_Desk_getitem : He5.DefA := ⟨fun K => He.ma K (He.ga K "Desk") "__getitem__", "__getitem__", "Desk.__getitem__", defArgs s_Desk_getitem, defBody s_Desk_getitem, defScope s_Desk_getitem, [], []⟩
def hm_Desk_setitem : He5.DefA := ⟨fun K => He.ma K (He.ga K "Desk") "__setitem__", "__setitem__", "Desk.__setitem__", defArgs s_Desk_setitem, defBody s_Desk_setitem, defScope s_Desk_setitem, [], []⟩
def hm_Desk_become : He5.DefA := ⟨fun K => He.ma K (He.ga K "Desk") "become", "become", "Desk.become", defArgs s_Desk_become, defBody s_Desk_become, defScope s_Desk_become, [], []⟩
def hm_Desk_remove : He5.DefA := ⟨fun K => He.ma K (He.ga K "Desk") "remove", "remove", "Desk.remove", defArgs s_Desk_remove, defBody s_Desk_remove, defScope s_Desk_remove, [], []⟩
def hm_Desk_promise : He5.DefA := ⟨fun K => He.ma K (He.ga K "Desk") "promise", "promise", "Desk.promise", defArgs s_Desk_promise, defBody s_Desk_promise, defScope s_Desk_promise, [], []⟩
def hm_Desk_lift : He5.DefA := ⟨fun K => He.ma K (He.ga K "Desk") "lift", "lift", "Desk.lift", defArgs s_Desk_lift, defBody s_Desk_lift, defScope s_Desk_lift, [], []⟩
def hm_Desk_undo : He5.DefA := ⟨fun K => He.ma K (He.ga K "Desk") "undo", "undo", "Desk.undo", defArgs s_Desk_undo, defBody s_Desk_undo, defScope s_Desk_undo, [], []⟩
def hm_InvalidIndex_init : He5.DefA := ⟨fun K => He.ma K (He.ga K "InvalidIndex") "__init__", "__init__", "InvalidIndex.__init__", defArgs s_InvalidIndex_init, defBody s_InvalidIndex_init, defScope s_InvalidIndex_init, [], []⟩
def hm_UnknownName_init : He5.DefA := ⟨fun K => He.ma K (He.ga K "UnknownName") "__init__", "__init__", "UnknownName.__init__", defArgs s_UnknownName_init, defBody s_UnknownName_init, defScope s_UnknownName_init, [], []⟩
def hm_InUse_init : He5.DefA := ⟨fun K => He.ma K (He.ga K "InUse") "__init__", "__init__", "InUse.__init__", defArgs s_InUse_init, defBody s_InUse_init, defScope s_InUse_init, [], []⟩
def hm_Broken_init : He5.DefA := ⟨fun K => He.ma K (He.ga K "Broken") "__init__", "__init__", "Broken.__init__", defArgs s_Broken_init, defBody s_Broken_init, defScope s_Broken_init, [], []⟩
def hp_names : He5.DefA := ⟨fun K => prG K "Desk" "names", "names", "Desk.names", defArgs s_Desk_names, defBody s_Desk_names, defScope s_Desk_names, [], []⟩
def hp_promises : He5.DefA := ⟨fun K => prG K "Desk" "promises", "promises", "Desk.promises", defArgs s_Desk_promises, defBody s_Desk_promises, defScope s_Desk_promises, [], []⟩
def hp_changes : He5.DefA := ⟨fun K => prG K "Desk" "changes", "changes", "Desk.changes", defArgs s_Desk_changes, defBody s_Desk_changes, defScope s_Desk_changes, [], []⟩
def fns0 : List He5.DefA := [hd_gcd, hd_lcm, hd_rest_by, hd_agree, hd_inverse, hd_met, hd_is_integer, hd_is_between, hd_is_name, hd_are_integers, hd_is_fact, hd_check_facts, hd_do_quarrel, hd_all_quarrels, hd_known_by, hd_is_sure, hd_unsure_ones, hd_is_promise, hd_names_in, hd_truth_of, hd_check_promise, hd_l_vial, hd_l_drop, hd_l_any]
def fns1 : List He5.DefA := [hd_l_mixed, hd_l_words, hd_l_shared, hd_l_maps, hd_l_keeps_fact, hd_l_fitting, hd_l_seen, hd_l_is_sure, hd_l_pair, hd_l_fact, hd_l_heap, hd_l_broken, hd_l_vow, hd_l_true_vow, hd_l_names_of, hd_l_sort, hd_l_told, hd_l_sight, hd_l_due_sight, hd_l_put, hd_l_vowed, hd_l_removed, hd_l_lifted, hd_l_job]
def fns2 : List He5.DefA := [hd_l_due, hd_l_do, hd_l_moved, hd_l_right, hd_law, hm_Desk_init, hm_Desk_contains, hm_Desk_len, hm_Desk_getitem, hm_Desk_setitem, hm_Desk_become, hm_Desk_remove, hm_Desk_promise, hm_Desk_lift, hm_Desk_undo, hm_InvalidIndex_init, hm_UnknownName_init, hm_InUse_init, hm_Broken_init, hp_names, hp_promises, hp_changes]
def fns : List He5.DefA := fns0 ++ fns1 ++ fns2
def fas0 : List He.Fa := [.glo "gcd", .glo "lcm", .glo "rest_by", .glo "agree", .glo "inverse", .glo "met", .glo "is_integer", .glo "is_between", .glo "is_name", .glo "are_integers", .glo "is_fact", .glo "check_facts", .glo "do_quarrel", .glo "all_quarrels", .glo "known_by", .glo "is_sure", .glo "unsure_ones", .glo "is_promise", .glo "names_in", .glo "truth_of", .glo "check_promise", .glo "_law_vial", .glo "_law_drop", .glo "_law_any", .glo "_law_mixed", .glo "_law_words", .glo "_law_shared", .glo "_law_maps", .glo "_law_keeps_fact", .glo "_law_fitting", .glo "_law_seen", .glo "_law_is_sure", .glo "_law_pair", .glo "_law_fact", .glo "_law_heap", .glo "_law_broken", .glo "_law_vow", .glo "_law_true_vow", .glo "_law_names_of", .glo "_law_sort"]
def fas1 : List He.Fa := [.glo "_law_told", .glo "_law_sight", .glo "_law_due_sight", .glo "_law_put", .glo "_law_vowed", .glo "_law_removed", .glo "_law_lifted", .glo "_law_job", .glo "_law_due", .glo "_law_do", .glo "_law_moved", .glo "_law_right", .glo "law", .glo "InvalidNumber", .glo "InvalidName", .glo "InvalidIndex", .glo "InvalidPromise", .glo "InvalidCommand", .glo "InvalidFacts", .glo "InvalidValues", .glo "InvalidPoints", .glo "UnknownName", .glo "InUse", .glo "NoMachine", .glo "TooMany", .glo "NothingToUndo", .glo "Broken", .glo "WrongValue", .glo "WrongName", .glo "NoAnswer", .glo "Desk", .glo "SIZES", .free "len", .free "abs", .free "isinstance", .free "all", .free "range", .free "enumerate", .free "sorted", .free "tuple"]
def fas2 : List He.Fa := [.free "str", .free "int", .free "bool", .free "list", .free "dict", .free "divmod", .free "max", .free "min", .free "repr", .free "ValueError", .free "LookupError", .free "ArithmeticError", .free "TypeError", .int "MOST_FACTS" 40, .int "LONGEST" 8, .str "LETTERS" lettersS, .cls "Desk", .noat "Desk" "held", .mkr "Desk", .meth "Desk" "__init__", .meth "Desk" "__contains__", .meth "Desk" "__len__", .meth "Desk" "__getitem__", .meth "Desk" "__setitem__", .meth "Desk" "become", .meth "Desk" "remove", .meth "Desk" "promise", .meth "Desk" "lift", .meth "Desk" "undo", .meth "InvalidIndex" "__init__", .meth "UnknownName" "__init__", .meth "InUse" "__init__", .meth "Broken" "__init__", .noat "InvalidIndex" "given", .noat "UnknownName" "given", .noat "InUse" "index", .noat "Broken" "index", .noat "Broken" "shown"]
def fas : List He.Fa := fas0 ++ fas1 ++ fas2
def exL (K : PySem.W.Frag) : List Bool := [exiB K "InvalidIndex" tlVE "ValueError.__new__",
  exiB K "UnknownName" tlLE "LookupError.__new__",
  exiB K "InUse" tlLE "LookupError.__new__",
  exiB K "Broken" tlAE "ArithmeticError.__new__",
  exnB K,
  sortB K "InvalidIndex" 2,
  sortB K "UnknownName" 8,
  sortB K "InUse" 9,
  sortB K "NothingToUndo" 12,
  sortB K "Broken" 13,
  xfB K (He.ga K "InvalidIndex"),
  xfB K (He.ga K "UnknownName"),
  xfB K (He.ga K "InUse"),
  xfB K (He.ga K "Broken"),
  cauB K "InvalidIndex",
  cauB K "UnknownName",
  cauB K "InUse",
  cauB K "NothingToUndo",
  cauB K "Broken",
  PySem.W.noSeq K (He.ga K "Desk"),
  PySem.W.fnIn K (He.ma K (He.ga K "Desk") "__getitem__"),
  He.valsB K (He.ga K "SIZES") [("sure", .int 5), ("as much", .int 3), ("together", .int 3)],
  prB K "Desk" "names",
  prB K "Desk" "promises",
  prB K "Desk" "changes",
  decide ((He.cT K ("_law_moved", none)).2 ≠ (He.cT K ("_law_right", none)).2)]
def exK (K : PySem.W.Frag) : Bool := (exL K).all id
def tss : List He.Tab := [(fun K => He.ga K "SIZES", ["sure", "as much", "together"])]
def tfs : List He.Defn := [("_law_moved", none), ("_law_right", none)]
def adr0 : List Addr := [3, 31, 51, 70, 89, 108, 127, 146, 165, 184, 196, 216, 235, 247, 267, 286, 298, 317, 589, 30, 50, 69, 88, 107, 126, 145, 164, 183, 195, 215, 234, 246, 266, 285, 297, 316, 588, 431, 32, 197, 248, 481, 489, 497, 590, 591, 480, 488, 496, 48, 67, 86, 105, 124, 143, 162, 181, 213, 232, 264]
def adr1 : List Addr := [283, 314, 473, 504, 511, 518, 525, 532, 539, 546, 551, 558, 565, 572, 579, 586, 21, 326, 333, 340, 347, 354, 361, 368, 375, 380, 385, 392, 399, 406, 411, 418, 425, 430, 438, 445, 452, 459, 600, 607, 614, 621, 628, 635, 640, 647, 652, 657, 664, 671, 676, 683, 688, 695, 702, 709, 716, 723, 728, 733]
def adr2 : List Addr := [740, 747, 752, 759, 766, 773, 780, 787, 794, 799, 20, 325, 332, 339, 346, 353, 360, 367, 374, 379, 384, 391, 398, 405, 410, 417, 424, 429, 437, 444, 451, 458, 599, 606, 613, 620, 627, 634, 639, 646, 651, 656, 663, 670, 675, 682, 687, 694, 701, 708, 715, 722, 727, 732, 739, 746, 751, 758, 765, 772]
def adr3 : List Addr := [779, 786, 793, 798, 47, 66, 85, 104, 123, 142, 161, 180, 212, 231, 263, 282, 313, 472, 503, 510, 517, 524, 531, 538, 545, 550, 557, 564, 571, 578, 585, 479, 487, 495]
def adr : List Addr := adr0 ++ adr1 ++ adr2 ++ adr3
abbrev AlK : Type := He.AlD × (List (Option (List (Option (Str × Int)))) × Bool)
def lookK (g : Addr → Option Obj) (K : PySem.W.Frag) : AlK := (He5.obsA fas fns K, (tss.map fun t => He.dicW K (t.1 K), exK K && He.tabsB g tfs K))
def obK (g : Addr → Option Obj) : AlK := lookK g (He.frT g adr)
def valK (w : World) : AlK := (He5.valA fns, (tss.map fun t => some (He.keysIn w.params t.2), true))
/-- what the end leans on -/
structure SaysK (w : World) (h : Heap) (K : PySem.W.Frag) : Prop where
  a : He5.SaysA fas fns K
  t : tss.map (fun t => He.dicW K (t.1 K)) = tss.map fun t => some (He.keysIn w.params t.2)
  e : exK K = true
  hd : ∀ p ∈ tfs, PySem.W.codeHdIn K (He.cT K p).1 (He.cT K p).2 = true
  out : ∀ p ∈ tfs, K.lookup (He.cT K p).2 = none
  emp : ∀ p ∈ tfs, h.get? (He.cT K p).2 = some { cls := .none, data := .fields #[] }
theorem look_says {w : World} {h : Heap} {as : List Addr} (e : lookK h.get? (He.frT h.get? as) = valK w) : SaysK w h (He.frT h.get? as) := by
  have e1 : He5.obsA fas fns (He.frT h.get? as) = He5.valA fns := congrArg (fun z : AlK => z.1) e
  have e2 : tss.map (fun t => He.dicW (He.frT h.get? as) (t.1 (He.frT h.get? as))) = tss.map fun t => some (He.keysIn w.params t.2) := congrArg (fun z : AlK => z.2.1) e
  have e3 : (exK (He.frT h.get? as) && He.tabsB h.get? tfs (He.frT h.get? as)) = true := congrArg (fun z : AlK => z.2.2) e
  obtain ⟨h1, h2⟩ := He.ba e3
  generalize hK : He.frT h.get? as = K at e1 e2 h1 h2
  have each : ∀ p ∈ tfs, PySem.W.codeHdIn K (He.cT K p).1 (He.cT K p).2 = true ∧ ∃ o, h.get? (He.cT K p).2 = some o ∧ He.emptyTab o = true := fun p hp => by
    obtain ⟨a, b⟩ := He.ba (List.all_eq_true.mp h2 p hp)
    refine ⟨a, ?_⟩
    split at b
    · rename_i o q
      exact ⟨o, q, b⟩
    · cases b
  refine ⟨e1, e2, h1, fun p hp => (each p hp).1, fun p hp => ?_, fun p hp => ?_⟩
  · obtain ⟨_, o, q, z⟩ := each p hp
    rw [← hK] at q ⊢
    exact He.frT_none q z
  · obtain ⟨_, o, q, z⟩ := each p hp
    rw [q, He.emptyTab_eq z]
def hookK : PySem.W.Hook where
  α := AlK
  obs := fun s => obK s.heap.get?
  val := valK
  says := fun w h => ∃ K : PySem.W.Frag, K.In h ∧ SaysK w h K
  of := fun _ _ e => ⟨_, He.frT_in, look_says e⟩
  keeps := fun _ _ _ ⟨K, hK, c⟩ k => ⟨K, PySem.W.Frag.In.keeps hK k, c.a, c.t, c.e, c.hd, c.out, fun p hp => k _ _ (c.emp p hp)⟩
/-! ### what the head tells -/
section
variable {K : PySem.W.Frag} {mg : Str → Option Value} {w : World} {h : Heap}
theorem defIn_of {x : Str} {st : Stmt} (m : mg x = some (.ref (He.ga K x))) (F : ∃ fd, L2.FunD K x x (defArgs st) (defBody st) (defScope st) [] [] (He.ga K x) fd) : DefIn K mg x st := F.elim fun fd F => ⟨m, F.kp, fd, He5.fun_of F⟩
theorem methIn_of {c m q : Str} {st : Stmt} (M : Meth K (He.ga K c) m (He.ma K (He.ga K c) m)) (F : ∃ fd, L2.FunD K m q (defArgs st) (defBody st) (defScope st) [] [] (He.ma K (He.ga K c) m) fd) : MethIn K c m q st := F.elim fun fd F => ⟨M.at_, M.fn, fd, He5.fun_of F⟩
theorem defC_of {x : Str} {st : Stmt} (m : mg x = some (.ref (He.ga K x))) (F : ∃ fd, L2.FunD K x x (defArgs st) (defBody st) (defScope st) [] [] (He.ga K x) fd) : DefC K mg x st (He.cT K (x, none)).1 := by
  obtain ⟨fd, F⟩ := F
  have F2 := He5.fun_of F
  obtain ⟨oc, od, kV, doc, pm, an, cdv, ct, osl, e, lk, hc⟩ := F2.ex
  obtain ⟨c, rfl⟩ := He.codeIn_ref hc
  refine ⟨m, F.kp, fd, F2, ?_⟩
  have e2 : He.codeOf K (x, none) = c := He.codeOf_eq (p := (x, none)) lk (by rw [e] <;> rfl)
  rw [e]
  exact congrArg Value.ref e2.symm
theorem SaysK.x (c : SaysK w h K) (i : Nat) {b : Bool} (hi : (exL K)[i]? = some b := by rfl) : b = true := List.all_eq_true.mp c.e b (List.mem_of_getElem? hi)

theorem SaysK.f (c : SaysK w h K) (X : K.In h) (G : h.Ns mainGlobals mg) : HdF K w mg := by
  refine {
    T := ?_, so := ?_, ca := ?_, tc := ?_, sz := ?_,
    d_gcd := defIn_of (He.glo_ok X G (c.a.fact 0 (f := .glo "gcd") rfl)) (c.a.def_ 0 (d := hd_gcd) rfl),
    d_lcm := defIn_of (He.glo_ok X G (c.a.fact 1 (f := .glo "lcm") rfl)) (c.a.def_ 1 (d := hd_lcm) rfl),
    d_rest_by := defIn_of (He.glo_ok X G (c.a.fact 2 (f := .glo "rest_by") rfl)) (c.a.def_ 2 (d := hd_rest_by) rfl),
    d_agree := defIn_of (He.glo_ok X G (c.a.fact 3 (f := .glo "agree") rfl)) (c.a.def_ 3 (d := hd_agree) rfl),
    d_inverse := defIn_of (He.glo_ok X G (c.a.fact 4 (f := .glo "inverse") rfl)) (c.a.def_ 4 (d := hd_inverse) rfl),
    d_met := defIn_of (He.glo_ok X G (c.a.fact 5 (f := .glo "met") rfl)) (c.a.def_ 5 (d := hd_met) rfl),
    d_is_integer := defIn_of (He.glo_ok X G (c.a.fact 6 (f := .glo "is_integer") rfl)) (c.a.def_ 6 (d := hd_is_integer) rfl),
    d_is_between := defIn_of (He.glo_ok X G (c.a.fact 7 (f := .glo "is_between") rfl)) (c.a.def_ 7 (d := hd_is_between) rfl),
    d_is_name := defIn_of (He.glo_ok X G (c.a.fact 8 (f := .glo "is_name") rfl)) (c.a.def_ 8 (d := hd_is_name) rfl),
    d_are_integers := defIn_of (He.glo_ok X G (c.a.fact 9 (f := .glo "are_integers") rfl)) (c.a.def_ 9 (d := hd_are_integers) rfl),
    d_is_fact := defIn_of (He.glo_ok X G (c.a.fact 10 (f := .glo "is_fact") rfl)) (c.a.def_ 10 (d := hd_is_fact) rfl),
    d_check_facts := defIn_of (He.glo_ok X G (c.a.fact 11 (f := .glo "check_facts") rfl)) (c.a.def_ 11 (d := hd_check_facts) rfl),
    d_do_quarrel := defIn_of (He.glo_ok X G (c.a.fact 12 (f := .glo "do_quarrel") rfl)) (c.a.def_ 12 (d := hd_do_quarrel) rfl),
    d_all_quarrels := defIn_of (He.glo_ok X G (c.a.fact 13 (f := .glo "all_quarrels") rfl)) (c.a.def_ 13 (d := hd_all_quarrels) rfl),
    d_known_by := defIn_of (He.glo_ok X G (c.a.fact 14 (f := .glo "known_by") rfl)) (c.a.def_ 14 (d := hd_known_by) rfl),
    d_is_sure := defIn_of (He.glo_ok X G (c.a.fact 15 (f := .glo "is_sure") rfl)) (c.a.def_ 15 (d := hd_is_sure) rfl),
    d_unsure_ones := defIn_of (He.glo_ok X G (c.a.fact 16 (f := .glo "unsure_ones") rfl)) (c.a.def_ 16 (d := hd_unsure_ones) rfl),
    d_is_promise := defIn_of (He.glo_ok X G (c.a.fact 17 (f := .glo "is_promise") rfl)) (c.a.def_ 17 (d := hd_is_promise) rfl),
    d_names_in := defIn_of (He.glo_ok X G (c.a.fact 18 (f := .glo "names_in") rfl)) (c.a.def_ 18 (d := hd_names_in) rfl),
    d_truth_of := defIn_of (He.glo_ok X G (c.a.fact 19 (f := .glo "truth_of") rfl)) (c.a.def_ 19 (d := hd_truth_of) rfl),
    d_check_promise := defIn_of (He.glo_ok X G (c.a.fact 20 (f := .glo "check_promise") rfl)) (c.a.def_ 20 (d := hd_check_promise) rfl),
    d_l_vial := defIn_of (He.glo_ok X G (c.a.fact 21 (f := .glo "_law_vial") rfl)) (c.a.def_ 21 (d := hd_l_vial) rfl),
    d_l_drop := defIn_of (He.glo_ok X G (c.a.fact 22 (f := .glo "_law_drop") rfl)) (c.a.def_ 22 (d := hd_l_drop) rfl),
    d_l_any := defIn_of (He.glo_ok X G (c.a.fact 23 (f := .glo "_law_any") rfl)) (c.a.def_ 23 (d := hd_l_any) rfl),
    d_l_mixed := defIn_of (He.glo_ok X G (c.a.fact 24 (f := .glo "_law_mixed") rfl)) (c.a.def_ 24 (d := hd_l_mixed) rfl),
    d_l_words := defIn_of (He.glo_ok X G (c.a.fact 25 (f := .glo "_law_words") rfl)) (c.a.def_ 25 (d := hd_l_words) rfl),
    d_l_shared := defIn_of (He.glo_ok X G (c.a.fact 26 (f := .glo "_law_shared") rfl)) (c.a.def_ 26 (d := hd_l_shared) rfl),
    d_l_maps := defIn_of (He.glo_ok X G (c.a.fact 27 (f := .glo "_law_maps") rfl)) (c.a.def_ 27 (d := hd_l_maps) rfl),
    d_l_keeps_fact := defIn_of (He.glo_ok X G (c.a.fact 28 (f := .glo "_law_keeps_fact") rfl)) (c.a.def_ 28 (d := hd_l_keeps_fact) rfl),
    d_l_fitting := defIn_of (He.glo_ok X G (c.a.fact 29 (f := .glo "_law_fitting") rfl)) (c.a.def_ 29 (d := hd_l_fitting) rfl),
    d_l_seen := defIn_of (He.glo_ok X G (c.a.fact 30 (f := .glo "_law_seen") rfl)) (c.a.def_ 30 (d := hd_l_seen) rfl),
    d_l_is_sure := defIn_of (He.glo_ok X G (c.a.fact 31 (f := .glo "_law_is_sure") rfl)) (c.a.def_ 31 (d := hd_l_is_sure) rfl),
    d_l_pair := defIn_of (He.glo_ok X G (c.a.fact 32 (f := .glo "_law_pair") rfl)) (c.a.def_ 32 (d := hd_l_pair) rfl),
    d_l_fact := defIn_of (He.glo_ok X G (c.a.fact 33 (f := .glo "_law_fact") rfl)) (c.a.def_ 33 (d := hd_l_fact) rfl),
    d_l_heap := defIn_of (He.glo_ok X G (c.a.fact 34 (f := .glo "_law_heap") rfl)) (c.a.def_ 34 (d := hd_l_heap) rfl),
    d_l_broken := defIn_of (He.glo_ok X G (c.a.fact 35 (f := .glo "_law_broken") rfl)) (c.a.def_ 35 (d := hd_l_broken) rfl),
    d_l_vow := defIn_of (He.glo_ok X G (c.a.fact 36 (f := .glo "_law_vow") rfl)) (c.a.def_ 36 (d := hd_l_vow) rfl),
    d_l_true_vow := defIn_of (He.glo_ok X G (c.a.fact 37 (f := .glo "_law_true_vow") rfl)) (c.a.def_ 37 (d := hd_l_true_vow) rfl),
    d_l_names_of := defIn_of (He.glo_ok X G (c.a.fact 38 (f := .glo "_law_names_of") rfl)) (c.a.def_ 38 (d := hd_l_names_of) rfl),
    d_l_sort := defIn_of (He.glo_ok X G (c.a.fact 39 (f := .glo "_law_sort") rfl)) (c.a.def_ 39 (d := hd_l_sort) rfl),
    d_l_told := defIn_of (He.glo_ok X G (c.a.fact 40 (f := .glo "_law_told") rfl)) (c.a.def_ 40 (d := hd_l_told) rfl),
    d_l_sight := defIn_of (He.glo_ok X G (c.a.fact 41 (f := .glo "_law_sight") rfl)) (c.a.def_ 41 (d := hd_l_sight) rfl),
    d_l_due_sight := defIn_of (He.glo_ok X G (c.a.fact 42 (f := .glo "_law_due_sight") rfl)) (c.a.def_ 42 (d := hd_l_due_sight) rfl),
    d_l_put := defIn_of (He.glo_ok X G (c.a.fact 43 (f := .glo "_law_put") rfl)) (c.a.def_ 43 (d := hd_l_put) rfl),
    d_l_vowed := defIn_of (He.glo_ok X G (c.a.fact 44 (f := .glo "_law_vowed") rfl)) (c.a.def_ 44 (d := hd_l_vowed) rfl),
    d_l_removed := defIn_of (He.glo_ok X G (c.a.fact 45 (f := .glo "_law_removed") rfl)) (c.a.def_ 45 (d := hd_l_removed) rfl),
    d_l_lifted := defIn_of (He.glo_ok X G (c.a.fact 46 (f := .glo "_law_lifted") rfl)) (c.a.def_ 46 (d := hd_l_lifted) rfl),
    d_l_job := defIn_of (He.glo_ok X G (c.a.fact 47 (f := .glo "_law_job") rfl)) (c.a.def_ 47 (d := hd_l_job) rfl),
    d_l_due := defIn_of (He.glo_ok X G (c.a.fact 48 (f := .glo "_law_due") rfl)) (c.a.def_ 48 (d := hd_l_due) rfl),
    d_l_do := defIn_of (He.glo_ok X G (c.a.fact 49 (f := .glo "_law_do") rfl)) (c.a.def_ 49 (d := hd_l_do) rfl),
    d_l_moved := defIn_of (He.glo_ok X G (c.a.fact 50 (f := .glo "_law_moved") rfl)) (c.a.def_ 50 (d := hd_l_moved) rfl),
    d_l_right := defIn_of (He.glo_ok X G (c.a.fact 51 (f := .glo "_law_right") rfl)) (c.a.def_ 51 (d := hd_l_right) rfl),
    d_law := defIn_of (He.glo_ok X G (c.a.fact 52 (f := .glo "law") rfl)) (c.a.def_ 52 (d := hd_law) rfl),
    m_Desk_init := methIn_of (He.meth_ok (c.a.fact 99 (f := .meth "Desk" "__init__") rfl)) (c.a.def_ 53 (d := hm_Desk_init) rfl),
    m_Desk_contains := methIn_of (He.meth_ok (c.a.fact 100 (f := .meth "Desk" "__contains__") rfl)) (c.a.def_ 54 (d := hm_Desk_contains) rfl),
    m_Desk_len := methIn_of (He.meth_ok (c.a.fact 101 (f := .meth "Desk" "__len__") rfl)) (c.a.def_ 55 (d := hm_Desk_len) rfl),
    m_Desk_getitem := methIn_of (He.meth_ok (c.a.fact 102 (f := .meth "Desk" "__getitem__") rfl)) (c.a.def_ 56 (d := hm_Desk_getitem) rfl),
    m_Desk_setitem := methIn_of (He.meth_ok (c.a.fact 103 (f := .meth "Desk" "__setitem__") rfl)) (c.a.def_ 57 (d := hm_Desk_setitem) rfl),
    m_Desk_become := methIn_of (He.meth_ok (c.a.fact 104 (f := .meth "Desk" "become") rfl)) (c.a.def_ 58 (d := hm_Desk_become) rfl),
    m_Desk_remove := methIn_of (He.meth_ok (c.a.fact 105 (f := .meth "Desk" "remove") rfl)) (c.a.def_ 59 (d := hm_Desk_remove) rfl),
    m_Desk_promise := methIn_of (He.meth_ok (c.a.fact 106 (f := .meth "Desk" "promise") rfl)) (c.a.def_ 60 (d := hm_Desk_promise) rfl),
    m_Desk_lift := methIn_of (He.meth_ok (c.a.fact 107 (f := .meth "Desk" "lift") rfl)) (c.a.def_ 61 (d := hm_Desk_lift) rfl),
    m_Desk_undo := methIn_of (He.meth_ok (c.a.fact 108 (f := .meth "Desk" "undo") rfl)) (c.a.def_ 62 (d := hm_Desk_undo) rfl),
    m_InvalidIndex_init := methIn_of (He.meth_ok (c.a.fact 109 (f := .meth "InvalidIndex" "__init__") rfl)) (c.a.def_ 63 (d := hm_InvalidIndex_init) rfl),
    m_UnknownName_init := methIn_of (He.meth_ok (c.a.fact 110 (f := .meth "UnknownName" "__init__") rfl)) (c.a.def_ 64 (d := hm_UnknownName_init) rfl),
    m_InUse_init := methIn_of (He.meth_ok (c.a.fact 111 (f := .meth "InUse" "__init__") rfl)) (c.a.def_ 65 (d := hm_InUse_init) rfl),
    m_Broken_init := methIn_of (He.meth_ok (c.a.fact 112 (f := .meth "Broken" "__init__") rfl)) (c.a.def_ 66 (d := hm_Broken_init) rfl),
    p_names := prB_ok (c.x 22 rfl), f_names := (c.a.def_ 67 (d := hp_names) rfl).elim fun fd F => ⟨fd, He5.fun_of F⟩,
    p_promises := prB_ok (c.x 23 rfl), f_promises := (c.a.def_ 68 (d := hp_promises) rfl).elim fun fd F => ⟨fd, He5.fun_of F⟩,
    p_changes := prB_ok (c.x 24 rfl), f_changes := (c.a.def_ 69 (d := hp_changes) rfl).elim fun fd F => ⟨fd, He5.fun_of F⟩,
    C := ⟨He.cls_ok (c.a.fact 96 (f := .cls "Desk") rfl), He.noat_ok (c.a.fact 97 (f := .noat "Desk" "held") rfl), (He.glo_ok X G (c.a.fact 70 (f := .glo "Desk") rfl))⟩,
    mks := (He.mkr_ok (c.a.fact 98 (f := .mkr "Desk") rfl)).makes, kp := (He.mkr_ok (c.a.fact 98 (f := .mkr "Desk") rfl)).kp,
    nq := (c.x 19 rfl), gi := (c.x 20 rfl),
    x_InvalidIndex := exiB_ok eb_VE (c.x 0 rfl) (He.glo_ok X G (c.a.fact 55 (f := .glo "InvalidIndex") rfl)),
    x_UnknownName := exiB_ok eb_LE (c.x 1 rfl) (He.glo_ok X G (c.a.fact 61 (f := .glo "UnknownName") rfl)),
    x_InUse := exiB_ok eb_LE (c.x 2 rfl) (He.glo_ok X G (c.a.fact 62 (f := .glo "InUse") rfl)),
    x_Broken := exiB_ok eb_AE (c.x 3 rfl) (He.glo_ok X G (c.a.fact 66 (f := .glo "Broken") rfl)),
    xn := exnB_ok (c.x 4 rfl) (He.glo_ok X G (c.a.fact 65 (f := .glo "NothingToUndo") rfl)),
    mf := He.int_ok X G (c.a.fact 93 (f := .int "MOST_FACTS" 40) rfl), lo := He.int_ok X G (c.a.fact 94 (f := .int "LONGEST" 8) rfl), le := He.str_ok X G (c.a.fact 95 (f := .str "LETTERS" lettersS) rfl) }
  · exact { len_ := He.free_ok X G (c.a.fact 72 (f := .free "len") rfl), abs_ := He.free_ok X G (c.a.fact 73 (f := .free "abs") rfl), isinstance := He.free_ok X G (c.a.fact 74 (f := .free "isinstance") rfl), all_ := He.free_ok X G (c.a.fact 75 (f := .free "all") rfl), range_ := He.free_ok X G (c.a.fact 76 (f := .free "range") rfl), enumerate := He.free_ok X G (c.a.fact 77 (f := .free "enumerate") rfl), sorted := He.free_ok X G (c.a.fact 78 (f := .free "sorted") rfl), tuple_ := He.free_ok X G (c.a.fact 79 (f := .free "tuple") rfl), str_ := He.free_ok X G (c.a.fact 80 (f := .free "str") rfl), int_ := He.free_ok X G (c.a.fact 81 (f := .free "int") rfl), bool_ := He.free_ok X G (c.a.fact 82 (f := .free "bool") rfl), list_ := He.free_ok X G (c.a.fact 83 (f := .free "list") rfl), dict_ := He.free_ok X G (c.a.fact 84 (f := .free "dict") rfl), divmod := He.free_ok X G (c.a.fact 85 (f := .free "divmod") rfl), max_ := He.free_ok X G (c.a.fact 86 (f := .free "max") rfl), min_ := He.free_ok X G (c.a.fact 87 (f := .free "min") rfl), repr_ := He.free_ok X G (c.a.fact 88 (f := .free "repr") rfl), ValueError := He.free_ok X G (c.a.fact 89 (f := .free "ValueError") rfl), LookupError := He.free_ok X G (c.a.fact 90 (f := .free "LookupError") rfl), ArithmeticError := He.free_ok X G (c.a.fact 91 (f := .free "ArithmeticError") rfl), TypeError := He.free_ok X G (c.a.fact 92 (f := .free "TypeError") rfl) }
  · exact {
      G := { g0 := (He.glo_ok X G (c.a.fact 53 (f := .glo "InvalidNumber") rfl)), g1 := (He.glo_ok X G (c.a.fact 54 (f := .glo "InvalidName") rfl)), g2 := (He.glo_ok X G (c.a.fact 55 (f := .glo "InvalidIndex") rfl)), g3 := (He.glo_ok X G (c.a.fact 56 (f := .glo "InvalidPromise") rfl)), g4 := (He.glo_ok X G (c.a.fact 57 (f := .glo "InvalidCommand") rfl)), g5 := (He.glo_ok X G (c.a.fact 58 (f := .glo "InvalidFacts") rfl)), g6 := (He.glo_ok X G (c.a.fact 59 (f := .glo "InvalidValues") rfl)), g7 := (He.glo_ok X G (c.a.fact 60 (f := .glo "InvalidPoints") rfl)), g8 := (He.glo_ok X G (c.a.fact 61 (f := .glo "UnknownName") rfl)), g9 := (He.glo_ok X G (c.a.fact 62 (f := .glo "InUse") rfl)), g10 := (He.glo_ok X G (c.a.fact 63 (f := .glo "NoMachine") rfl)), g11 := (He.glo_ok X G (c.a.fact 64 (f := .glo "TooMany") rfl)), g12 := (He.glo_ok X G (c.a.fact 65 (f := .glo "NothingToUndo") rfl)), g13 := (He.glo_ok X G (c.a.fact 66 (f := .glo "Broken") rfl)) },
      index := sortB_ok (c.x 5 rfl), unknown := sortB_ok (c.x 6 rfl), use := sortB_ok (c.x 7 rfl), undo := sortB_ok (c.x 8 rfl), broken := sortB_ok (c.x 9 rfl),
      xIndex := xfB_ok (c.x 10 rfl), xUnknown := xfB_ok (c.x 11 rfl), xUse := xfB_ok (c.x 12 rfl), xBroken := xfB_ok (c.x 13 rfl),
      nIndex := He.noat_ok (c.a.fact 113 (f := .noat "InvalidIndex" "given") rfl), nUnknown := He.noat_ok (c.a.fact 114 (f := .noat "UnknownName" "given") rfl), nUse := He.noat_ok (c.a.fact 115 (f := .noat "InUse" "index") rfl), nBroken := He.noat_ok (c.a.fact 116 (f := .noat "Broken" "index") rfl), nBroken2 := He.noat_ok (c.a.fact 117 (f := .noat "Broken" "shown") rfl) }
  · exact { index := cauB_ok (c.x 14 rfl), unknown := cauB_ok (c.x 15 rfl), use := cauB_ok (c.x 16 rfl), undo := cauB_ok (c.x 17 rfl), broken := cauB_ok (c.x 18 rfl) }
  · exact ⟨(He.glo_ok X G (c.a.fact 67 (f := .glo "WrongValue") rfl)), (He.glo_ok X G (c.a.fact 68 (f := .glo "WrongName") rfl)), (He.glo_ok X G (c.a.fact 69 (f := .glo "NoAnswer") rfl))⟩
  · have t := c.t
    have t1 : He.dicW K (He.ga K "SIZES") = some (He.keysIn w.params ["sure", "as much", "together"]) := (List.cons.inj t).1
    obtain ⟨es, n, kd⟩ := He.dicW_ok t1
    have v := (c.x 21 rfl)
    exact ⟨_, es, n, (He.glo_ok X G (c.a.fact 71 (f := .glo "SIZES") rfl)), kd, He.valsB_ok v (q := ("sure", .int 5)) (by simp), He.valsB_ok v (q := ("as much", .int 3)) (by simp), He.valsB_ok v (q := ("together", .int 3)) (by simp)⟩
end
end Kr

set_option Elab.async false
set_option linter.all false
set_option maxRecDepth 100000
set_option maxHeartbeats 1000000
set_option maxHeartbeats 0
/-! The run of the top. -/
namespace Kr
open PySem PySem.Spec PyProof.Rows L2
abbrev R : PySem.W.OpenRow := PySem.W.OpenLaw.row PySem.Challenge.rw_keptrests_k60_whole_desks_taken_back
abbrev qv : Program := PySem.W.view R.prog [82]
def loo0 : List Str := ["_wall", "__name__", "WrongValue", "InvalidNumber", "InvalidName", "InvalidIndex", "InvalidPromise", "InvalidCommand", "InvalidFacts", "InvalidValues", "InvalidPoints", "WrongName", "UnknownName", "InUse", "NoAnswer", "NoMachine", "TooMany", "NothingToUndo", "Broken", "MOST_FACTS"]
def loo1 : List Str := ["gcd", "lcm", "rest_by", "agree", "inverse", "met", "LETTERS", "LONGEST", "is_integer", "is_between", "is_name", "are_integers", "is_fact", "check_facts", "do_quarrel", "all_quarrels", "known_by", "is_sure", "unsure_ones", "SIZES"]
def loo2 : List Str := ["is_promise", "names_in", "truth_of", "check_promise", "Desk", "_law_vial", "_law_drop", "_law_any", "_law_mixed", "_law_words", "_law_shared", "_law_maps", "_law_keeps_fact", "_law_fitting", "_law_seen", "_law_is_sure", "_law_pair", "_law_fact", "_law_heap", "_law_broken"]
def loo3 : List Str := ["_law_vow", "_law_true_vow", "_law_names_of", "_law_sort", "_law_told", "_law_sight", "_law_due_sight", "_law_put", "_law_vowed", "_law_removed", "_law_lifted", "_law_job", "_law_due", "_law_do", "_law_moved", "_law_right"]
def loo : List Str := loo0 ++ loo1 ++ loo2 ++ loo3
def ob (s : PySem.W.SharedT) : AlK := obK (HandSHeadRun.getT s)
theorem ob_eq (s : PySem.W.SharedT) : ob s = hookK.obs s.abs := by
  have e : HandSHeadRun.getT s = s.abs.heap.get? := funext fun a => HandSHeadRun.getT_eq s a
  show obK (HandSHeadRun.getT s) = obK s.abs.heap.get?
  rw [e]
abbrev RunAt (w : World) : Prop := HandSHeadRun.RunEq R qv hookK ob 20000 loo w
theorem run_no (w : World) : RunAt (w.withFollow "special-get-raises" false) := by
  intro os
  kernel_rfl
end Kr

set_option Elab.async false
set_option linter.all false
set_option maxRecDepth 100000
set_option maxHeartbeats 1000000
set_option maxHeartbeats 0
/-! The run of the top. -/
namespace Kr
open PySem PySem.Spec PyProof.Rows L2
theorem run_yes (w : World) : RunAt (w.withFollow "special-get-raises" true) := by
  intro os
  kernel_rfl
end Kr

set_option Elab.async false
set_option linter.all false
set_option maxRecDepth 100000
set_option maxHeartbeats 1000000
/-! The law, at what the head tells. -/
namespace Kr
open PySem PySem.Spec PyProof.Rows L2 L2H LamX
theorem law_at {l : PySem.W.OpenLaw} {w : World} {h : Heap} {K : PySem.W.Frag} {mg : Str → Option Value} (X : K.In h) (G : h.Ns mainGlobals mg) (c : SaysK w h K) : LawG l w K 15 63 "_law_script" mg (He.ga K "law") h := by
  have F := c.f X G
  obtain ⟨fd, FL⟩ := F.d_law.fu
  have D1 : DefC K mg "_law_moved" s_l_moved (He.cT K ("_law_moved", none)).1 := defC_of F.d_l_moved.m (c.a.def_ 50 (d := hd_l_moved) rfl)
  have D2 : DefC K mg "_law_right" s_l_right (He.cT K ("_law_right", none)).1 := defC_of F.d_l_right.m (c.a.def_ 51 (d := hd_l_right) rfl)
  have ne : (He.cT K ("_law_moved", none)).2 ≠ (He.cT K ("_law_right", none)).2 := by
    have e := c.x 25 rfl
    exact of_decide_eq_true e
  generalize hT : ([((He.cT K ("_law_moved", none)).2, lamQ "_law_moved" s_l_moved), ((He.cT K ("_law_right", none)).2, lamQ "_law_right" s_l_right)] : List (Addr × Str)) = TL
  have i1 : ((He.cT K ("_law_moved", none)).2, lamQ "_law_moved" s_l_moved) ∈ TL := by rw [← hT]; exact List.mem_cons_self
  have i2 : ((He.cT K ("_law_right", none)).2, lamQ "_law_right" s_l_right) ∈ TL := by rw [← hT]; exact List.mem_cons_of_mem _ List.mem_cons_self
  have cs : ∀ q ∈ TL, q = ((He.cT K ("_law_moved", none)).2, lamQ "_law_moved" s_l_moved) ∨ q = ((He.cT K ("_law_right", none)).2, lamQ "_law_right" s_l_right) := fun q hq => by
    rw [← hT] at hq
    rcases List.mem_cons.mp hq with e | hq
    · exact .inl e
    · exact .inr (List.mem_singleton.mp hq)
  have u1 : ∀ p ∈ TL, p.1 = (He.cT K ("_law_moved", none)).2 → p.2 = lamQ "_law_moved" s_l_moved := fun p hp e => by
    rcases cs p hp with rfl | rfl
    · rfl
    · exact absurd e.symm ne
  have u2 : ∀ p ∈ TL, p.1 = (He.cT K ("_law_right", none)).2 → p.2 = lamQ "_law_right" s_l_right := fun p hp e => by
    rcases cs p hp with rfl | rfl
    · exact absurd e ne
    · rfl
  have m1 : (("_law_moved", none) : He.Defn) ∈ tfs := List.mem_cons_self
  have m2 : (("_law_right", none) : He.Defn) ∈ tfs := List.mem_cons_of_mem _ List.mem_cons_self
  refine ⟨fd, [He.cT K ("_law_moved", none), He.cT K ("_law_right", none)], spLawQ K TL, fun p hp => ?_, fun p hp => ?_, fun p hp => ?_, fun s u => ?_, fun H a ns hl _ ht hs => ?_, fun base KB GB tb => ?_⟩
  · rcases List.mem_cons.mp hp with rfl | hp
    · exact c.emp _ m1
    · rw [List.mem_singleton.mp hp]
      exact c.emp _ m2
  · rcases List.mem_cons.mp hp with rfl | hp
    · exact c.out _ m1
    · rw [List.mem_singleton.mp hp]
      exact c.out _ m2
  · rcases List.mem_cons.mp hp with rfl | hp
    · exact PySem.W.codeHd_of_K X (c.hd _ m1)
    · rw [List.mem_singleton.mp hp]
      exact PySem.W.codeHd_of_K X (c.hd _ m2)
  · obtain ⟨oc, od, kV, doc, pm, an, cdv, ct, osl, rfl, _⟩ := FL.ex
    exact BindsTo.of_eq rfl
  · refine ⟨a, ns, rfl, hs, by omega, fun q hq => ?_, fun _ => rfl⟩
    rcases cs q hq with rfl | rfl
    · exact .nil (ht _ List.mem_cons_self)
    · exact .nil (ht _ (List.mem_cons_of_mem _ List.mem_cons_self))
  · exact law_all F D1 D2 (tb _ List.mem_cons_self) (tb _ (List.mem_cons_of_mem _ List.mem_cons_self)) i1 i2 u1 u2 fd FL
end Kr

set_option Elab.async false
set_option linter.all false
set_option maxRecDepth 100000
set_option maxHeartbeats 0
open PySem PySem.W PySem.Calls PyProof.Rows
theorem PySem.Challenge.cw_keptrests_k60_whole_desks_taken_back_holds : PySem.Challenge.rw_keptrests_k60_whole_desks_taken_back.Holds := by
  w_on; o_law
  refine HandSHeadRun.head_any (r := Kr.R) (q := Kr.qv) (H := Kr.hookK) (ob := Kr.ob) (M := 20000) (loose := Kr.loo) (d := HandSHeadRun.topDef Kr.R.prog 82) (kwd := []) Kr.ob_eq
    (by kernel_rfl) (fun s => by kernel_rfl) (fun w => byRow2 "special-get-raises" (P := Kr.RunAt) Kr.run_no Kr.run_yes w) (by kernel_rfl) (by kernel_rfl) (by kernel_rfl) (by rfl) (by first | assumption | decide +kernel) (by decide +kernel) ⟨rfl, rfl, rfl, rfl, rfl, by decide +kernel⟩ ?hw ?hc
  case hw => w_witness2
  case hc =>
    refine Kr.walk_ofG (l := PySem.Challenge.rw_keptrests_k60_whole_desks_taken_back) (n := 63) (k := 15) (x := "_law_script") rfl (by decide) (by kernel_rfl) ⟨rfl, by decide, by decide⟩ ?F
    intro w mg fa h Y G hmg0
    obtain ⟨K, KX, c⟩ := Y
    have e : (HandSHeadRun.topDef Kr.R.prog 82).name = ("law" : PySem.Str) := by kernel_rfl
    rw [e] at hmg0
    have e2 := hmg0.symm.trans (c.f KX G).d_law.m
    cases e2
    exact ⟨K, KX, Kr.law_at KX G c⟩

