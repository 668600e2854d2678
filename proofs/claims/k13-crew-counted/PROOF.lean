import PyProof.Rows.All
import Wide.All
import OpenK.AllK
import Wide.FinOn
import HandS.Head2
import HandS.HeadEnd
import HandS.HeadHook2
import HandS.Words
import HandS.Defaults
import HandS.ForMost
import HandS.Exc
import HandS.ExcOwn
import HandS.TryMany
import HandS.TryOnly
import HandS.WordsExc
import HandS.Property
import HandS.IsInst
import HandS.Style
import HandS.IterVal
import HandS.Flow
import HandS.SortInts
import HandS.Strs
import HandS.Wide
import KE.KOpsOwn
import KE.KExcSuper
import HandS.ExcInit
import HandS.ExcField
import HandS.ExcIs
import HandS.Zip
import HandS.Iter
import KE.KOwnIter
import HandS.Conv
import HandS.Replace
import PySem.Challenge.RW_beatswatched_k13_crew_counted
set_option Elab.async false
set_option linter.all false
set_option maxRecDepth 100000
set_option maxHeartbeats 4000000
namespace Bw
open PySem PySem.Spec PyProof.Rows L2
/-- a def told by where it stands -/
structure DX where
  pl : PySem.W.Frag → Addr
  nm : Str
  qn : Str
  st : Stmt
  cl : List Str := []
abbrev FnW : Type := Option (Str × Str × Arguments × FuncBody × Scope × Addr × List Str × Addr)
abbrev DX.val (d : DX) : FnW :=
  some (d.nm, d.qn, defArgs d.st, .stmts (defBody d.st), defScope d.st, mainGlobals, d.cl, builtinsNs)
/-- what the written part has at that place -/
def seenAt (K : PySem.W.Frag) (a : Addr) : FnW :=
  match K.lookup a with
  | some o => (match o.data with
    | .func fd => some (fd.name, fd.qualname, fd.params, fd.body, fd.scope, fd.globals, fd.closure.map (·.1), fd.builtins)
    | _ => none)
  | none => none
def codeOkAt (K : PySem.W.Frag) (a : Addr) (q : Str) : Bool :=
  PySem.W.keepIn K (.ref a) && (match K.lookup a with
    | some o => (match o.data with
      | .func fd => PySem.W.codeIn K fd.code q && (match fd.defaults with | .none => true | _ => false)
      | _ => false)
    | none => false)
/-- a def of no default, as it stands -/
abbrev FnX (K : PySem.W.Frag) (d : DX) (fd : FuncData) : Prop := Fun K d.nm d.qn d.st (d.pl K) fd
theorem funX {K : PySem.W.Frag} {d : DX} (hc : d.cl = []) (h1 : seenAt K (d.pl K) = d.val) (h2 : codeOkAt K (d.pl K) d.qn = true) : ∃ fd, FnX K d fd := by
  obtain ⟨kp, c⟩ := He.ba h2
  unfold seenAt at h1
  cases e : K.lookup (d.pl K) with
  | none => rw [e] at c; cases c
  | some o =>
    obtain ⟨oc, od, dt, osl⟩ := o
    rw [e] at c h1
    cases dt with
    | func fd =>
      obtain ⟨n1, n2, n3, n4, n5, n6, n7, n8, n9, n10, n11, n12, n13, n14, n15⟩ := fd
      simp only [DX.val, Option.some.injEq, Prod.mk.injEq] at h1
      obtain ⟨h1, h2, h3, h4, h5, h6, h7, h8⟩ := h1
      rw [hc] at h7
      have h7 := List.map_eq_nil_iff.mp h7
      subst h1 h2 h3 h4 h5 h6 h7 h8
      obtain ⟨k1, k2⟩ := He.ba c
      cases n8 with
      | none => exact ⟨_, ⟨oc, od, n9, n10, n11, n12, n13, n14, osl, rfl, e, k1⟩, kp⟩
      | _ => cases k2
    | _ => cases c
abbrev AlX : Type := Bool × List FnW
def obsX (fx : PySem.W.Frag → Bool) (fn : List DX) (K : PySem.W.Frag) : AlX :=
  (fx K && fn.all fun d => codeOkAt K (d.pl K) d.qn, fn.map fun d => seenAt K (d.pl K))
def valX (fn : List DX) : AlX := (true, fn.map DX.val)
def SaysX (fx : PySem.W.Frag → Bool) (fn : List DX) (K : PySem.W.Frag) : Prop := obsX fx fn K = valX fn
def obsXG (n : Nat) (fx : PySem.W.Frag → Bool) (fn : List DX) (g : Addr → Option Obj) : AlX := obsX fx fn (He.frG g (cStatics :: He.asD g n))
def hookX (n : Nat) (fx : PySem.W.Frag → Bool) (fn : List DX) : PySem.W.Hook where
  α := AlX
  obs s := obsXG n fx fn s.heap.get?
  val _ := valX fn
  says _ h := ∃ K : PySem.W.Frag, K.In h ∧ SaysX fx fn K
  of _ _ e := ⟨_, He.frG_in, e⟩
  keeps := fun _ _ _ q k => q.elim fun K c => ⟨K, PySem.W.Frag.In.keeps c.1 k, c.2⟩
theorem obsXG_eq {n : Nat} {fx : PySem.W.Frag → Bool} {fn : List DX} {g : Addr → Option Obj} {s : Shared}
    (h : ∀ a, g a = s.heap.get? a) : obsXG n fx fn g = (hookX n fx fn).obs s := by
  rw [show g = s.heap.get? from funext h] <;> rfl
section
variable {fx : PySem.W.Frag → Bool} {fn : List DX} {K : PySem.W.Frag}
theorem SaysX.facts (c : SaysX fx fn K) : fx K = true :=
  (He.ba (show (fx K && fn.all fun d => codeOkAt K (d.pl K) d.qn) = true from congrArg Prod.fst c)).1
theorem SaysX.seen (c : SaysX fx fn K) (i : Nat) {d : DX} (h : fn[i]? = some d) : seenAt K (d.pl K) = d.val ∧ codeOkAt K (d.pl K) d.qn = true := by
  have c2 := (He.ba (show (fx K && fn.all fun d => codeOkAt K (d.pl K) d.qn) = true from congrArg Prod.fst c)).2
  have e2 := congrArg (fun l : List FnW => l[i]?) (show (fn.map fun d => seenAt K (d.pl K)) = fn.map DX.val from congrArg Prod.snd c)
  simp only [List.getElem?_map, h, Option.map_some, Option.some.injEq] at e2
  exact ⟨e2, List.all_eq_true.mp c2 d (List.mem_of_getElem? h)⟩
theorem SaysX.def_ (c : SaysX fx fn K) (i : Nat) {d : DX} (h : fn[i]? = some d) (hc : d.cl = [] := by rfl) : ∃ fd, FnX K d fd := by
  obtain ⟨h1, h2⟩ := c.seen i h
  exact funX hc h1 h2
end
theorem three {α X Y B C : Type _} {e : Option α} {f1 : α → X} {f2 : α → Y} {ob : α → B × C} {g : α → B} {h : α → C} {x : X} {y : Y} {b : B} {c : C} {v : B × C} (ho : ∀ s, ob s = (g s, h s)) (hv : v = (b, c)) (h1 : e.map (fun s => (f1 s, f2 s)) = some (x, y)) (h2 : e.map g = some b) (h3 : e.map h = some c) :
    e.map (fun s => (f1 s, f2 s, ob s)) = some (x, y, v) := by
  cases e with
  | none => cases h1
  | some s =>
    cases Option.some.inj h2
    cases Option.some.inj h3
    have := Option.some.inj h1
    show some (f1 s, f2 s, ob s) = _
    rw [ho, hv, show f1 s = x from congrArg Prod.fst this, show f2 s = y from congrArg Prod.snd this]
/-- the same, of every object below an address -/
def obsRG (n : Nat) (fx : PySem.W.Frag → Bool) (fn : List DX) (g : Addr → Option Obj) : AlX := obsX fx fn (He.frG g (List.range n))
def hookR (n : Nat) (fx : PySem.W.Frag → Bool) (fn : List DX) : PySem.W.Hook where
  α := AlX
  obs s := obsRG n fx fn s.heap.get?
  val _ := valX fn
  says _ h := ∃ K : PySem.W.Frag, K.In h ∧ SaysX fx fn K
  of _ _ e := ⟨_, He.frG_in, e⟩
  keeps := fun _ _ _ q k => q.elim fun K c => ⟨K, PySem.W.Frag.In.keeps c.1 k, c.2⟩
theorem obsRG_eq {n : Nat} {fx : PySem.W.Frag → Bool} {fn : List DX} {g : Addr → Option Obj} {s : Shared}
    (h : ∀ a, g a = s.heap.get? a) : obsRG n fx fn g = (hookR n fx fn).obs s := by
  rw [show g = s.heap.get? from funext h] <;> rfl
end Bw

namespace Bw
open PySem PySem.Spec PyProof.Rows L2
theorem not_ni {x : V} {u : Value} (r : RelV x u) : u ≠ .notImplemented := by
  intro e
  subst e
  cases x with
  | non => exact nomatch (show Value.notImplemented = Value.none from r)
  | bl b => exact nomatch (show Value.notImplemented = Value.bool b from r)
  | int i => obtain ⟨t, q⟩ := (show ∃ t, Value.notImplemented = Value.int i t from r); cases q
  | str i => obtain ⟨t, q⟩ := (show ∃ t, Value.notImplemented = Value.str i t from r); cases q
  | byt i => obtain ⟨t, q⟩ := (show ∃ t, Value.notImplemented = Value.bytes i t from r); cases q
  | flt i => obtain ⟨t, q⟩ := (show ∃ t, Value.notImplemented = Value.float i t from r); cases q
  | ref a => exact nomatch (show Value.notImplemented = Value.ref a from r)
  | ty n => exact nomatch (show Value.notImplemented = Value.type n from r)
theorem cmp_back {Q : Value → Shared → Prop} {u : Value} {s : Shared} (h : u ≠ .notImplemented) (q : Q u s) : PySem.W.CmpBack Q u s := by
  cases u <;> first | exact q | exact absurd rfl h
/-- what the written part says of an operator's method -/
structure OpF (K : PySem.W.Frag) (C : Addr) (nm : String) (f : Addr) : Prop where
  self : PySem.W.selfFirst K C = true
  at_ : PySem.W.findIn K (.ref C) (PySem.dunder nm) = some (some (.ref f))
  fn : PySem.W.isFn K (.ref f) = true
  rr : ∃ rc, PySem.W.findIn K (.ref C) (PySem.dunderR nm) = some rc ∧ (rc = none ∨ ∃ g : Addr, rc = some (.ref g))
  sub : PySem.W.subIn K (.type "int") (.ref C) = some false
def refO : Option (Option Value) → Bool
  | some none => true
  | some (some (.ref _)) => true
  | _ => false
def opFB (K : PySem.W.Frag) (C : Addr) (nm : String) : Bool :=
  PySem.W.selfFirst K C && (He.eqO (PySem.W.findIn K (.ref C) (PySem.dunder nm)) (some (some (.ref (He.ma K C (PySem.dunder nm))))) && (PySem.W.isFn K (.ref (He.ma K C (PySem.dunder nm))) &&
    (refO (PySem.W.findIn K (.ref C) (PySem.dunderR nm)) && decide (PySem.W.subIn K (.type "int") (.ref C) = some false))))
theorem opF_ok {K : PySem.W.Frag} {C : Addr} {nm : String} (h : opFB K C nm = true) : OpF K C nm (He.ma K C (PySem.dunder nm)) := by
  obtain ⟨h1, h⟩ := He.ba h
  obtain ⟨h2, h⟩ := He.ba h
  obtain ⟨h3, h⟩ := He.ba h
  obtain ⟨h4, h5⟩ := He.ba h
  refine ⟨h1, He.eqO_ok h2, h3, ?_, of_decide_eq_true h5⟩
  cases e : PySem.W.findIn K (.ref C) (PySem.dunderR nm) with
  | none => rw [e] at h4; cases h4
  | some r =>
    rw [e] at h4
    cases r with
    | none => exact ⟨_, rfl, .inl rfl⟩
    | some v =>
      cases v with
      | ref g => exact ⟨_, rfl, .inr ⟨g, rfl⟩⟩
      | _ => cases h4
/-- what a def's call asks: it stands, it has room, its arguments bind, what leaves it is wished -/
structure Call1 (X : Cx) (W : WX) (k : Nat) (f : Addr) (sp : Sp) : Prop where
  ex : ∃ (fd : FuncData) (ps : List Str), FnOk X.prog X.w X.K X.mg X.base (L2.CX X.prog X.w) k f fd ps sp ∧ Binds X.K fd ps []
  room : Room k X.A
  tk : Takes X W
section
variable {X : Cx} {W : WX} {k : Nat} {f g C : Addr} {sp : Sp} {a b o e : Expr} {es : List Expr} {ta tb : TE} {t : TA} {pos apos p : Pos} {pins : List (Addr × Obj)} {σ : L2.St} {H : Hp} {s : Shared} {Q : VK} {nm : String} {m x : Str}
theorem Call1.run (G : Call1 X W k f sp) {vs : List V} {us : List Value} (I : Inv X pins σ H s) (r : Vals vs us) (h : sp vs H Q (WE W σ)) :
    wpAny (model X.prog X.w) X.A (call (.ref f) us) (EP X pins σ Q) X.xe s := by
  obtain ⟨fd, ps, F, B⟩ := G.ex
  exact run_fnS (E := WE W) F G.room B (passAt G.tk σ) I r h
theorem Call1.back (G : Call1 X W k f sp) {vs : List V} {us : List Value} (I : Inv X pins σ H s) (r : Vals vs us) (h : sp vs H Q (WE W σ)) :
    wpAny (model X.prog X.w) X.A (call (.ref f) us) (PySem.W.CmpBack (EP X pins σ Q)) X.xe s :=
  wpAny_mono (G.run I r h) (fun u s' q => cmp_back (by obtain ⟨v, _, _, rv, _⟩ := q; exact not_ni rv) q) fun _ _ z => z
/-- f(e, ..) -/
def tC1 (sp : Sp) (W : WX) (t : TA) : TE := fun σ H Q => t σ H fun vs H1 => sp vs H1 Q (WE W σ)
theorem pe_c1 (G : Call1 X W k f sp) (hm : X.mg x = some (.ref f)) (hk : PySem.W.keepIn X.K (.ref f) = true) (hg : Gl X x) (ha : PA X (e :: es) t) (hdb : (x == ("__debug__" : Str)) = false := by decide)
    (he : starEach (e :: es) X.env = (false, eval e X.env) :: starEach es X.env := by rfl) (hpl : (backTo pos (starEach es X.env)).any (·.1) = false := by rfl) : PE X (.Call (.Name x p) (e :: es) [] pos) (tC1 sp W t) := by
  refine ⟨fun pins s σ H Q I h => ?_⟩
  refine wpAny_Call_Name_kw (ld_glob I hg hm ?_ hdb)
  refine PySem.W.callWith_K (h₀ := X.base) I.ok.mod.kin hk ?_ he hpl
  refine thn (ha.run pos pins s σ H _ I h) fun us s1 hh => ?_
  obtain ⟨vs, H1, I1, r, q⟩ := hh
  exact ⟨I1.kIn, G.run I1 r q⟩
/-- a op b, a an instance of the class at C with that operator; b of the class too -/
def tBinI (C : Addr) (sp : Sp) (W : WX) (ta tb : TE) : TE := fun σ H Q => ta σ H fun x H1 => tb σ H1 fun y H2 =>
  ∃ a dx fs b dy gs, x = .ref a ∧ H2 a = some (.ins C dx fs) ∧ y = .ref b ∧ H2 b = some (.ins C dy gs) ∧ sp [x, y] H2 Q (WE W σ)
/-- .. b an int -/
def tBinN (C : Addr) (sp : Sp) (W : WX) (ta tb : TE) : TE := fun σ H Q => ta σ H fun x H1 => tb σ H1 fun y H2 =>
  ∃ a dx fs i, x = .ref a ∧ H2 a = some (.ins C dx fs) ∧ y = .int i ∧ sp [x, y] H2 Q (WE W σ)
theorem inst_at (I : Inv X pins σ H s) {a dx : Addr} {fs : List (Str × V)} (h : H a = some (.ins C dx fs)) : ∃ od, PySem.W.InstAt s.heap a (PySem.W.instObj C dx) C (some od) := by
  obtain ⟨mA, J, _⟩ := ins_get I.hok h
  obtain ⟨od, J, _⟩ := J.look
  exact ⟨od, J⟩
theorem pe_binI {op : Operator} (O : OpF X.K C op.info.2 f) (G : Call1 X W k f sp) (ha : PE X a ta) (hb : PE X b tb) : PE X (.BinOp a op b pos) (tBinI C sp W ta tb) := by
  refine ⟨fun pins s σ H Q I h => ?_⟩
  refine wpAny_BinOp (binT ha hb I h fun v u s2 x y H2 I2 rx ry q => ?_)
  obtain ⟨a, dx, fs, b, dy, gs, rfl, h1, rfl, h2, q⟩ := q
  cases rx; cases ry
  obtain ⟨od, J⟩ := inst_at I2 h1
  obtain ⟨od', J'⟩ := inst_at I2 h2
  obtain ⟨m, hF⟩ := I2.fr
  exact PySem.W.binop_K hF I2.ok.mod.kin J J'.type O.self O.at_ O.fn (G.back (vs := [.ref a, .ref b]) I2 (.cons rfl (.cons rfl .nil)) q)
theorem pe_binN {op : Operator} (O : OpF X.K C op.info.2 f) (G : Call1 X W k f sp) (h1 : (fastLookup "int" (PySem.dunder op.info.2)).isSome = true) (h2 : (fastLookup "int" (PySem.dunderR op.info.2)).isSome = true)
    (ha : PE X a ta) (hb : PE X b tb) : PE X (.BinOp a op b pos) (tBinN C sp W ta tb) := by
  refine ⟨fun pins s σ H Q I h => ?_⟩
  refine wpAny_BinOp (binT ha hb I h fun v u s2 x y H2 I2 rx ry q => ?_)
  obtain ⟨a, dx, fs, i, rfl, h3, rfl, q⟩ := q
  cases rx
  obtain ⟨tk, rfl⟩ := (show ∃ t, u = Value.int i t from ry)
  obtain ⟨od, J⟩ := inst_at I2 h3
  obtain ⟨m, hF⟩ := I2.fr
  obtain ⟨rc, r1, r2⟩ := O.rr
  obtain ⟨fo, h1⟩ := Option.isSome_iff_exists.mp h1
  obtain ⟨ro, h2⟩ := Option.isSome_iff_exists.mp h2
  exact PySem.W.ksp_binT (T := "int") hF I2.ok.mod.kin J rfl O.self O.at_ O.fn r1 r2 h1 h2 O.sub (G.back (vs := [.ref a, .int i]) I2 (.cons rfl (.cons ⟨tk, rfl⟩ .nil)) q)
/-- -a, ~a -/
def tUnI (C : Addr) (sp : Sp) (W : WX) (ta : TE) : TE := fun σ H Q => ta σ H fun x H1 => ∃ a dx fs, x = .ref a ∧ H1 a = some (.ins C dx fs) ∧ sp [x] H1 Q (WE W σ)
theorem pe_negI (h1 : PySem.W.findIn X.K (.ref C) "__neg__" = some (some (.ref f))) (h2 : PySem.W.isFn X.K (.ref f) = true) (G : Call1 X W k f sp) (ha : PE X a ta) : PE X (.UnaryOp .USub a pos) (tUnI C sp W ta) := by
  refine ⟨fun pins s σ H Q I h => ?_⟩
  refine UnaryOp_ (thn (ha.run pins s σ H _ I h) fun v s1 hh => ?_)
  obtain ⟨x, H1, I1, r1, a, dx, fs, rfl, h3, q⟩ := hh
  cases r1
  obtain ⟨od, J⟩ := inst_at I1 h3
  obtain ⟨m, hF⟩ := I1.fr
  exact PySem.W.ksp_neg hF I1.ok.mod.kin J h1 h2 (G.run (vs := [.ref a]) I1 (.cons rfl .nil) q)
theorem pe_invI (h1 : PySem.W.findIn X.K (.ref C) "__invert__" = some (some (.ref f))) (h2 : PySem.W.isFn X.K (.ref f) = true) (G : Call1 X W k f sp) (ha : PE X a ta) : PE X (.UnaryOp .Invert a pos) (tUnI C sp W ta) := by
  refine ⟨fun pins s σ H Q I h => ?_⟩
  refine UnaryOp_ (thn (ha.run pins s σ H _ I h) fun v s1 hh => ?_)
  obtain ⟨x, H1, I1, r1, a, dx, fs, rfl, h3, q⟩ := hh
  cases r1
  obtain ⟨od, J⟩ := inst_at I1 h3
  obtain ⟨m, hF⟩ := I1.fr
  exact PySem.W.ksp_inv hF I1.ok.mod.kin J h1 h2 (G.run (vs := [.ref a]) I1 (.cons rfl .nil) q)
/-- o.m(..) -/
def tM1 (C : Addr) (m : Str) (sp : Sp) (W : WX) (ta : TE) (t : TA) : TE := fun σ H Q => ta σ H fun x H1 => ∃ a dx fs, x = .ref a ∧ H1 a = some (.ins C dx fs) ∧ fs.lookup m = none ∧ t σ H1 fun vs H2 => sp (.ref a :: vs) H2 Q (WE W σ)
theorem pe_m1 {pl : Sem Bool} (c : Cls X.K C) (hm : Meth X.K C m f) (G : Call1 X W k f sp) (he : PE X o ta) (ha : PA X (e :: es) t)
    (hst : starEach (e :: es) X.env = (false, eval e X.env) :: starEach es X.env := by rfl) (hpl : (backTo pos (starEach es X.env)).any (·.1) = false := by rfl)
    (ht : eval (.Call (.Attribute o m apos) (e :: es) [] pos) X.env = (do
      let ov ← eval o X.env
      standAt apos.atName
      let (f, first) ← holding [ov] (getMethod ov m pl)
      callWith pos f first (backTo pos (starEach (e :: es) X.env)) (backToKw pos (keywordEach [] X.env))) := by rfl) :
    PE X (.Call (.Attribute o m apos) (e :: es) [] pos) (tM1 C m sp W ta t) := by
  refine ⟨fun pins s σ H Q I h => ?_⟩
  refine PySem.W.methodCall_KW (pl := pl) (thn (he.run pins s σ H _ I h) fun u s1 hh => ?_) ht
  obtain ⟨x, H1, I1, rx, a, dx, fs, rfl, ea, l, q⟩ := hh
  obtain rfl : u = Value.ref a := rx
  refine getmeth_ok I1 ea c hm l ?_
  refine PySem.W.callWith_K (first := [.ref a]) (h₀ := X.base) I.ok.mod.kin hm.kp (thn (ha.run pos pins s1 σ H1 _ I1 q) fun us s2 hh => ?_) hst hpl
  obtain ⟨vs, H2, I2, r, q2⟩ := hh
  exact ⟨I2.kIn, G.run (vs := .ref a :: vs) I2 (.cons rfl r) q2⟩
theorem pe_m0 {pl : Sem Bool} (c : Cls X.K C) (hm : Meth X.K C m f) (G : Call1 X W k f sp) (he : PE X o ta)
    (ht : eval (.Call (.Attribute o m apos) [] [] pos) X.env = (do
      let ov ← eval o X.env
      standAt apos.atName
      let (f, first) ← holding [ov] (getMethod ov m pl)
      callWith pos f first (backTo pos (starEach [] X.env)) (backToKw pos (keywordEach [] X.env))) := by rfl) :
    PE X (.Call (.Attribute o m apos) [] [] pos) (tM1 C m sp W ta tNil) := by
  refine ⟨fun pins s σ H Q I h => ?_⟩
  refine PySem.W.methodCall_KW (pl := pl) (thn (he.run pins s σ H _ I h) fun u s1 hh => ?_) ht
  obtain ⟨x, H1, I1, rx, a, dx, fs, rfl, ea, l, q⟩ := hh
  obtain rfl : u = Value.ref a := rx
  refine getmeth_ok I1 ea c hm l ?_
  exact PySem.W.callWith_K0 (first := [.ref a]) I1.kIn hm.kp (G.run (vs := [.ref a]) I1 (.cons rfl .nil) q)
/-- C(e, ..) -/
def tMk1 (C : Addr) (sp : Sp) (W : WX) (t : TA) : TE := fun σ H Q => t σ H fun vs H1 => ∀ x dx, H1 x = none → H1 dx = none → dx ≠ x → sp (.ref x :: vs) (upd (upd H1 dx (.own x)) x (.ins C dx [])) (fun v H2 => v = .non ∧ Q (.ref x) H2) (WE W σ)
theorem Call1.make (M : Mk X.K C f) (G : Call1 X W k f sp) (hr : Room (k + 1) X.A) {vs : List V} {us : List Value} (I : Inv X pins σ H s) (r : Vals vs us)
    (h : ∀ x dx, H x = none → H dx = none → dx ≠ x → sp (.ref x :: vs) (upd (upd H dx (.own x)) x (.ins C dx [])) (fun v H2 => v = .non ∧ Q (.ref x) H2) (WE W σ)) :
    wpAny (model X.prog X.w) X.A (call (.ref C) us) (EP X pins σ Q) X.xe s := by
  obtain ⟨fd, ps, F, B⟩ := G.ex
  have h1 : H (s.heap.objs.size + 1) = none := I.hok.fresh (Nat.le_succ _)
  have h2 : H s.heap.objs.size = none := I.hok.fresh (Nat.le_refl _)
  have hq := h (s.heap.objs.size + 1) s.heap.objs.size h1 h2 (Nat.ne_of_lt (Nat.lt_succ_self _))
  have I2 := Inv.made (C := C) I
  have r2 : Vals (V.ref (s.heap.objs.size + 1) :: vs) (Value.ref (s.heap.objs.size + 1) :: us) := .cons rfl r
  have hl : (Value.ref (s.heap.objs.size + 1) :: us).length = ps.length := by
    rw [← r2.length]
    exact F.len _ _ _ _ hq
  have bb := B _ (Value.ref (s.heap.objs.size + 1) :: us) I2.kIn (by rw [List.append_nil]; exact hl)
  rw [List.append_nil] at bb
  refine wpAny_call (make_map (f := f) I.kIn M.makes M.init (beq_iff_eq.mp M.fn) (codeAny_mono (F.run _ X.stack _ _ ⟨Value.ref (s.heap.objs.size + 1) :: us, []⟩ _ _ _ _ (hr.make C us []) (I2.env0.make C us []) bb r2 hq) fun r s' hq' => ?_))
  cases r with
  | error e =>
    obtain ⟨a, B, H', cls, d, rfl, fl, hok, ub, na, os, ag, hE⟩ := hq'
    exact G.tk _ _ (XE.of_call I2 (W := W) (fun _ _ _ z => z) ⟨a, B, H', cls, d, rfl, fl, hok, ub, na, os, ag, hE⟩)
  | ok fl =>
    cases fl with
    | ret u =>
      obtain ⟨v, H', I3, rv, ev, q3⟩ := I2.after hq'
      subst ev
      exact ⟨rv, ⟨V.ref (s.heap.objs.size + 1), H', I3, rfl, q3⟩⟩
    | next => exact False.elim hq'
    | brk => exact False.elim hq'
    | cont => exact False.elim hq'
theorem pe_mk1 (M : Mk X.K C f) (G : Call1 X W k f sp) (hr : Room (k + 1) X.A) (hm : X.mg x = some (.ref C)) (hg : Gl X x) (ha : PA X (e :: es) t) (hdb : (x == ("__debug__" : Str)) = false := by decide)
    (he : starEach (e :: es) X.env = (false, eval e X.env) :: starEach es X.env := by rfl) (hpl : (backTo pos (starEach es X.env)).any (·.1) = false := by rfl) : PE X (.Call (.Name x p) (e :: es) [] pos) (tMk1 C sp W t) := by
  refine ⟨fun pins s σ H Q I h => ?_⟩
  refine wpAny_Call_Name_kw (ld_glob I hg hm ?_ hdb)
  refine PySem.W.callWith_K (h₀ := X.base) I.ok.mod.kin M.kp (thn (ha.run pos pins s σ H _ I h) fun us s1 hh => ?_) he hpl
  obtain ⟨vs, H1, I1, r, q⟩ := hh
  exact ⟨I1.kIn, Call1.make M G hr I1 r q⟩
end
end Bw

namespace BwM
open PySem PySem.W PySem.Calls PyProof.Rows PySem.HandSPX
/-! ### super().__init__(e) in an own error's __init__, at the machine's level -/
structure ExF (K : Frag) (C fI : Addr) : Prop where
  q : excInitIn K C He.veBase "ValueError.__new__" = true
  vE : ∃ cd, clsIn K C = some cd ∧ refsVE cd.mro = true ∧ cd.hasDict = true
  sa : findIn K (.ref C) "__setattr__" = some (some (.builtin "object.__setattr__"))
  iC : findIn K (.ref C) "__init__" = some (some (.ref fI))
  tI : typeIn K (.ref fI) = some (.type "function")
  sup : ks_superIn K C C "__init__" = some (some (.builtin "ValueError.__init__"))
  sVE : subIn K (.ref C) (.type "ValueError") = some true
  sC : mroIn K C (.ref C) = some true
  tp : nsIn K cStatics "thirdparty.any" = some none
structure ExT (K : Frag) (P : Program) (C fI : Addr) (nm qual : Str) (st : Stmt) (cda cc : Addr) : Prop where
  fn : ∃ (oc : Value) (od : Option Addr) (osl : Array (Option Value)) (kV doc pm : Value) (an : Option Addr) (ct : Value),
    K.lookup fI = some ⟨oc, od, .func (ksFn nm qual (L2.defArgs st) (L2.defBody st) (L2.defScope st) .none kV doc pm an (.ref cda) ct cc), osl⟩
  cd : codeIn K (.ref cda) qual = true
  file : ∃ (oc : Value) (od : Option Addr) (vs : Array Value) (osl : Array (Option Value)) (f : Str) (tf : Tok), K.lookup cda = some ⟨oc, od, .fields vs, osl⟩ ∧ vs[2]? = some (.str f tf) ∧ ((P.main.file : Str) == f) = true
  cell : ∃ (oc : Value) (od : Option Addr) (osl : Array (Option Value)), K.lookup cc = some ⟨oc, od, .cell (some (.ref C)), osl⟩
  top : (P.main.scope.names.lookup ("super" : Str)).isSome = false
/-- what of the module a def's name look asks -/
structure Glb (h : Heap) : Prop where
  g : ∃ mg, h.Ns mainGlobals mg ∧ mg "super" = none
  b : ∃ mb, h.Ns builtinsNs mb ∧ mb "super" = some (.type "super")
abbrev Kp (h h' : Heap) : Prop := ∀ b o, h.get? b = some o → h'.get? b = some o
theorem Glb.kp {h h' : Heap} (G : Glb h) (k : Kp h h') : Glb h' := by
  obtain ⟨⟨mg, g1, g2⟩, mb, b1, b2⟩ := G
  exact ⟨⟨mg, g1.keeps k, g2⟩, mb, b1.keeps k, b2⟩
section
variable {prog : Program} {w : World} {A : Around} {E : Value → Shared → Prop} {s : Shared} {K : Frag} {C fI cda cc x t0 L : Addr} {nm qual : Str} {st : Stmt} {body : List Stmt} {m : Str → Option Value} {ea : Expr} {p0 p1 p2 p3 p4 : Pos} {ar : Arg}
theorem sup_stmt {Q : Flow → Shared → Prop} (Fx : ExF K C fI) (T : ExT K prog C fI nm qual st cda cc) (X : K.In s.heap) (G : Glb s.heap) (hx : s.heap.get? x = some (excO C t0)) (hn : s.heap.Ns L m) (hm : m ar.arg = some (.ref x))
    (hp : ((L2.defArgs st).posonlyargs ++ (L2.defArgs st).args).head? = some ar) (hka : (L2.defScope st).names.lookup ar.arg = some .local) (hks : (L2.defScope st).names.lookup ("super" : Str) = some .globalImplicit) (hkc : (L2.defScope st).names.lookup ("__class__" : Str) = some .free)
    (hk : (L2.defScope st).kind = .function)
    (he : ∀ s1 : Shared, Kp s.heap s1.heap → ∀ Q' : Value → Shared → Prop, (∀ v tk, Q' v { s1 with toks := tk }) → wpAny (model prog w) A (eval ea (ksEnv qual (L2.defScope st) L fI (.ref cda) cc)) Q' E s1)
    (hst : starEach [ea] (ksEnv qual (L2.defScope st) L fI (.ref cda) cc) = [(false, eval ea (ksEnv qual (L2.defScope st) L fI (.ref cda) cc))])
    (hma : ∃ pl : Sem Bool, eval (.Call (.Attribute (.Call (.Name "super" p0) [] [] p1) "__init__" p2) [ea] [] p3) (ksEnv qual (L2.defScope st) L fI (.ref cda) cc) = (do
      let ov ← attributeBase (.Call (.Name "super" p0) [] [] p1) "__init__" (ksEnv qual (L2.defScope st) L fI (.ref cda) cc) (eval (.Call (.Name "super" p0) [] [] p1) (ksEnv qual (L2.defScope st) L fI (.ref cda) cc))
      standAt p2.atName
      let (f, first) ← holding [ov] (getMethod ov "__init__" pl)
      callWith p3 f first (backTo p3 (starEach [ea] (ksEnv qual (L2.defScope st) L fI (.ref cda) cc))) []))
    (hi : interactive (ksEnv qual (L2.defScope st) L fI (.ref cda) cc) = false)
    (hsw : swapsWith (.Call (.Attribute (.Call (.Name "super" p0) [] [] p1) "__init__" p2) [ea] [] p3) none p4.line (ksEnv qual (L2.defScope st) L fI (.ref cda) cc) = pure false)
    (hq : ∀ (h' : Heap) (tk : Nat) (t1 : Addr), (∀ b o, b ≠ x → s.heap.get? b = some o → h'.get? b = some o) → h'.get? x = some (excO C t1) → Q .next { s with heap := h', toks := tk }) :
    PySem.wpAt (model prog w) A (.func body (ksEnv qual (L2.defScope st) L fI (.ref cda) cc)) (exec (.Expr (.Call (.Attribute (.Call (.Name "super" p0) [] [] p1) "__init__" p2) [ea] [] p3) p4) (ksEnv qual (L2.defScope st) L fI (.ref cda) cc)) Q E s := by
  obtain ⟨oc, od, osl, kV, doc, pm, an, ct, lf⟩ := T.fn
  obtain ⟨oc2, od2, vs2, osl2, fl, tf, lc, v2, hfile⟩ := T.file
  obtain ⟨oc3, od3, osl3, lcell⟩ := T.cell
  obtain ⟨pl, hma⟩ := hma
  obtain ⟨cd, hcd, hmro, hdic⟩ := Fx.vE
  have hCo : ∃ oD, s.heap.get? C = some oD ∧ oD.data = .cls cd := by
    unfold clsIn at hcd
    split at hcd
    · rename_i ho
      cases hcd
      exact ⟨_, X _ _ ho, rfl⟩
    · cases hcd
  obtain ⟨oD, hD1, hD2⟩ := hCo
  have hxC : x ≠ C := by
    intro z
    rw [← z, hx] at hD1
    cases hD1
    cases hD2
  obtain ⟨⟨mg, hg1, hg2⟩, mb, hb1, hb2⟩ := G
  obtain ⟨hh, g, d, tk0, os⟩ := s
  refine ks_wpAt_Expr_any ?_ hi hsw
  refine ks_wpAt_MethodCall ?_ hma
  refine ks_wpAt_super_base (env := ksEnv qual (L2.defScope st) L fI (.ref cda) cc) hks hkc (by decide +kernel) rfl (X _ _ lf) rfl hp rfl (X _ _ lc) rfl v2 hfile T.top ?_
  refine ks_loadName_global hk hks (loadGlobal_builtin (env := ksEnv qual (L2.defScope st) L fI (.ref cda) cc) hg1 hg2 hb1 hb2 ⟨rfl, ?_⟩)
  refine wpAny_loadName_free hk hkc rfl ⟨_, X _ _ lcell, rfl⟩ ?_
  refine wpAny_loadName_local hk hka hn hm ?_
  refine ks_wpAny_isType_cls hD1 hD2 ⟨rfl, ?_⟩
  refine ks_wpAny_call_super hD1 hD2 hx rfl (fun c e => by cases e) (looks_mroIn X Fx.sC) (fun h1 so1 k1 => ?_)
  have X1 : K.In h1 := X.keeps k1
  have hx1 := k1 _ _ hx
  have I1 : InstAt h1 x (excO C t0) C none := ⟨hx1, rfl, rfl, trivial⟩
  have hin : Looks (model prog w) h1 (isInstance (.ref x) (.type "ValueError")) true := I1.type.andThen (looks_subIn X1 Fx.sVE)
  have hsup := Fx.sup
  unfold ks_superIn at hsup
  rw [hcd, Option.bind_some] at hsup
  refine kxs_getMethod kxs_ValueError so1 (looks_opaque X1 Fx.tp) (l₀ := cd.mro) ((looks_clsIn X1 hcd).andThen .now) rfl X1 hsup hin hxC (by decide +kernel) ?_
  have k2 : Kp h1 (h1.push (kxs_mw "ValueError.__init__" x)) := fun b o e => Heap.get?_push_of_some _ e
  have u2 : (h1.push (kxs_mw "ValueError.__init__" x)).get? h1.objs.size = some (kxs_mw "ValueError.__init__" x) := Heap.get?_push_at rfl rfl
  refine kxs_callWith (i := "ValueError.__init__") (x := x) (by rw [hst]; rfl) ?_
  rw [hst]
  refine evalArgs_plain (spliced_cons ?_)
  refine he _ (fun b o e => k2 b o (k1 b o e)) _ fun v tk => ?_
  refine spliced_nil ⟨u2, ?_⟩
  have hx2 := k2 _ _ hx1
  have X2 : K.In (h1.push (kxs_mw "ValueError.__init__" x)) := X1.keeps k2
  obtain ⟨nm', N', qn, bs, bm, hdct, sn, sub, ab, col, dd, c0, c1, c2, c3, c5, hC, hT⟩ := excInit_of X2 Fx.q
  refine wpAny_call (codeAny_of_tree ?_)
  show wpAny _ A.in1 (callAny (.ref h1.objs.size) ⟨_, []⟩) _ _ _
  simp only [callAny]
  refine wpAny_bind (wpAny_load u2 ?_)
  simp only [kxs_mw, show (Value.type "method-wrapper" == Value.type "method" || Value.type "method-wrapper" == Value.type "builtin_function_or_method" || Value.type "method-wrapper" == Value.type "method-wrapper") = true by decide, if_true]
  refine KFB.if_so (by decide) ?_
  refine wpAny_bind (check_bound_init F.excBase_ValueError.toExcCallFacts hC hx2 rfl ?_)
  refine wpAny_bind (wpAny_pure (wpAny_pure ?_))
  refine ⟨plainId_quiet F.excBase_ValueError.init.plain _, codeAny_builtin F.excBase_ValueError.initEntry ?_⟩
  refine exc_init_tree (cls := .ref C) (t0 := t0) (dv := none) (c2 := .none) (c3 := .none) (b4 := .bool false) hx2 (by show 1 ≤ sizeLine; decide) (fun h' k' e' t' => ?_)
  exact hq h' tk _ (fun b o hb e => k' b o hb (k2 b o (k1 b o e))) e'

/-- what __init__ leaves of a fresh exception at x: its dict, new, tells the fields -/
structure IniEnd (h h' : Heap) (x C dx : Addr) (mA : Str → Option Value) : Prop where
  keep : ∀ b o, b ≠ x → h.get? b = some o → h'.get? b = some o
  obj : ∃ t1 : Addr, h'.get? x = some { cls := .ref C, dict := some dx, data := .fields #[.ref t1, .none, .none, .none, .bool false, .none] }
  dbig : h.objs.size ≤ dx
  dne : dx ≠ x
  ns : h'.Ns1 dx mA
theorem name_l {M : Model} {name : Str} {scope : Scope} {cl : List (Str × Addr)} {a : Addr} {cd : Value} {y : Str} {pos : Pos} {v : Value} {Q : Value → Shared → Prop} (hn : s.heap.Ns L m) (hv : m y = some v) (h : Q v s)
    (hk : scope.kind = .function) (hl : scope.names.lookup y = some .local) (hd : (y == ("__debug__" : Str)) = false) : wpAny M A (eval (.Name y pos) (envX name scope L a cd cl)) Q E s := wpAny_Name (wpAny_loadName_local hk hl hn hv h) hd
/-- self.f = p, the first field -/
theorem asg_new {name : Str} {scope : Scope} {cl : List (Str × Addr)} {a : Addr} {cdv : Value} {f y : Str} {q1 q2 q3 q4 : Pos} {v : Value} {rest : List Stmt} {Q : Flow → Shared → Prop} (Fx : ExF K C fI) (X : K.In s.heap) (hx : s.heap.get? x = some (excO C t0))
    (hn : s.heap.Ns L m) (hm : m "self" = some (.ref x)) (hy : m y = some v) (hf : findIn K (.ref C) f = some none) (hk : scope.kind = .function) (hl : scope.names.lookup ("self" : Str) = some .local) (hl2 : scope.names.lookup y = some .local) (hd : (y == ("__debug__" : Str)) = false) (hxL : L ≠ x)
    (hsw : swapsWith (.Name y q3) (some (.Attribute (.Name "self" q1) f q2)) q4.line (envX name scope L a cdv cl) = pure false)
    (hq : ∀ h' tk dx, (∀ b o, b ≠ x → s.heap.get? b = some o → h'.get? b = some o) → s.heap.objs.size ≤ dx → dx ≠ x → h'.get? x = some { cls := .ref C, dict := some dx, data := .fields #[.ref t0, .none, .none, .none, .bool false, .none] } →
      h'.Ns1 dx (fun z => if z = f then some v else none) → wpAny (model prog w) A (execs rest (envX name scope L a cdv cl)) Q E { s with heap := h', toks := tk }) :
    wpAny (model prog w) A (execs (.Assign [.Attribute (.Name "self" q1) f q2] (.Name y q3) q4 :: rest) (envX name scope L a cdv cl)) Q E s := by
  obtain ⟨cd, hcd, hmro, hdic⟩ := Fx.vE
  refine wpAny_execs_cons (plainObj_wpAny_Assign_Attribute ?_ hsw)
  refine name_l (v := v) hn hy ?_ hk hl2 hd
  refine name_l (v := .ref x) hn hm ?_ hk hl (by decide +kernel)
  refine set_plain X (ox := excO C t0) (od := none) ⟨hx, rfl, rfl, trivial⟩ Fx.sa ?_
  refine exc_osa X hx hcd hmro hdic hf (fun h₃ tk₃ dx k₃ dn dne hx₃ hn₃ => ?_)
  exact hq h₃ tk₃ dx k₃ dn dne hx₃ hn₃
/-- a further field -/
theorem asg_old {name : Str} {scope : Scope} {cl : List (Str × Addr)} {a dx : Addr} {cdv : Value} {f y : Str} {q1 q2 q3 q4 : Pos} {v : Value} {rest : List Stmt} {Q : Flow → Shared → Prop} {mA : Str → Option Value} {nl : List Str} (Fx : ExF K C fI) (X : K.In s.heap) (hx : s.heap.get? x = some { cls := .ref C, dict := some dx, data := .fields #[.ref t0, .none, .none, .none, .bool false, .none] })
    (hA : s.heap.Ns1 dx mA) (hw : Within mA nl) (hz : nl.length ≤ 1000)
    (hn : s.heap.Ns L m) (hm : m "self" = some (.ref x)) (hy : m y = some v) (hf : findIn K (.ref C) f = some none) (hk : scope.kind = .function) (hl : scope.names.lookup ("self" : Str) = some .local) (hl2 : scope.names.lookup y = some .local) (hd : (y == ("__debug__" : Str)) = false)
    (hsw : swapsWith (.Name y q3) (some (.Attribute (.Name "self" q1) f q2)) q4.line (envX name scope L a cdv cl) = pure false)
    (hq : ∀ h' tk, (∀ b o, b ≠ dx → s.heap.get? b = some o → h'.get? b = some o) → h'.Ns1 dx (fun z => if z = f then some v else mA z) → wpAny (model prog w) A (execs rest (envX name scope L a cdv cl)) Q E { s with heap := h', toks := tk }) :
    wpAny (model prog w) A (execs (.Assign [.Attribute (.Name "self" q1) f q2] (.Name y q3) q4 :: rest) (envX name scope L a cdv cl)) Q E s := by
  obtain ⟨cd, hcd, hmro, hdic⟩ := Fx.vE
  obtain ⟨oD, _, _, hoD, _, _⟩ := hA.count hw
  refine wpAny_execs_cons (plainObj_wpAny_Assign_Attribute ?_ hsw)
  refine name_l (v := v) hn hy ?_ hk hl2 hd
  refine name_l (v := .ref x) hn hm ?_ hk hl (by decide +kernel)
  refine set_plain X (ox := { cls := .ref C, dict := some dx, data := .fields #[.ref t0, .none, .none, .none, .bool false, .none] }) (od := some oD) ⟨hx, rfl, rfl, hoD⟩ Fx.sa ?_
  exact PySem.OEX.osa_old X hx hA hw hz hcd hmro hdic hf (fun h₃ tk₃ k₃ hn₃ => hq h₃ tk₃ k₃ hn₃)

end
/-- what is looked at in the text of such an __init__ -/
structure TxtI (st : Stmt) (ps : List Str) : Prop where
  kS : (L2.defScope st).kind = .function
  co : (L2.defScope st).isCoroutine = false
  gn : (L2.defScope st).isGenerator = false
  nc : ((L2.defScope st).names.all fun z => match z.2 with | .cell => false | _ => true) = true
  ls : (L2.defScope st).names.lookup ("self" : Str) = some .local
  lc : (L2.defScope st).names.lookup ("__class__" : Str) = some .free
  lu : (L2.defScope st).names.lookup ("super" : Str) = some .globalImplicit
  hd : ∃ ar, ((L2.defArgs st).posonlyargs ++ (L2.defArgs st).args).head? = some ar ∧ ar.arg = "self"
  ia : ∀ (qual : Str) (L a c : Addr) (cd : Value), interactive (ksEnv qual (L2.defScope st) L a cd c) = false
  bind : ∀ (nm qual : Str) (kV doc pm : Value) (an : Option Addr) (cdv ct : Value) (cc : Addr) (us : List Value), us.length = ps.length + 1 →
    bindArgs (ksFn nm qual (L2.defArgs st) (L2.defBody st) (L2.defScope st) .none kV doc pm an cdv ct cc) ⟨us, []⟩ = pure (((("self" : Str) :: ps)).zip us)
structure Txt1 (st : Stmt) (y f : Str) : Prop where
  i : TxtI st [y]
  body : ∃ (tx : Str) (j : Nat) (pt p0 p1 p2 p3 p4 q1 q2 q3 q4 : Pos), L2.defBody st = [.Expr (.Call (.Attribute (.Call (.Name "super" p0) [] [] p1) "__init__" p2) [.Constant (.str tx) j pt] [] p3) p4, .Assign [.Attribute (.Name "self" q1) f q2] (.Name y q3) q4] ∧ ∀ (qual : Str) (L a c : Addr) (cd : Value), ∃ pl : Sem Bool, eval (.Call (.Attribute (.Call (.Name "super" p0) [] [] p1) "__init__" p2) [.Constant (.str tx) j pt] [] p3) (ksEnv qual (L2.defScope st) L a cd c) = (do
      let ov ← attributeBase (.Call (.Name "super" p0) [] [] p1) "__init__" (ksEnv qual (L2.defScope st) L a cd c) (eval (.Call (.Name "super" p0) [] [] p1) (ksEnv qual (L2.defScope st) L a cd c))
      standAt p2.atName
      let (f, first) ← holding [ov] (getMethod ov "__init__" pl)
      callWith p3 f first (backTo p3 (starEach [.Constant (.str tx) j pt] (ksEnv qual (L2.defScope st) L a cd c))) [])
  ly : (L2.defScope st).names.lookup y = some .local
  ne : (y == ("self" : Str)) = false ∧ (("self" : Str) == y) = false ∧ (y == ("__debug__" : Str)) = false
structure Txt2 (st : Stmt) (y f y2 f2 : Str) : Prop where
  i : TxtI st [y, y2]
  body : ∃ (tx : Str) (j : Nat) (pt p0 p1 p2 p3 p4 q1 q2 q3 q4 u1 u2 u3 u4 z1 z2 : Pos), L2.defBody st = [.Expr (.Call (.Attribute (.Call (.Name "super" p0) [] [] p1) "__init__" p2) [.BinOp (.Constant (.str tx) j pt) .Add (.Name y z1) z2] [] p3) p4, .Assign [.Attribute (.Name "self" q1) f q2] (.Name y q3) q4,
    .Assign [.Attribute (.Name "self" u1) f2 u2] (.Name y2 u3) u4] ∧ tx.length ≤ 1000 ∧ ∀ (qual : Str) (L a c : Addr) (cd : Value), ∃ pl : Sem Bool, eval (.Call (.Attribute (.Call (.Name "super" p0) [] [] p1) "__init__" p2) [.BinOp (.Constant (.str tx) j pt) .Add (.Name y z1) z2] [] p3) (ksEnv qual (L2.defScope st) L a cd c) = (do
      let ov ← attributeBase (.Call (.Name "super" p0) [] [] p1) "__init__" (ksEnv qual (L2.defScope st) L a cd c) (eval (.Call (.Name "super" p0) [] [] p1) (ksEnv qual (L2.defScope st) L a cd c))
      standAt p2.atName
      let (f, first) ← holding [ov] (getMethod ov "__init__" pl)
      callWith p3 f first (backTo p3 (starEach [.BinOp (.Constant (.str tx) j pt) .Add (.Name y z1) z2] (ksEnv qual (L2.defScope st) L a cd c))) [])
  ly : (L2.defScope st).names.lookup y = some .local
  ly2 : (L2.defScope st).names.lookup y2 = some .local
  ne : (y == ("self" : Str)) = false ∧ (("self" : Str) == y) = false ∧ (y == ("__debug__" : Str)) = false ∧ (y2 == ("self" : Str)) = false ∧ (("self" : Str) == y2) = false ∧ (y2 == ("__debug__" : Str)) = false ∧ (y == y2) = false ∧ (f == f2) = false
section
variable {prog : Program} {w : World} {A : Around} {R : Result → Shared → Prop} {s : Shared} {K : Frag} {C fI cda cc x t0 : Addr} {nm qual : Str} {st : Stmt} {y f y2 f2 : Str} {v v2 : Value}
theorem in_but {h h' : Heap} (X : K.In h) (hn : K.lookup x = none) (k : ∀ b o, b ≠ x → h.get? b = some o → h'.get? b = some o) : K.In h' := fun a o e =>
  k a o (fun z => by rw [z, hn] at e; cases e) (X a o e)
theorem ns_but {h h' : Heap} {L : Addr} {m : Str → Option Value} (n : h.Ns L m) (hL : L ≠ x) (k : ∀ b o, b ≠ x → h.get? b = some o → h'.get? b = some o) : h'.Ns L m := by
  obtain ⟨o, es, ep, ho, r⟩ := n
  exact ⟨o, es, ep, k L o hL ho, r⟩
/-- the call up to the body -/
theorem ini_call {ps : List Str} {vs : List Value} (T : ExT K prog C fI nm qual st cda cc) (S : TxtI st ps) (hl : vs.length = ps.length) (hlo : ∀ p ∈ ps, (L2.defScope st).names.lookup p = some .local) (X : K.In s.heap) (hlim : s.heap.NoLimit) (hroom : A.depth < recursionLimit)
    (h : ∀ h₀, h₀.Ns s.heap.objs.size (fun z => (((("self" : Str) :: ps)).zip (.ref x :: vs)).reverse.lookup z) → Kp s.heap h₀ → ∀ b tk,
      PySem.wpAt (model prog w) (A.deeper (ksEnv qual (L2.defScope st) s.heap.objs.size fI (.ref cda) cc)) (.func b (ksEnv qual (L2.defScope st) s.heap.objs.size fI (.ref cda) cc)) (execs (L2.defBody st) (ksEnv qual (L2.defScope st) s.heap.objs.size fI (.ref cda) cc))
      (fun f s' => R (.ok (.ret (match f with | .ret v => v | _ => .none))) s')
      (fun e s' => wpAny (model prog w) (A.deeper (ksEnv qual (L2.defScope st) s.heap.objs.size fI (.ref cda) cc)) (leaving (ksEnv qual (L2.defScope st) s.heap.objs.size fI (.ref cda) cc) e) (fun _ s'' => R (.error e) s'') (fun e' s'' => R (.error e') s'') s')
      { s with heap := h₀, toks := tk }) :
    codeAny (model prog w) A (.call (.ref fI) ⟨.ref x :: vs, []⟩) R s := by
  obtain ⟨oc, od, osl, kV, doc, pm, an, ct, lf⟩ := T.fn
  refine ks_codeAny_call_defAt (fd := ksFn nm qual (L2.defArgs st) (L2.defBody st) (L2.defScope st) .none kV doc pm an (.ref cda) ct cc) (body := L2.defBody st) (binds := ((("self" : Str) :: ps)).zip (.ref x :: vs)) hroom (X _ _ lf) rfl hlim (codeRec_of X T.cd) rfl
    (BindsTo.of_eq (S.bind _ _ _ _ _ _ _ _ _ _ (by rw [List.length_cons, hl]))) ?_ ?_ (fun h₀ hns hk => h h₀ hns hk _ _) S.co S.gn S.kS
  · intro z hz e
    have q := List.all_eq_true.mp S.nc z hz
    rw [e] at q
    cases q
  · intro z hz
    have e := List.of_mem_zip (show (z.1, z.2) ∈ _ from hz)
    rcases List.mem_cons.mp e.1 with e | e
    · rw [e]; exact S.ls
    · exact hlo _ e
theorem ini1 (Fx : ExF K C fI) (T : ExT K prog C fI nm qual st cda cc) (S : Txt1 st y f) (hf : findIn K (.ref C) f = some none) (X : K.In s.heap) (hlim : s.heap.NoLimit) (G : Glb s.heap) (hx : s.heap.get? x = some (excO C t0)) (hnx : K.lookup x = none) (hroom : A.depth < recursionLimit)
    (hq : ∀ h' tk dx, IniEnd s.heap h' x C dx (fun z => if z = f then some v else none) → R (.ok (.ret .none)) { s with heap := h', toks := tk }) :
    codeAny (model prog w) A (.call (.ref fI) ⟨[.ref x, v], []⟩) R s := by
  obtain ⟨tx, j, pt, p0, p1, p2, p3, p4, q1, q2, q3, q4, eb, hmc⟩ := S.body
  obtain ⟨n1, n2, n3⟩ := S.ne
  obtain ⟨ar, har, earn⟩ := S.i.hd
  have Lx : s.heap.objs.size ≠ x := Nat.ne_of_gt (Heap.lt_size hx)
  refine ini_call T S.i rfl (fun p hp => ?_) X hlim hroom (fun h₀ hns hk b tk => ?_)
  · rw [List.mem_singleton.mp hp]; exact S.ly
  have m1 : ((((("self" : Str) :: [y])).zip (.ref x :: [v])).reverse).lookup ("self" : Str) = some (Value.ref x) := by
    show List.lookup ("self" : Str) [(y, v), ("self", Value.ref x)] = _
    simp [List.lookup, n2]
  have m2 : ((((("self" : Str) :: [y])).zip (Value.ref x :: [v])).reverse).lookup y = some v := by
    show List.lookup y [(y, v), ("self", Value.ref x)] = _
    simp [List.lookup]
  rw [eb]
  refine ks_wpAt_execs_cons (sup_stmt (L := s.heap.objs.size) Fx T (X.keeps hk) (G.kp hk) (hk _ _ hx) hns (by rw [earn]; exact m1) har (by rw [earn]; exact S.i.ls) S.i.lu S.i.lc S.i.kS (fun s1 _ Q' q' => Constant_str (q' _ _)) rfl (hmc _ _ _ _ _) (S.i.ia _ _ _ _ _) rfl (fun h1 tk1 t1 k1 e1 => ?_))
  have kk : ∀ b o, b ≠ x → s.heap.get? b = some o → h1.get? b = some o := fun b o hb e => k1 b o hb (hk b o e)
  refine wpAt_of_wpAny (asg_new (s := { s with heap := h1, toks := tk1 }) Fx (in_but X hnx kk) e1 (ns_but hns Lx k1) m1 m2 hf S.i.kS S.i.ls S.ly n3 Lx rfl (fun h2 tk2 dx k2 db dn e2 ns2 => ?_))
  exact wpAny_execs_nil (hq h2 tk2 dx ⟨fun b o hb e => k2 b o hb (kk b o hb e), ⟨t1, e2⟩, Nat.le_trans (by
    obtain ⟨o, es, ep, ho, _⟩ := ns_but hns Lx k1
    exact Nat.le_of_lt (Heap.lt_size ho)) db, dn, ns2⟩)
theorem ini2 {z : Str} {tz : Tok} (Fx : ExF K C fI) (T : ExT K prog C fI nm qual st cda cc) (S : Txt2 st y f y2 f2) (hf : findIn K (.ref C) f = some none) (hf2 : findIn K (.ref C) f2 = some none) (X : K.In s.heap) (hlim : s.heap.NoLimit) (G : Glb s.heap) (hx : s.heap.get? x = some (excO C t0)) (hnx : K.lookup x = none) (hroom : A.depth < recursionLimit) (hz : z.length ≤ 1000)
    (hq : ∀ h' tk dx, IniEnd s.heap h' x C dx (fun q => if q = f2 then some v2 else if q = f then some (.str z tz) else none) → R (.ok (.ret .none)) { s with heap := h', toks := tk }) :
    codeAny (model prog w) A (.call (.ref fI) ⟨[.ref x, .str z tz, v2], []⟩) R s := by
  obtain ⟨tx, j, pt, p0, p1, p2, p3, p4, q1, q2, q3, q4, u1, u2, u3, u4, z1, z2, eb, htx, hmc⟩ := S.body
  obtain ⟨n1, n2, n3, n4, n5, n6, n7, n8⟩ := S.ne
  obtain ⟨ar, har, earn⟩ := S.i.hd
  have Lx : s.heap.objs.size ≠ x := Nat.ne_of_gt (Heap.lt_size hx)
  refine ini_call T S.i rfl (fun p hp => ?_) X hlim hroom (fun h₀ hns hk b tk => ?_)
  · rcases List.mem_cons.mp hp with e | hp
    · rw [e]; exact S.ly
    · rw [List.mem_singleton.mp hp]; exact S.ly2
  have m1 : ((((("self" : Str) :: [y, y2])).zip (.ref x :: [.str z tz, v2])).reverse).lookup ("self" : Str) = some (Value.ref x) := by
    show List.lookup ("self" : Str) [(y2, v2), (y, .str z tz), ("self", Value.ref x)] = _
    simp [List.lookup, n2, n5]
  have m2 : ((((("self" : Str) :: [y, y2])).zip (Value.ref x :: [.str z tz, v2])).reverse).lookup y = some (.str z tz) := by
    show List.lookup y [(y2, v2), (y, .str z tz), ("self", Value.ref x)] = _
    simp [List.lookup, n7]
  have m3 : ((((("self" : Str) :: [y, y2])).zip (Value.ref x :: [.str z tz, v2])).reverse).lookup y2 = some v2 := by
    show List.lookup y2 [(y2, v2), (y, .str z tz), ("self", Value.ref x)] = _
    simp [List.lookup]
  rw [eb]
  refine ks_wpAt_execs_cons (sup_stmt (L := s.heap.objs.size) Fx T (X.keeps hk) (G.kp hk) (hk _ _ hx) hns (by rw [earn]; exact m1) har (by rw [earn]; exact S.i.ls) S.i.lu S.i.lc S.i.kS (fun s1 kp1 Q' q' => ?_) rfl (hmc _ _ _ _ _) (S.i.ia _ _ _ _ _) rfl (fun h1 tk1 t1 k1 e1 => ?_))
  · refine wpAny_BinOp (Constant_str (name_l (v := .str z tz) (hns.keeps kp1) m2 ?_ S.i.kS S.ly n3))
    exact PyProof.Rows.add_str (fun t' tk => q' _ _) (by rw [sizeLine_eq]; omega)
  have kk : ∀ b o, b ≠ x → s.heap.get? b = some o → h1.get? b = some o := fun b o hb e => k1 b o hb (hk b o e)
  have n1' := ns_but hns Lx k1
  refine wpAt_of_wpAny (asg_new (s := { s with heap := h1, toks := tk1 }) Fx (in_but X hnx kk) e1 n1' m1 m2 hf S.i.kS S.i.ls S.ly n3 Lx rfl (fun h2 tk2 dx k2 db dn e2 ns2 => ?_))
  have kk2 : ∀ b o, b ≠ x → s.heap.get? b = some o → h2.get? b = some o := fun b o hb e => k2 b o hb (kk b o hb e)
  have Ldx : s.heap.objs.size ≠ dx := by
    obtain ⟨o, es, ep, ho, _⟩ := n1'
    exact Nat.ne_of_lt (Nat.lt_of_lt_of_le (Heap.lt_size ho) db)
  refine asg_old (s := { s with heap := h2, toks := tk2 }) (nl := [f]) Fx (in_but X hnx kk2) e2 ns2 ?_ (by show 1 ≤ 1000; decide) (ns_but n1' Lx k2) m1 m3 hf2 S.i.kS S.i.ls S.ly2 n6 rfl (fun h3 tk3 k3 ns3 => ?_)
  · intro q hq'
    by_cases e : q = f
    · rw [e]; exact List.mem_singleton.mpr rfl
    · exact absurd (if_neg e) hq'
  refine wpAny_execs_nil (hq h3 tk3 dx ⟨fun b o hb e => k3 b o (fun q => ?_) (kk2 b o hb e), ⟨t1, k3 _ _ (fun q => dn q.symm) e2⟩, Nat.le_trans (by
    obtain ⟨o, es, ep, ho, _⟩ := n1'
    exact Nat.le_of_lt (Heap.lt_size ho)) db, dn, ns3⟩)
  have := Heap.lt_size e
  rw [q] at this
  obtain ⟨o, es, ep, ho, _⟩ := n1'
  have h4 := Heap.lt_size ho
  exact absurd (Nat.lt_of_lt_of_le (Nat.lt_trans this h4) db) (Nat.lt_irrefl _)
end
end BwM
namespace BwM
open PySem PySem.W PySem.Calls PyProof.Rows PySem.HandSPX
/-- a made exception: at e, its dict at d tells mA -/
structure ExMade (h h' : Heap) (e C d : Addr) (mA : Str → Option Value) : Prop where
  keep : ∀ b o, h.get? b = some o → h'.get? b = some o
  new : h.objs.size ≤ e
  obj : ∃ oe vs, h'.get? e = some oe ∧ oe.cls = .ref C ∧ oe.dict = some d ∧ oe.data = .fields vs ∧ vs[1]? = some .none
  dbig : h.objs.size ≤ d
  dne : d ≠ e
  ns : h'.Ns1 d mA
section
variable {prog : Program} {w : World} {A : Around} {R : Result → Shared → Prop} {s : Shared} {K : Frag} {C fI : Addr}
theorem ex_made {vs : List Value} {mA : Str → Option Value} (Fx : ExF K C fI) (X : K.In s.heap) (hlim : s.heap.NoLimit) (G : Glb s.heap) (hl : vs.length ≤ sizeLine) (hroom : A.depth + 1 < recursionLimit)
    (hI : ∀ (A' : Around) (R' : Result → Shared → Prop) (s' : Shared) (x t0 : Addr), A'.depth < recursionLimit → K.In s'.heap → s'.heap.NoLimit → Glb s'.heap → s'.heap.get? x = some (excO C t0) → K.lookup x = none →
      (∀ h' tk dx, IniEnd s'.heap h' x C dx mA → R' (.ok (.ret .none)) { s' with heap := h', toks := tk }) → codeAny (model prog w) A' (.call (.ref fI) ⟨.ref x :: vs, []⟩) R' s')
    (hq : ∀ h' tk e d, ExMade s.heap h' e C d mA → R (.ok (.ret (.ref e))) { s with heap := h', toks := tk }) :
    codeAny (model prog w) A (.call (.ref C) ⟨vs, []⟩) R s := by
  obtain ⟨nm', N', qn, bs, bm, hdct, sn, sub, ab, col, dd, c0, c1, c2, c3, c5, hC, hT⟩ := excInit_of X Fx.q
  obtain ⟨hp, g, dr, tk, os⟩ := s
  have k : ∀ b o, hp.get? b = some o → ((hp.push (kdv_tup vs)).push (excO C hp.objs.size)).get? b = some o := fun b o e => Heap.get?_push_of_some _ (Heap.get?_push_of_some _ e)
  have hget : ((hp.push (kdv_tup vs)).push (excO C hp.objs.size)).get? (hp.objs.size + 1) = some (excO C hp.objs.size) := by heap_get
  have hnx : K.lookup (hp.objs.size + 1) = none := by
    cases e : K.lookup (hp.objs.size + 1) with
    | none => rfl
    | some o => exact absurd (Nat.lt_of_succ_lt (Heap.lt_size (show hp.get? (hp.objs.size + 1) = some o from X _ _ e))) (Nat.lt_irrefl _)
  refine call_own F.excBase_ValueError hT hC (looks_findIn X Fx.iC) (fun self => bind_fn X self Fx.tI) hl ?_
  refine hI _ _ ⟨(hp.push (kdv_tup vs)).push (excO C hp.objs.size), g, dr, tk, os⟩ (hp.objs.size + 1) hp.objs.size ?_ (X.keeps k) (hlim.keeps k) (G.kp k) hget hnx ?_
  · show A.depth + 1 < recursionLimit
    exact hroom
  · intro h' tk' dx I
    have old : ∀ b o, hp.get? b = some o → h'.get? b = some o := fun b o e => I.keep b o (Nat.ne_of_lt (Nat.lt_succ_of_lt (Heap.lt_size e))) (k b o e)
    obtain ⟨t1, ht1⟩ := I.obj
    have db := I.dbig
    have z : hp.objs.size + 1 + 1 ≤ dx := by
      rw [Heap.size_push, Heap.size_push] at db
      exact db
    exact ⟨rfl, hq h' tk' (hp.objs.size + 1) dx ⟨old, Nat.le_succ _, ⟨_, _, ht1, rfl, rfl, rfl, rfl⟩, Nat.le_trans (Nat.le_trans (Nat.le_succ _) (Nat.le_succ _)) z, I.dne, I.ns⟩⟩
end
end BwM
namespace Bw
open PySem PySem.Spec PyProof.Rows L2
section
variable {X : Cx} {P : Program} {w : World} {K : PySem.W.Frag} {mg : Str → Option Value} {C fI : Addr}
/-- the error's own dict: what its class tells of the arguments vs -/
structure ExK (P : Program) (w : World) (K : PySem.W.Frag) (mg : Str → Option Value) (C fI : Addr) (nm : Str) (ok : List V → Prop) (fs : List V → List (Str × V)) : Prop where
  ex : BwM.ExF K C fI
  sup : mg "super" = none
  exC : PySem.W.subIn K (.ref C) (.type "BaseException") = some true
  tyC : PySem.W.typeIn K (.ref C) = some (.type "type")
  kC : PySem.W.keepIn K (.ref C) = true
  gC : mg nm = some (.ref C)
  len : ∀ vs, ok vs → vs.length ≤ 1000
  run : ∀ (vs : List V) (us : List Value), ok vs → Vals vs us → ∃ mA : Str → Option Value, (∀ f, RelO ((fs vs).lookup f) (mA f)) ∧
    ∀ (A' : Around) (R' : Result → Shared → Prop) (s' : Shared) (x t0 : Addr), A'.depth < recursionLimit → K.In s'.heap → s'.heap.NoLimit → BwM.Glb s'.heap → s'.heap.get? x = some (PySem.HandSPX.excO C t0) → K.lookup x = none →
      (∀ h' tk dx, BwM.IniEnd s'.heap h' x C dx mA → R' (.ok (.ret .none)) { s' with heap := h', toks := tk }) → codeAny (model P w) A' (.call (.ref fI) ⟨.ref x :: us, []⟩) R' s'
theorem inv_glb {pins : List (Addr × Obj)} {σ : L2.St} {H : Hp} {s : Shared} (I : Inv X pins σ H s) (h : X.mg "super" = none) : BwM.Glb s.heap := by
  obtain ⟨mb, b1, b2⟩ := I.ok.mod.blt
  exact ⟨⟨X.mg, I.ok.mod.glob.keeps I.bk, h⟩, mb, b1.keeps I.bk, (b2 _ (by decide +kernel)).trans (by decide +kernel)⟩
/-- C(e, ..), to be raised -/
def tMkE (C : Addr) (ok : List V → Prop) (fs : List V → List (Str × V)) (ta : TA) : L2.St → Hp → XK → Prop := fun σ H Q => ta σ H fun vs H1 => ok vs ∧ ∀ d, H1 d = none → Q (.ref C) (some d) (upd H1 d (.xd (fs vs)))
theorem pmk_e {nm : Str} {ok : List V → Prop} {fs : List V → List (Str × V)} {a : Expr} {as : List Expr} {ta : TA} {p pos : Pos} {k : Nat} (T : ExK X.prog X.w X.K X.mg C fI nm ok fs) (hr : Room k X.A) (hk1 : 1 ≤ k) (ha : PA X (a :: as) ta) (hg : Gl X nm) (hdb : (nm == ("__debug__" : Str)) = false := by decide)
    (he : starEach (a :: as) X.env = (false, eval a X.env) :: starEach as X.env := by rfl) (hpl : (backTo pos (starEach as X.env)).any (·.1) = false := by rfl) :
    PMk X (.Call (.Name nm p) (a :: as) [] pos) (tMkE C ok fs ta) := by
  intro pins s σ H Q I h
  refine wpAny_Call_Name_kw (ld_glob I hg T.gC ?_ hdb)
  refine PySem.W.callWith_K (h₀ := X.base) I.ok.mod.kin T.kC (thn (ha.run pos pins s σ H _ I h) fun us s1 hh => ?_) he hpl
  obtain ⟨vs, H1, I1, r1, hok, q1⟩ := hh
  refine ⟨I1.kIn, ?_⟩
  show wpAny _ _ (call (.ref C) us) _ _ _
  obtain ⟨mA, rel, run⟩ := T.run vs us hok r1
  have hlim := I1.nolimit
  have hglb := inv_glb I1 T.sup
  have hul : us.length ≤ sizeLine := by
    rw [← r1.length]
    exact Nat.le_trans (T.len vs hok) (by decide)
  obtain ⟨hp, g, dr, tk, os⟩ := s1
  refine wpAny_call (BwM.ex_made T.ex I1.kIn hlim hglb hul (by have := hr.dp; omega) run fun h' tk' e d M => ?_)
  show MkP X pins σ Q (.ref e) ⟨h', g, dr, tk', os⟩
  obtain ⟨oe, fv, hoe, hc, hd, hdat, h1⟩ := M.obj
  have hns := M.ns
  obtain ⟨G', g1, g2⟩ := restrict h' fun b => decide (b ≠ e)
  have gk : ∀ b, b ≠ e → G'.get? b = h'.get? b := fun b hb => g1 b (decide_eq_true hb)
  have ge : G'.get? e = none := g2 e (by simp)
  have old : ∀ b o, hp.get? b = some o → G'.get? b = some o := fun b o q => (gk b (Nat.ne_of_lt (Nat.lt_of_lt_of_le (Heap.lt_size q) M.new))).trans (M.keep b o q)
  have ob : ObjOk X.prog X.w (upd H1 d (.xd (fs vs))) G' d (.xd (fs vs)) := ⟨mA, hns.at (fun o q => (gk d M.dne).trans q), rel⟩
  have J : Inv X pins σ (upd H1 d (.xd (fs vs))) ⟨G', g, dr, tk', os⟩ := I1.laid (t' := tk') old M.dbig ob
  refine ⟨e, oe, fv, ⟨G', g, dr, tk', os⟩, _, .ref C, some d, rfl, J, fun b o q => ?_, ge, hoe, ⟨hc, hd⟩, hdat, h1, ?_, rfl, I1.bare, raises_own T.exC T.tyC, q1 d (I1.hok.fresh M.dbig)⟩
  · by_cases hb : b = e
    · have q' : G'.get? b = some o := q
      rw [hb, ge] at q'
      cases q'
    · exact (gk b hb).symm.trans q
  · rw [upd_ne (Ne.symm M.dne)]
    exact I1.hok.fresh M.new
def ok1 (vs : List V) : Prop := ∃ v, vs = [v]
def fs1 (f : Str) (vs : List V) : List (Str × V) := vs.map fun v => (f, v)
def ok2 (vs : List V) : Prop := ∃ (z : Str) (v : V), vs = [.str z, v] ∧ z.length ≤ 1000
def fs2 (f f2 : Str) (vs : List V) : List (Str × V) := match vs with
  | [v, u] => [(f2, u), (f, v)]
  | _ => []
theorem run1 {nm qual : Str} {st : Stmt} {cda cc : Addr} {y f : Str} (Fx : BwM.ExF K C fI) (T : BwM.ExT K P C fI nm qual st cda cc) (S : BwM.Txt1 st y f) (hf : PySem.W.findIn K (.ref C) f = some none) (vs : List V) (us : List Value) (ok : ok1 vs) (r : Vals vs us) :
    ∃ mA : Str → Option Value, (∀ g, RelO ((fs1 f vs).lookup g) (mA g)) ∧
    ∀ (A' : Around) (R' : Result → Shared → Prop) (s' : Shared) (x t0 : Addr), A'.depth < recursionLimit → K.In s'.heap → s'.heap.NoLimit → BwM.Glb s'.heap → s'.heap.get? x = some (PySem.HandSPX.excO C t0) → K.lookup x = none →
      (∀ h' tk dx, BwM.IniEnd s'.heap h' x C dx mA → R' (.ok (.ret .none)) { s' with heap := h', toks := tk }) → codeAny (model P w) A' (.call (.ref fI) ⟨.ref x :: us, []⟩) R' s' := by
  obtain ⟨v, rfl⟩ := ok
  obtain ⟨u, rfl, ru⟩ := vals1 r
  refine ⟨fun z => if z = f then some u else none, fun g => ?_, fun A' R' s' x t0 h1 h2 h3 h4 h5 h6 h7 => BwM.ini1 Fx T S hf h2 h3 h4 h5 h6 h1 h7⟩
  exact relO_put (fs := []) (mA := fun _ => none) ru (fun _ => True.intro) g
theorem run2 {nm qual : Str} {st : Stmt} {cda cc : Addr} {y f y2 f2 : Str} (Fx : BwM.ExF K C fI) (T : BwM.ExT K P C fI nm qual st cda cc) (S : BwM.Txt2 st y f y2 f2) (hf : PySem.W.findIn K (.ref C) f = some none) (hf2 : PySem.W.findIn K (.ref C) f2 = some none) (vs : List V) (us : List Value) (ok : ok2 vs) (r : Vals vs us) :
    ∃ mA : Str → Option Value, (∀ g, RelO ((fs2 f f2 vs).lookup g) (mA g)) ∧
    ∀ (A' : Around) (R' : Result → Shared → Prop) (s' : Shared) (x t0 : Addr), A'.depth < recursionLimit → K.In s'.heap → s'.heap.NoLimit → BwM.Glb s'.heap → s'.heap.get? x = some (PySem.HandSPX.excO C t0) → K.lookup x = none →
      (∀ h' tk dx, BwM.IniEnd s'.heap h' x C dx mA → R' (.ok (.ret .none)) { s' with heap := h', toks := tk }) → codeAny (model P w) A' (.call (.ref fI) ⟨.ref x :: us, []⟩) R' s' := by
  obtain ⟨z, v, rfl, hz⟩ := ok
  obtain ⟨u, u', rfl, ru, ru'⟩ := vals2 r
  obtain ⟨tz, rfl⟩ := (show ∃ t, u = Value.str z t from ru)
  refine ⟨fun q => if q = f2 then some u' else if q = f then some (.str z tz) else none, fun g => ?_, fun A' R' s' x t0 h1 h2 h3 h4 h5 h6 h7 => BwM.ini2 Fx T S hf hf2 h2 h3 h4 h5 h6 h1 hz h7⟩
  exact relO_put ru' (fun g => relO_put (fs := []) (mA := fun _ => none) ru (fun _ => True.intro) g) g
end
end Bw

namespace Bw
open PySem PySem.Spec PyProof.Rows L2
/-! ### try with clauses, with and without a name -/
abbrev Suite := Addr → Value → Option Addr → TS
def Ends.clr (D : Ends) (i : Nat) : Ends := { nx := fun σ H => D.nx (σ.set i none) H, rt := D.rt, bk := fun σ H => D.bk (σ.set i none) H, ct := fun σ H => D.ct (σ.set i none) H }
def suiteAt (o : Option Nat) (ts : Suite) (cls : Value) (d : Option Addr) (D : Ends) (σ : L2.St) (H : Hp) (a : Addr) : Prop :=
  match o with
  | none => ts a cls d D σ H
  | some i => ts a cls d (Ends.clr D i) (σ.set i (some (.ref a))) H
def wH (K : PySem.W.Frag) (Wout : WX) (D : Ends) : List (Value × Option Nat × Suite) → WX
  | [] => Wout
  | (c, o, ts) :: r => fun cls d σ H => ∃ b, PySem.W.exmOne K cls c = some b ∧ (b = true → ∀ a, H a = none → suiteAt o ts cls d D σ H a) ∧ (b = false → wH K Wout D r cls d σ H)
/-- a clause's name, if it has one -/
def clauseAt (X : Cx) (o : Option Nat) (n : Option Str) : Prop :=
  match o, n with
  | none, none => True
  | some i, some n => X.N[i]? = some n ∧ X.env.kindOf n = some .local
  | _, _ => False
inductive HsOk (X : Cx) : List ExceptHandler → List (Value × Option Nat × Suite) → Prop
  | nil : HsOk X [] []
  | cons {x : Str} {n : Option Str} {c : Value} {o : Option Nat} {ts : Suite} {b₀ : Stmt} {suite : List Stmt} {np pos' : Pos} {hds : List ExceptHandler} {l : List (Value × Option Nat × Suite)} (hc : Names X x c) (hn : clauseAt X o n)
      (hsu : ∀ (a : Addr) (oe : Obj) (cls : Value) (d : Option Addr) (pn : List (Addr × Obj)), Zc cls d oe → (∃ vs, oe.data = .fields vs) → PSs (X.suite a ((a, oe) :: pn)) (b₀ :: suite) (ts a cls d)) (r : HsOk X hds l) :
      HsOk X (.ExceptHandler (some (.Name x np)) n (b₀ :: suite) pos' :: hds) ((c, o, ts) :: l)
section
variable {X : Cx} {body : List Stmt} {h₀ : ExceptHandler} {hds : List ExceptHandler} {l : List (Value × Option Nat × Suite)} {pos : Pos} {tb : WX → TS} {Wout : WX}
/-- what is known of an exception that was caught and lies still -/
structure Caught (X : Cx) (pins : List (Addr × Obj)) (σ : L2.St) (H : Hp) (a : Addr) (B : Heap) (sI s' : Shared) (cls : Value) (d : Option Addr) (h3 : Heap) : Prop where
  I : Inv X pins σ H sI
  nb : ∀ b o, sI.heap.get? b = some o → b ∉ frs X.stack → B.get? b = some o
  up : sI.heap.UpToSlots h3
  fl : HandSPX.FlyingZ B (X.env :: X.outer) a (Zc cls d) h3
  na : H a = none
  os : s'.os = sI.os
  ag : AllBare s'.gens
theorem Caught.notFr {pins : List (Addr × Obj)} {σ : L2.St} {H : Hp} {a : Addr} {B : Heap} {sI s' : Shared} {cls : Value} {d : Option Addr} {h3 : Heap} (c : Caught X pins σ H a B sI s' cls d h3) (hf : X.env.frame = some X.env.locals) : a ≠ X.env.locals ∧ a ∉ X.fs := by
  obtain ⟨oe3, vs3, he3, _, hd3⟩ := c.fl.there
  have nfr : a ∉ frs (X.env :: X.outer) := fun hm => by
    obtain ⟨_, o', e', hnf⟩ := c.fl.2.2.1.mem hm
    rw [he3] at e'
    cases e'
    exact hnf _ hd3
  refine ⟨fun z => nfr (List.mem_filterMap.mpr ⟨X.env, List.mem_cons_self, by rw [hf, z]⟩), fun hm => ?_⟩
  obtain ⟨e, he, q⟩ := List.mem_filterMap.mp hm
  exact nfr (List.mem_filterMap.mpr ⟨e, List.mem_cons_of_mem _ he, q⟩)
theorem handle_all (hs : X.stack = X.env :: X.outer) (hf : X.env.frame = some X.env.locals) (hN : X.N.Nodup) (tk : Takes X Wout) {pins : List (Addr × Obj)} {σ : L2.St} {H : Hp} {a : Addr} {B : Heap} {sI s' : Shared} {cls : Value} {d : Option Addr} {h3 : Heap} {D : Ends}
    (c : Caught X pins σ H a B sI s' cls d h3) (hk : HsOk X hds l) : wH X.K Wout D l cls d σ H → wpAny (model X.prog X.w) X.A (handleBy (.ref a) X.env hds) (SP X pins D) X.xe { s' with heap := h3 } := by
  have ok := c.I.ok
  have J3 : Inv X pins σ H { s' with heap := h3 } := c.I.landed c.nb c.fl.1 c.up c.os c.ag
  obtain ⟨oe3, vs3, he3, hz3, hd3⟩ := c.fl.there
  obtain ⟨nL, nF⟩ := c.notFr hf
  have S3 := J3.suite he3 hd3 c.na nL nF
  induction hk with
  | nil =>
    intro w
    refine wpAny_handleBy_nil ?_
    obtain ⟨k1, k2, k3, oe, vs, T, oT, ts', he, hz, hd, h1, hr⟩ := id c.fl
    unfold PySem.passOn
    refine wpAny_bind (wpAny_field he hd h1 ?_)
    rw [if_neg (show ¬ ((Value.ref T == Value.none) = true) from by simp)]
    have fin : wpAny (model X.prog X.w) X.A (setFlight (.ref a) X.env.frame) (fun _ s4 => wpAny (model X.prog X.w) X.A (throw (.ref a) : Sem Flow) (SP X pins D) X.xe s4) X.xe { s' with heap := h3 } := by
      rw [hf]
      refine HandSPX.setFlight_upZ c.fl fun h4 hh4 up4 => wpAny_throw (tk _ _ ?_)
      exact ⟨a, B, sI, pins, σ, H, cls, d, rfl, c.I, c.nb, c.up.trans up4, .inr (.inr (by rw [hs]; exact hh4)), c.na, c.os, c.ag, w⟩
    first
      | exact wpAny_bind (wpAny_pure (wpAny_bind fin))
      | exact wpAny_bind fin
  | @cons x n cv o ts b₀ suite np pos' hds2 l2 hc hn hsu r ih =>
    intro w
    obtain ⟨b, hb1, hyes, hno⟩ := w
    have LT : PySem.W.Looks (model X.prog X.w) h3 (typeOf (.ref a)) cls := fun A Q E s k q => wpAny_typeOf_ref (k _ _ he3) (by rw [hz3.1]; exact q)
    have LM := PySem.W.exm_one (M := model X.prog X.w) (J3.kIn) LT hb1
    have test : ∀ {Q : Value → Shared → Prop} {E : Value → Shared → Prop}, Q cv { s' with heap := h3 } → wpAny (model X.prog X.w) (X.A.mark (some (.ref a))) (eval (.Name x np) X.env) Q E { s' with heap := h3 } := fun {Q E} q => by
      obtain ⟨hg, hdbg, hm | ⟨hm, hv, hnn⟩⟩ := hc
      · exact ld_glob (X := X.suite a ((a, oe3) :: (X.pn ++ pins))) S3 hg hm q hdbg
      · exact ld_blt (X := X.suite a ((a, oe3) :: (X.pn ++ pins))) S3 hg hm hv q hnn hdbg
    refine wpAny_handleBy_cons (codeAny_handlers_test (test (LM.here ?_))) (by intro q; cases q)
    cases b with
    | false => exact ih (hno rfl)
    | true =>
      have w1 := hyes rfl a c.na
      cases o with
      | none =>
        cases n with
        | some n => exact hn.elim
        | none =>
          refine codeAny_handlers_suite (HandSPX.lands_againZ c.fl fun h4 fl4 up4 => ?_)
          have J4 : Inv X pins σ H { s' with heap := h4 } := c.I.landed c.nb fl4.1 (c.up.trans up4) c.os c.ag
          obtain ⟨oe4, vs4, he4, hz4, hd4⟩ := fl4.there
          refine wpAny_mono ((hsu a oe4 cls d (X.pn ++ pins) hz4 ⟨_, hd4⟩).run [] _ _ H _ (J4.suite he4 hd4 c.na nL nF) w1) (fun f s6 hsp => ?_) (fun _ _ z => False.elim z)
          cases f with
          | ret u => obtain ⟨v6, σ6, H6, S6, r6, q6⟩ := hsp; exact ⟨_, _, _, S6.unsuite ok, r6, q6⟩
          | _ => obtain ⟨σ6, H6, S6, q6⟩ := hsp; exact ⟨_, _, S6.unsuite ok, q6⟩
      | some i =>
        cases n with
        | none => exact hn.elim
        | some n =>
          obtain ⟨hi, hln⟩ := hn
          refine codeAny_handlers_suite_as (HandSPX.lands_againZ c.fl fun h4 fl4 up4 => ?_)
          have J4 : Inv X pins σ H { s' with heap := h4 } := c.I.landed c.nb fl4.1 (c.up.trans up4) c.os c.ag
          obtain ⟨oe4, vs4, he4, hz4, hd4⟩ := fl4.there
          refine store_ok (X := X.suite a ((a, oe4) :: (X.pn ++ pins))) (v := .ref a) (J4.suite he4 hd4 c.na nL nF) hN hi (.inl hln) rfl (fun s5 S5 => ?_) (.inr hln)
          refine wpAny_mono ((hsu a oe4 cls d (X.pn ++ pins) hz4 ⟨_, hd4⟩).run [] s5 _ H _ S5 w1) (fun f s6 hsp => ?_) (fun _ _ z => False.elim z)
          have end_ : ∀ {σ6 : L2.St} {H6 : Hp} {Q : Shared → Prop}, Inv (X.suite a ((a, oe4) :: (X.pn ++ pins))) [] σ6 H6 s6 → (∀ s7, Inv X pins (σ6.set i none) H6 s7 → Q s7) →
              wpAny (model X.prog X.w) X.A (do bindName X.env n .none; unbindBehindTheSuite X.env n pos') (fun _ s7 => Q s7) X.xe s6 := fun {σ6 H6 Q} S6 hq => gone_ok (S6.unsuite ok) hN hi hln hq
          cases f with
          | ret u => obtain ⟨v6, σ6, H6, S6, r6, q6⟩ := hsp; exact end_ S6 fun s7 J7 => ⟨_, _, _, J7, r6, q6⟩
          | _ => obtain ⟨σ6, H6, S6, q6⟩ := hsp; exact end_ S6 fun s7 J7 => ⟨_, _, J7, q6⟩
theorem ps_tryH (hs : X.stack = X.env :: X.outer) (hf : X.env.frame = some X.env.locals) (hN : X.N.Nodup) (tk : Takes X Wout)
    (hb : ∀ (W : WX) (pn : List (Addr × Obj)) (xe : Value → Shared → Prop), Takes (X.tr pn xe) W → PassesOwn (model X.prog X.w) X.A X.env xe → PSs (X.tr pn xe) body (tb W))
    (hh : HsOk X (h₀ :: hds) l) : PS X (.Try body (h₀ :: hds) [] [] pos) (fun D σ H => tb (wH X.K Wout D l) D σ H) := by
  refine ⟨fun pins s σ H D I h => wpAny_Try_except ?_⟩
  have ok := I.ok
  have hfr : X.A.frames = some (X.env :: X.outer) := by rw [ok.frames, hs]
  refine wpAny_mono ((hb (wH X.K Wout D l) (X.pn ++ pins) (fun e s₁ => wpAny (model X.prog X.w) X.A (noteFrame e X.env) (fun _ s₂ => wpAny (model X.prog X.w) X.A (setFlight e none) (fun _ s₃ =>
    wpAny (model X.prog X.w) X.A (handleBy e X.env (h₀ :: hds)) (SP X pins D) X.xe s₃) X.xe s₂) X.xe s₁) (fun u s' xx => ?_) PassesOwn.looking).run [] s σ H D (I.toTry _) h) (fun f s1 hsp => ?_) (fun e s1 he => he)
  · obtain ⟨a, B, sI, pins', σ', H', cls, d, rfl, J', nb, up, sky, na, os, ag, w⟩ := xx
    have sky' : Sky B (X.env :: X.outer) a (Zc cls d) X.env.locals s'.heap := by rw [← hs]; exact sky
    show wpAny (model X.prog X.w) X.A (noteFrame (.ref a) X.env) _ _ _
    exact Sky.land Zc.steady hfr hf sky' fun h3 fl3 up3 => handle_all hs hf hN tk ⟨J'.ofTry ok, nb, up.trans up3, fl3, na, os, ag⟩ hh w
  · cases f with
    | next => obtain ⟨σ', H', J', q⟩ := hsp; exact wpAny_execs_nil ⟨σ', H', J'.ofTry ok, q⟩
    | ret u => obtain ⟨v, σ', H', J', r, q⟩ := hsp; exact ⟨v, σ', H', J'.ofTry ok, r, q⟩
    | _ => obtain ⟨σ', H', J', q⟩ := hsp; exact ⟨σ', H', J'.ofTry ok, q⟩
end
end Bw

namespace BwM
open PySem PySem.W PySem.Spec PySem.Calls PyProof.Rows
section
variable {prog : Program} {w : World} {A : Around} {E : Value → Shared → Prop} {s : Shared} {K : Frag} {x D : Addr} {ox : Obj} {od : Option Obj}
theorem found_any {C : Addr} {name : Str} {a g : Value} (hc : (clsIn K C).isSome = true) (ha : findIn K (.ref C) name = some (some a)) (hg : specialIn K a "__get__" = some (some g)) (ht : takesIn K a = some true) : findObj K C od name = some (.bind g a) := by
  obtain ⟨cd, hc⟩ := Option.isSome_iff_exists.mp hc
  unfold findObj
  rw [hc, Option.bind_some, ha, Option.bind_some]
  simp [hg, ht]
theorem cls_of_exc {Q : Option Value → Shared → Prop} (C : L2.ExcC K D) (X : K.In s.heap) (I : InstAt s.heap x ox D od) (h : Q (some (.ref D)) { s with toks := s.toks + 1 }) : wpAny (model prog w) A (getAttr? (.ref x) "__class__") Q E s := by
  have hf : findObj K D od "__class__" = some (.bind (.builtin "getset_descriptor.__get__") (.builtin "object.__class__")) := found_any (by obtain ⟨cd, hc, _⟩ := any_some C.hd; rw [hc]; rfl) C.ha C.hn C.ht
  obtain ⟨hp, g, d, t, os⟩ := s
  have T0 := I.type (M := model prog w)
  have T1 := looks_findIn (M := model prog w) X C.hg
  have T2 := looks_findIn (M := model prog w) X C.hk
  have T3 := looks_find (M := model prog w) X I hf
  have sub : Looks (model prog w) hp (isInstance (.ref x) (.type "BaseException")) true := T0.andThen (looks_subIn X C.hs)
  have e0 : (Value.builtin "BaseException.__getattribute__" == Value.builtin "object.__getattribute__") = false := by decide +kernel
  have e1 : (onTheHeap (Value.ref D) && Value.builtin "BaseException.__getattribute__" == Value.builtin "object.__getattribute__") = false := by rw [e0]; rfl
  unfold getAttr? getAttrBy? getAttrBy
  refine wpAny_bind (wpAny_mkText (wpAny_bind (wpAny_attempt (wpAny_holding (wpAny_bind (T0.at (wpAny_bind (T1.at ?_))))))))
  show wpAny _ _ (if (onTheHeap (Value.ref D) && Value.builtin "BaseException.__getattribute__" == Value.builtin "object.__getattribute__") = true then _ else _) _ _ _
  rw [e1, if_neg Bool.false_ne_true]
  unfold getAttrByItsOwn hookBefore
  refine wpAny_bind ?_
  rw [if_pos (show onTheHeap (Value.ref D) = true from rfl)]
  refine T2.at (wpAny_bind (wpAny_attempt (wpAny_holding ?_)))
  unfold callGetattribute
  rw [show (false && onTheHeap (Value.builtin "BaseException.__getattribute__")) = false from rfl, if_neg Bool.false_ne_true]
  unfold boundAndCalled
  rw [PySem.F.excAttr_ValueError.ga.bind (.ref x)]
  refine wpAny_bind (wpAny_pure ?_)
  show wpAny _ _ (call (.builtin "BaseException.__getattribute__") [.ref x, .str "__class__" t]) _ _ _
  refine wpAny_call (codeAny_call_builtin PySem.F.excAttr_ValueError.ga.plain PySem.F.entry_bexc_ga ?_)
  refine @check_slot (model prog w) _ _ ⟨hp, g, d, t + 1, os⟩ "BaseException.__getattribute__" "BaseException" "__getattribute__" (.ref x) [.str "__class__" t] [] _ (by decide +kernel) (by decide +kernel) sub (PySem.F.args_bexc_ga (.ref x) (.str "__class__" t)) ?_
  unfold Builtin.«object.__getattribute__»
  refine wpAny_bind (wpAny_of_eq (a := ((Value.ref x : Value), [Value.str "__class__" t])) (by first | rfl | (simp only [slotArgs]; rfl)) ?_)
  refine wpAny_bind (wpAny_pure (wpAny_bind (T0.at (wpAny_bind (T3.at ?_)))))
  show wpAny _ _ (holding [Value.builtin "object.__class__"] (call (.builtin "getset_descriptor.__get__") [.builtin "object.__class__", .ref x, .ref D]) >>= ret) _ _ _
  refine wpAny_bind (wpAny_holding (wpAny_call (class_get (s := ⟨hp, g, d, t + 1, os⟩) (ox := ox) (od := od) X I C.hm ?_)))
  refine wpAny_pure ?_
  show wpAny _ _ (handedOut (.ref D)) _ _ _
  rw [handedOut_of (v := .ref D) rfl]
  first
    | exact wpAny_pure (wpAny_pure h)
    | exact wpAny_pure h
    | exact wpAny_pure (wpAny_bind (wpAny_pure (wpAny_pure h)))
theorem kit_exc (C : L2.ExcC K D) : KitX K (.ref x) (.ref D) (fun h => InstAt h x ox D od) where
  ty := fun _ _ _ I => I.type
  it := fun _ _ X _ => by
    obtain ⟨cdD, hcD, _⟩ := any_some C.hd
    unfold clsIn at hcD
    split at hcD
    · rename_i ho
      intro A' Q' E' s' k q
      unfold isType loadHead
      exact wpAny_bind (wpAny_loadPart (k _ _ (X _ _ ho)) (wpAny_pure q))
    · cases hcD
  ne := fun h tp dd its n sl X htp => by
    obtain ⟨cdD, hcD, _⟩ := any_some C.hd
    refine Bool.eq_false_iff.mpr fun q => ?_
    have e : D = tp := Value.ref.inj (beq_iff_eq.mp q)
    subst e
    unfold clsIn at hcD
    split at hcD
    · rename_i ho
      cases (X _ _ ho).symm.trans htp
    · cases hcD
  ca := fun X I k => cls_of_exc C X I k
end
end BwM
namespace Bw
open PySem PySem.Spec PyProof.Rows L2
/-- isinstance(e, c), e the error that the suite holds (its dict may stand) -/
theorem call_isX {X : Cx} {a D : Addr} {oe : Obj} {dx : Option Addr} {pn : List (Addr × Obj)} (C : ExcC X.K D) (hz : Zc (.ref D) dx oe) (hf : ∃ vs, oe.data = .fields vs) :
    CallR (X.suite a ((a, oe) :: pn)) (.builtin "isinstance") (fun xs H Q => (∀ d, dx = some d → ∃ fs, H d = some (.xd fs)) ∧ rIsE X.K D a xs H Q) := by
  intro pins s σ H xs us Q I r h
  obtain ⟨hd, c, cv, b, rfl, hcv, e, q⟩ := h
  obtain ⟨u1, u2, rfl, r1, r2⟩ := vals2 r
  cases r1
  have ec := hcv _ r2
  subst ec
  obtain ⟨hget, _⟩ := I.pin (a, oe) (List.mem_append.mpr (.inl List.mem_cons_self))
  obtain ⟨vs, hv⟩ := hf
  have J : ∃ od, PySem.W.InstAt s.heap a oe D od := by
    obtain ⟨oc, odd, oda, osl⟩ := oe
    obtain ⟨h1, h2⟩ := hz
    dsimp only at h1 h2 hv
    subst h1 h2 hv
    cases odd with
    | none => exact ⟨none, hget, rfl, rfl, trivial⟩
    | some d =>
      obtain ⟨fs, hd⟩ := hd d rfl
      obtain ⟨mA, hns, _⟩ := (show ObjOk X.prog X.w H s.heap d (.xd fs) from I.hok d _ hd)
      obtain ⟨od, ho, _⟩ := lookIn_ns hns
      exact ⟨some od, hget, rfl, rfl, ho⟩
  obtain ⟨od, J⟩ := J
  exact PySem.W.kia_one (BwM.kit_exc (od := od) C) I.kIn J e (fun z => nomatch z) fun tk => ⟨.bl b, H, I.kept (t' := tk) fun _ _ z => z, rfl, q⟩
end Bw

namespace BwM
open PySem PySem.W PySem.Spec PySem.Calls PyProof.Rows

theorem int_mul_ref {M : Model} {A : Around} {E : Value → Shared → Prop} {h : Heap} {g : Array GenState} {d : Drawn} {t : Nat} {os : OsState} {x C dx : Addr} (a : Int) (tk : Tok) (hx : h.get? x = some (instObj C dx)) {Q : Fin → Shared → Prop}
    (hq : Q (.done (.ret .notImplemented)) ⟨h, g, d, t, os⟩) : wpAny M A (Builtin.«int.__mul__» ⟨[.int a tk, .ref x], []⟩) Q E ⟨h, g, d, t, os⟩ := by
  wp_walk
  exact hq
section
variable {prog : Program} {w : World} {A : Around} {E : Value → Shared → Prop} {s : Shared} {K : Frag} {x C f g L : Addr} {od : Option Obj} {h₀ : Heap} {m : Str → Option Value} {dx : Addr} {sl : Array (Option Value)}
structure Wr (P : Prop) : Prop where
  go : P
theorem call_mul_ref {hh : Heap} {gg : Array GenState} {d : Drawn} {tt : Nat} {os : OsState} {i : Int} {t : Tok} {Q : Value → Shared → Prop} (hx : hh.get? x = some (instObj C dx)) (hq : Wr (Q .notImplemented ⟨hh, gg, d, tt, os⟩)) :
    wpAny (model prog w) A (call (.builtin "int.__mul__") [.int i t, .ref x]) Q E ⟨hh, gg, d, tt, os⟩ :=
  wpAny_call_entry (b := Builtin.«int.__mul__») (self := .int i t) (rest := [.ref x]) F.slot_int_mul (typeIs_int _ i t) F.entry_int_mul (int_mul_ref i t hx ⟨_, rfl, hq.go⟩) (F.args_int_mul_2 (.int i t) (.ref x))
/-- i * o where the class of o has its own reflected method -/
theorem refl_mul {i : Int} {t : Tok} {Q : Value → Shared → Prop} (X : K.In s.heap) (I : InstAt s.heap x (instObj C dx) C od) (hc : selfFirst K C = true) (hs : findIn K (.ref C) (PySem.dunder "mul") = some (some (.ref g)))
    (hr : findIn K (.ref C) (dunderR "mul") = some (some (.ref f))) (hf : isFn K (.ref f) = true) (hsub : subIn K (.ref C) (.type "int") = some false)
    (h : wpAny (model prog w) A (call (.ref f) [.ref x, .int i t]) (W.CmpBack Q) E s) : wpAny (model prog w) A (binaryOp .Mult (.int i t) (.ref x)) Q E s := by
  obtain ⟨cd, rest, hcd, hm⟩ := ksp_first hc
  have one := ksp_try (Q := Q) X I hr hf h
  obtain ⟨hh, gg, d, tt, os⟩ := s
  have T1 : Looks (model prog w) hh (typeOf (.int i t)) (.type "int") := Looks.of_pure rfl
  have T2 : Looks (model prog w) hh (typeOf (.ref x)) (.ref C) := I.type
  have T3 : Looks (model prog w) hh (fillsNumberSlot (.type "int") "mul") true := Looks.of_pure F.fills_int_mul
  have T4 : Looks (model prog w) hh (fillsNumberSlot (.ref C) "mul") true := fills_K X hcd hm hs
  have T5 : Looks (model prog w) hh (isSubtype (.ref C) (.type "int")) false := looks_subIn X hsub
  have T6 : Looks (model prog w) hh (numberSlotInPython (.type "int") "mul") false := Looks.of_pure rfl
  have hne : (Value.type "int" == Value.ref C) = false := Bool.eq_false_iff.mpr fun q => by cases beq_iff_eq.mp q
  have lk : typeLookup (.type "int") (PySem.dunder "mul") = pure (some (.builtin "int.__mul__")) := by rw [typeLookup_type, builtinLookup_eq_fast]; kernel_rfl
  have T7 : Looks (model prog w) hh (specialOf (.int i t) (PySem.dunder "mul")) (some (.builtin "int.__mul__")) := T1.andThen (Looks.of_pure lk)
  have two : wpAny (model prog w) A (tryMethod (.int i t) (PySem.dunder "mul") (.ref x)) (fun r s' => r = none ∧ s' = ⟨hh, gg, d, tt, os⟩) E ⟨hh, gg, d, tt, os⟩ := by
    unfold tryMethod callSpecial?
    refine wpAny_bind ?_
    refine wpAny_bind ?_
    refine T7.at ?_
    refine wpAny_holding (wpAny_bind ?_)
    rw [show (Value.builtin "int.__mul__" : Value) = .builtin "int.__mul__" from rfl, F.slot_int_mul.bind]
    refine wpAny_pure ?_
    refine wpAny_bind ?_
    show wpAny _ _ (call (.builtin "int.__mul__") [.int i t, .ref x]) _ _ _
    exact call_mul_ref I.at_ ⟨wpAny_pure (wpAny_pure ⟨rfl, rfl⟩)⟩
  unfold binaryOp
  refine wpAny_holding (wpAny_bind ?_)
  unfold binaryOp1
  refine wpAny_bind (T1.at ?_)
  refine wpAny_bind (T2.at ?_)
  show wpAny (model prog w) A (fillsNumberSlot (.type "int") "mul" >>= _) _ _ _
  refine wpAny_bind (T3.at ?_)
  simp only [hne, Bool.false_eq_true, if_false]
  refine wpAny_bind (T4.at ?_)
  simp only [Bool.and_self, if_true]
  refine wpAny_bind (T5.at ?_)
  simp only [Bool.false_eq_true, if_false, Bool.not_false, Bool.and_self, if_true]
  refine wpAny_bind (T6.at ?_)
  simp only [Bool.false_eq_true, if_false]
  refine wpAny_bind (wpAny_mono two (fun r s' z => ?_) fun _ _ z => z)
  obtain ⟨rfl, rfl⟩ := z
  refine wpAny_bind (wpAny_mono one (fun r s' z => ?_) fun _ _ z => z)
  obtain ⟨v, rfl, q⟩ := z
  exact wpAny_bind (wpAny_rule (wpAny_pure (wpAny_pure q)))
end
end BwM

namespace Bw
open PySem PySem.Spec PyProof.Rows L2
section
variable {X : Cx} {W : WX} {k : Nat} {f g C : Addr} {sp : Sp} {a b o e : Expr} {es : List Expr} {ta tb : TE} {t : TA} {pos apos p : Pos} {nm : String} {m x : Str}
/-- a * b, a an int, b an instance of the class at C with its own reflected product -/
def tRefI (C : Addr) (sp : Sp) (W : WX) (ta tb : TE) : TE := fun σ H Q => ta σ H fun x H1 => tb σ H1 fun y H2 =>
  ∃ i b dx fs, x = .int i ∧ y = .ref b ∧ H2 b = some (.ins C dx fs) ∧ sp [y, x] H2 Q (WE W σ)
theorem pe_refI (O : OpF X.K C "mul" g) (hr : PySem.W.findIn X.K (.ref C) (PySem.dunderR "mul") = some (some (.ref f))) (hf : PySem.W.isFn X.K (.ref f) = true) (hs : PySem.W.subIn X.K (.ref C) (.type "int") = some false) (G : Call1 X W k f sp)
    (ha : PE X a ta) (hb : PE X b tb) : PE X (.BinOp a .Mult b pos) (tRefI C sp W ta tb) := by
  refine ⟨fun pins s σ H Q I h => ?_⟩
  refine wpAny_BinOp (binT ha hb I h fun v u s2 x y H2 I2 rx ry q => ?_)
  obtain ⟨i, b, dx, fs, rfl, rfl, h1, q⟩ := q
  cases ry
  obtain ⟨tk, rfl⟩ := (show ∃ t, v = Value.int i t from rx)
  obtain ⟨od, J⟩ := inst_at I2 h1
  exact BwM.refl_mul I2.kIn J O.self O.at_ hr hf hs (G.back (vs := [.ref b, .int i]) I2 (.cons rfl (.cons ⟨tk, rfl⟩ .nil)) q)
/-- x is True, x is False -/
def rIsL : R2 := fun x y H Q => ∃ b, y = .bl b ∧ Q (.bl (decide (x = .bl b))) H
theorem op_isL : OpR X (compareOp .Is) rIsL := by
  intro pins s σ H x y v u Q I rx ry h
  obtain ⟨b, rfl, q⟩ := h
  cases (show u = Value.bool b from ry)
  by_cases e : x = .bl b
  · subst e
    cases (show v = Value.bool b from rx)
    exact wpAny_is_self rfl ⟨.bl true, H, I, rfl, by simpa using q⟩
  · have hv : v ≠ .bool b := by
      intro z
      subst z
      cases x with
      | bl c => exact e (congrArg V.bl (Value.bool.inj (show Value.bool b = Value.bool c from rx)).symm)
      | non => exact nomatch (show Value.bool b = Value.none from rx)
      | int i => obtain ⟨t, q⟩ := (show ∃ t, Value.bool b = Value.int i t from rx); cases q
      | str i => obtain ⟨t, q⟩ := (show ∃ t, Value.bool b = Value.str i t from rx); cases q
      | byt i => obtain ⟨t, q⟩ := (show ∃ t, Value.bool b = Value.bytes i t from rx); cases q
      | flt i => obtain ⟨t, q⟩ := (show ∃ t, Value.bool b = Value.float i t from rx); cases q
      | ref a => exact nomatch (show Value.bool b = Value.ref a from rx)
      | ty n => exact nomatch (show Value.bool b = Value.type n from rx)
    have hs : ∀ w, w ≠ .bool b → RelV x w → plainIs w (.bool b) = true := by
      intro w hw rw'
      cases x with
      | bl c => cases (show w = Value.bool c from rw'); rfl
      | non => cases (show w = Value.none from rw'); rfl
      | int i => obtain ⟨t, q⟩ := (show ∃ t, w = Value.int i t from rw'); cases q; rfl
      | str i => obtain ⟨t, q⟩ := (show ∃ t, w = Value.str i t from rw'); cases q; rfl
      | byt i => obtain ⟨t, q⟩ := (show ∃ t, w = Value.bytes i t from rw'); cases q; rfl
      | flt i => obtain ⟨t, q⟩ := (show ∃ t, w = Value.float i t from rw'); cases q; rfl
      | ref a => cases (show w = Value.ref a from rw'); rfl
      | ty n => cases (show w = Value.type n from rw'); rfl
    exact wpAny_is_other (hs v hv rx) hv ⟨.bl false, H, I, rfl, by simpa [e] using q⟩
end
end Bw

namespace Bw
open PySem PySem.Spec PyProof.Rows L2
/-- a def that lets nothing out, to be called one level down -/
structure CallIn (X : Cx) (k : Nat) (f : Addr) (sp : Sp) : Prop where
  ex : ∃ (fd : FuncData) (ps : List Str), FnOk X.prog X.w X.K X.mg X.base (L2.CX X.prog X.w) k f fd ps sp ∧ Binds X.K fd ps []
  room : Room (k + 1) X.A
section
variable {X : Cx} {W : WX} {k : Nat} {f g C : Addr} {sp : Sp} {a b o e : Expr} {es : List Expr} {ta tb : TE} {t : TA} {pos apos p : Pos} {pins : List (Addr × Obj)} {σ : L2.St} {H : Hp} {s : Shared} {Q : VK} {nm : String} {m x : Str}
theorem CallIn.run (G : CallIn X k f sp) {vs : List V} {us : List Value} {E : Value → Shared → Prop} (I : Inv X pins σ H s) (r : Vals vs us) (h : sp vs H Q E0) :
    wpAny (model X.prog X.w) X.A.in1 (call (.ref f) us) (EP X pins σ Q) E s := by
  obtain ⟨fd, ps, F, B⟩ := G.ex
  have hl : us.length = ps.length := by rw [← r.length]; exact F.len _ _ _ _ h
  have b := B s us I.kIn (by rw [List.append_nil]; exact hl)
  rw [List.append_nil] at b
  refine wpAny_call (codeAny_mono (F.run X.A.in1 X.stack s H ⟨us, []⟩ us vs Q E0 G.room.in1 I.env0.in1 b r h) fun r s' hq => ?_)
  cases r with
  | error e => obtain ⟨_, _, _, _, _, _, _, _, _, _, _, _, z⟩ := hq; exact z.elim
  | ok fl =>
    cases fl with
    | ret u => exact I.after hq
    | _ => exact False.elim hq
/-- len(o), o an instance with its own __len__ -/
def rLenI (C : Addr) (sp : Sp) : List V → Hp → VK → Prop := fun vs H Q => ∃ a dx fs, vs = [.ref a] ∧ H a = some (.ins C dx fs) ∧ sp [.ref a] H (fun v H' => ∃ n : Nat, v = .int n ∧ n < 2 ^ 62 ∧ Q v H') E0
theorem call_lenI (h1 : PySem.W.findIn X.K (.ref C) "__len__" = some (some (.ref f))) (h2 : PySem.W.isFn X.K (.ref f) = true) (G : CallIn X k f sp) : CallR X (.builtin "len") (rLenI C sp) := by
  intro pins s σ H xs us Q I r h
  obtain ⟨a, dx, fs, rfl, ha, q⟩ := h
  obtain ⟨u, rfl, ru⟩ := vals1 r
  cases ru
  obtain ⟨od, J⟩ := inst_at I ha
  obtain ⟨m, hF⟩ := I.fr
  refine PySem.W.len_K hF I.ok.mod.kin J h1 h2 (wpAny_mono (G.run (vs := [.ref a]) I (.cons rfl .nil) q) (fun v s' z => ?_) fun _ _ z => z)
  obtain ⟨y, H', I', ry, n, rfl, hn, q'⟩ := z
  obtain ⟨tk, rfl⟩ := (show ∃ t, v = Value.int n t from ry)
  refine ⟨⟨Int.natCast_nonneg n, by omega⟩, ⟨.int n, H', ?_, ⟨_, rfl⟩, q'⟩⟩
  exact I'.tok _
/-- o.f, a property -/
theorem pe_propI {p : Addr} (c : Cls X.K C) (hp : PropOf X.K C m p f) (G : CallIn X k f sp) (he : PE X e ta) (hab : attributeBase e m X.env (eval e X.env) = eval e X.env := by rfl) : PE X (.Attribute e m pos) (tProp C sp [] E0 ta) := by
  obtain ⟨fd, ps, F, B⟩ := G.ex
  exact pe_prop he c hp F G.room B .nil passL hab
/-- a == b, a an instance with its own __eq__ -/
def tEqI (K : PySem.W.Frag) (C : Addr) (sp : Sp) (W : WX) (ta tb : TE) : TE := fun σ H Q => ta σ H fun x H1 => tb σ H1 fun y H2 =>
  ∃ a dx fs t, x = .ref a ∧ H2 a = some (.ins C dx fs) ∧ TyX K H2 y t ∧ PySem.W.notFirst K C t = true ∧ sp [x, y] H2 Q (WE W σ)
theorem pe_eqI (h1 : PySem.W.findIn X.K (.ref C) "__eq__" = some (some (.ref f))) (h2 : PySem.W.isFn X.K (.ref f) = true) (G : Call1 X W k f sp) (ha : PE X a ta) (hb : PE X b tb) : PE X (.Compare a [.Eq] [b] pos) (tEqI X.K C sp W ta tb) := by
  refine ⟨fun pins s σ H Q I h => wpAny_Compare1 (binT ha hb I h fun v u s2 x y H2 I2 rx ry q => ?_) (nomark _)⟩
  obtain ⟨a, dx, fs, t, rfl, h3, ty, hn, q⟩ := q
  cases rx
  obtain ⟨od, J⟩ := inst_at I2 h3
  obtain ⟨m, hF⟩ := I2.fr
  obtain ⟨P, Z, hp, _⟩ := kit_of I2 ry ty
  show wpAny _ _ (richCompare .Eq (.ref a) u) _ _ _
  have Lb : PySem.W.Looks (model X.prog X.w) s2.heap (typeOf u) t := Z.ty _ _ I2.kIn hp
  refine PySem.W.cmp_K (op := .Eq) G.room.units0 hF I2.ok.mod.kin J Lb hn h1 h2 (G.back (vs := [.ref a, y]) I2 (.cons rfl (.cons ry .nil)) q)
end
end Bw

namespace Bw
open PySem PySem.Spec PyProof.Rows L2
/-! ### short names of readings -/
abbrev wE (E : XK) : WX := fun cls d _ H => E cls d H
abbrev w0 : WX := fun _ _ _ _ => False
abbrev rAddI : R2 := rI0 fun i j => .int (i + j)
abbrev rSubI : R2 := rI0 fun i j => .int (i - j)
abbrev rMulW : R2 := rI CMulW fun i j => .int (i * j)
abbrev rModN : R2 := rI (fun _ j => j ≠ 0) fun i j => .int (i.fmod j)
abbrev rDivW : R2 := rI CDivW fun i j => .int (i / j)
abbrev rPowI : R2 := rI CPow fun i j => .int (i ^ j.toNat)
abbrev rOrI : R2 := rI0 fun i j => .int (Builtin.bitOr i j)
abbrev rAndI : R2 := rI0 fun i j => .int (Builtin.bitAnd i j)
abbrev rNegI : V → Hp → VK → Prop := rU fun i => .int (-i)
abbrev rLtI : R2 := rI0 fun i j => .bl (decide (i < j))
abbrev rLeI : R2 := rI0 fun i j => .bl (decide (i ≤ j))
abbrev rGtI : R2 := rI0 fun i j => .bl (decide (j < i))
abbrev rGeI : R2 := rI0 fun i j => .bl (decide (j ≤ i))
abbrev rIsNo : R2 := fun x y H Q => y = .non ∧ Q (.bl (decide (x = .non))) H
abbrev rNotNo : R2 := fun x y H Q => y = .non ∧ Q (.bl (!decide (x = .non))) H
abbrev rAddS : R2 := fun x y H Q => ∃ i j, x = .str i ∧ y = .str j ∧ i.length + j.length ≤ sizeLine ∧ Q (.str (i ++ j)) H
abbrev rLenQ (K : PySem.W.Frag) : List V → Hp → VK → Prop := fun xs H Q => ∃ p ys, xs = [.ref p] ∧ (SqL K H p ys ∨ SqT K H p ys) ∧ Q (.int ys.length) H
abbrev rLenStr : List V → Hp → VK → Prop := fun xs H Q => ∃ z, xs = [.str z] ∧ z.length ≤ sizeLine ∧ Q (.int z.length) H
abbrev rAbs : List V → Hp → VK → Prop := fun xs H Q => ∃ i, xs = [.int i] ∧ Q (.int (if i < 0 then -i else i)) H
def rInt1 : List V → Hp → VK → Prop := fun xs H Q => (∃ i, xs = [.int i] ∧ Q (.int i) H) ∨ ∃ k, xs = [.bl k] ∧ Q (.int (if k then 1 else 0)) H
abbrev rMin2 : List V → Hp → VK → Prop := fun xs H Q => ∃ i j, xs = [.int i, .int j] ∧ Q (.int (if j < i then j else i)) H
abbrev rMax2 : List V → Hp → VK → Prop := fun xs H Q => ∃ i j, xs = [.int i, .int j] ∧ Q (.int (if j > i then j else i)) H
abbrev rListOf (K : PySem.W.Frag) : List V → Hp → VK → Prop := fun xs H Q => ∃ p ys, xs = [.ref p] ∧ (SqL K H p ys ∨ SqT K H p ys) ∧ ∀ l, H l = none → Q (.ref l) (upd H l (.lst ys))
abbrev rStrI : List V → Hp → VK → Prop := fun xs H Q => ∃ i, xs = [.int i] ∧ i.natAbs.log2 < 1920 ∧ Q (.str (toString i)) H
def tRse (W : WX) (t : L2.St → Hp → XK → Prop) : TS := fun _ σ H => t σ H fun cls d H' => W cls d σ H'
def tMkP (C : Addr) : L2.St → Hp → XK → Prop := fun _ H Q => Q (.ref C) none H
def tTry (K : PySem.W.Frag) (Wout : WX) (tb : WX → TS) (l : List (Value × Option Nat × Suite)) : TS := fun D σ H => tb (wH K Wout D l) D σ H
/-! ### fields by a known class -/
def tFldI (C : Addr) (f : Str) (ta : TE) : TE := fun σ H Q => ta σ H fun x H1 => ∃ a dx fs v, x = .ref a ∧ H1 a = some (.ins C dx fs) ∧ fs.lookup f = some v ∧ Q v H1
def tConI (C : Addr) (f : Str) (v : V) (ta : TE) : TE := fun σ H Q => ta σ H fun x H1 => ∃ a dx fs, x = .ref a ∧ H1 a = some (.ins C dx fs) ∧ fs.lookup f = none ∧ Q v H1
def sFldI (C : Addr) (f : Str) (ta tv : TE) : TS := fun D σ H => tv σ H fun y H1 => ta σ H1 fun x H2 => ∃ a dx fs, x = .ref a ∧ H2 a = some (.ins C dx fs) ∧ fs.length < 1000 ∧ D.nx σ (upd H2 a (.ins C dx (putF f y fs)))
section
variable {X : Cx} {C : Addr} {e o value : Expr} {f : Str} {ta tv : TE} {pos pos' : Pos} {v : V}
theorem pe_fldI (c : Cls X.K C) (n : NoAttr X.K C f) (he : PE X e ta) (hb : attributeBase e f X.env (eval e X.env) = eval e X.env := by rfl) : PE X (.Attribute e f pos) (tFldI C f ta) := by
  refine ⟨fun pins s σ H Q I h => ?_⟩
  refine attr_of hb (thn (he.run pins s σ H _ I h) fun u s1 hh => ?_)
  obtain ⟨x, H1, I1, rx, a, dx, fs, v, rfl, ea, l, q⟩ := hh
  obtain rfl : u = Value.ref a := rx
  exact getattr_ok I1 ea c n l fun u' s2 I2 ru => ⟨v, H1, I2, ru, q⟩
theorem pe_conI (c : Cls X.K C) (n : ∃ u, Con X.K C f v u) (he : PE X e ta) (hb : attributeBase e f X.env (eval e X.env) = eval e X.env := by rfl) : PE X (.Attribute e f pos) (tConI C f v ta) := by
  refine ⟨fun pins s σ H Q I h => ?_⟩
  obtain ⟨u0, k⟩ := n
  refine attr_of hb (thn (he.run pins s σ H _ I h) fun u s1 hh => ?_)
  obtain ⟨x, H1, I1, rx, a, dx, fs, rfl, ea, l, q⟩ := hh
  obtain rfl : u = Value.ref a := rx
  exact getcon_ok I1 ea c k l fun s2 I2 => ⟨v, H1, I2, k.rel, q⟩
theorem ps_fldI (c : Cls X.K C) (n : NoAttr X.K C f) (ha : PE X o ta) (hv : PE X value tv) (hs : swapsWith value (some (.Attribute o f pos')) pos.line X.env = pure false) : PS X (.Assign [.Attribute o f pos'] value pos) (sFldI C f ta tv) := by
  refine ⟨fun pins s σ H D I h => ?_⟩
  refine plainObj_wpAny_Assign_Attribute (thn (hv.run pins s σ H _ I h) fun u s1 hh => ?_) hs
  obtain ⟨y, H1, I1, ry, q⟩ := hh
  refine thn (ha.run pins s1 σ H1 _ I1 q) fun ov s2 hh => ?_
  obtain ⟨x, H2, I2, rx, a, dx, fs, rfl, ea, l, q2⟩ := hh
  obtain rfl : ov = Value.ref a := rx
  exact setattr_ok I2 ea c n l ry fun s3 I3 => ⟨σ, _, I3, q2⟩
end
/-! ### facts of the written part -/
section
variable {K : PySem.W.Frag} {C : Addr} {f m : Str}
def fndB (K : PySem.W.Frag) (C : Addr) (m : Str) : Bool := He.eqO (PySem.W.findIn K (.ref C) m) (some (some (.ref (He.ma K C m)))) && PySem.W.isFn K (.ref (He.ma K C m))
theorem fnd1 (h : fndB K C m = true) : PySem.W.findIn K (.ref C) m = some (some (.ref (He.ma K C m))) := He.eqO_ok (He.ba h).1
theorem fnd2 (h : fndB K C m = true) : PySem.W.isFn K (.ref (He.ma K C m)) = true := (He.ba h).2
/-- the getter of a property -/
def getter (K : PySem.W.Frag) (C : Addr) (f : Str) : Addr := match PySem.W.recIn K (He.ma K C f) "property" with
  | some (.ref g :: _) => g
  | _ => 0
def propB (K : PySem.W.Frag) (C : Addr) (f : Str) : Bool := He.eqO (PySem.W.findIn K (.ref C) f) (some (some (.ref (He.ma K C f)))) && (He.eqO (PySem.W.specialIn K (.ref (He.ma K C f)) "__get__") (some (some (.builtin "property.__get__"))) &&
  (decide (PySem.W.takesIn K (.ref (He.ma K C f)) = some true) && (match PySem.W.recIn K (He.ma K C f) "property" with
    | some (.ref _ :: _) => true
    | _ => false)))
theorem propB_ok (h : propB K C f = true) : PropOf K C f (He.ma K C f) (getter K C f) := by
  obtain ⟨h1, h⟩ := He.ba h
  obtain ⟨h2, h⟩ := He.ba h
  obtain ⟨h3, h4⟩ := He.ba h
  refine ⟨He.eqO_ok h1, He.eqO_ok h2, of_decide_eq_true h3, ?_⟩
  unfold getter
  split at h4
  · rename_i g rest e
    rw [e]
    exact ⟨rest, rfl⟩
  · cases h4
def conB (K : PySem.W.Frag) (C : Addr) (f : Str) (v : Int) : Bool := (match PySem.W.findIn K (.ref C) f with
  | some (some (.int j t)) => decide (j = v) && He.eqO (PySem.W.specialIn K (.int j t) "__get__") (some none)
  | _ => false) && !PySem.W.copiedNames.contains f
theorem conB_ok {v : Int} (h : conB K C f v = true) : ∃ u, Con K C f (.int v) u := by
  obtain ⟨h1, h2⟩ := He.ba h
  split at h1
  · rename_i j t e
    obtain ⟨h1, h3⟩ := He.ba h1
    cases of_decide_eq_true h1
    refine ⟨_, e, ⟨t, rfl⟩, ?_, by simpa using h2⟩
    have := He.eqO_ok h3
    exact this
  · cases h1
def excCB (K : PySem.W.Frag) (D : Addr) : Bool := He.eqO (PySem.W.findIn K (.ref D) "__getattribute__") (some (some (.builtin "BaseException.__getattribute__"))) && (He.eqO (PySem.W.findIn K (.ref D) "__getattr__") (some none) &&
  (decide (PySem.W.subIn K (.ref D) (.type "BaseException") = some true) && (PySem.W.hasDictIn K D && (He.eqO (PySem.W.findIn K (.ref D) "__class__") (some (some (.builtin "object.__class__"))) &&
  (He.eqO (PySem.W.specialIn K (.builtin "object.__class__") "__get__") (some (some (.builtin "getset_descriptor.__get__"))) && (decide (PySem.W.takesIn K (.builtin "object.__class__") = some true) && decide (PySem.W.mroIn K D (.type "object") = some true)))))))
theorem excCB_ok {D : Addr} (h : excCB K D = true) : ExcC K D := by
  obtain ⟨h1, h⟩ := He.ba h
  obtain ⟨h2, h⟩ := He.ba h
  obtain ⟨h3, h⟩ := He.ba h
  obtain ⟨h4, h⟩ := He.ba h
  obtain ⟨h5, h⟩ := He.ba h
  obtain ⟨h6, h⟩ := He.ba h
  obtain ⟨h7, h8⟩ := He.ba h
  exact ⟨He.eqO_ok h1, He.eqO_ok h2, of_decide_eq_true h3, h4, He.eqO_ok h5, He.eqO_ok h6, of_decide_eq_true h7, of_decide_eq_true h8⟩
end
/-- isinstance(e, c) in a suite: what the clause's class is, is known behind the raise alone -/
def rIsXx (K : PySem.W.Frag) (cls : Value) (a : Addr) (dx : Option Addr) : List V → Hp → VK → Prop := fun xs H Q => ∃ D, cls = .ref D ∧ excCB K D = true ∧ (∀ d, dx = some d → ∃ fs, H d = some (.xd fs)) ∧ rIsE K D a xs H Q
theorem call_isXx {X : Cx} {a : Addr} {oe : Obj} {cls : Value} {dx : Option Addr} {pn : List (Addr × Obj)} (hz : Zc cls dx oe) (hf : ∃ vs, oe.data = .fields vs) :
    CallR (X.suite a ((a, oe) :: pn)) (.builtin "isinstance") (rIsXx X.K cls a dx) := by
  intro pins s σ H xs us Q I r h
  obtain ⟨D, rfl, c, q⟩ := h
  exact call_isX (excCB_ok c) hz hf pins s σ H xs us Q I r q
/-- a module's constant -/
theorem pe_gint {X : Cx} {x : Str} {v : Int} {pos : Pos} (hg : Gl X x) (hm : ∃ t, X.mg x = some (.int v t)) (hdb : (x == ("__debug__" : Str)) = false := by decide) : PE X (.Name x pos) (tC (.int v)) := by
  refine ⟨fun pins s σ H Q I h => ?_⟩
  obtain ⟨t, hm⟩ := hm
  exact ld_glob I hg hm ⟨.int v, H, I, ⟨t, rfl⟩, h⟩ hdb
theorem pe_gstr {X : Cx} {x v : Str} {pos : Pos} (hg : Gl X x) (hm : ∃ t, X.mg x = some (.str v t)) (hdb : (x == ("__debug__" : Str)) = false := by decide) : PE X (.Name x pos) (tC (.str v)) := by
  refine ⟨fun pins s σ H Q I h => ?_⟩
  obtain ⟨t, hm⟩ := hm
  exact ld_glob I hg hm ⟨.str v, H, I, ⟨t, rfl⟩, h⟩ hdb
/-- two readings of one expression: either -/
theorem pe_alt {X : Cx} {e : Expr} {t t' : TE} (h : PE X e t) (h' : PE X e t') : PE X e (fun σ H Q => t σ H Q ∨ t' σ H Q) := ⟨fun pins s σ H Q I z => z.elim (h.run pins s σ H Q I) (h'.run pins s σ H Q I)⟩
/-! ### what is known of the program that stands -/
structure Tx (fl : List (PySem.W.Frag → Bool)) (fn : List DX) (P : Program) (w : World) (K : PySem.W.Frag) (mg : Str → Option Value) (base : Heap) : Prop where
  ki : K.In base
  ns : base.Ns mainGlobals mg
  says : SaysX (fun K => fl.all fun f => f K) fn K
section
variable {fl : List (PySem.W.Frag → Bool)} {fn : List DX} {P : Program} {w : World} {K : PySem.W.Frag} {mg : Str → Option Value} {base : Heap}
theorem Tx.fa (T : Tx fl fn P w K mg base) (i : Nat) {f : PySem.W.Frag → Bool} (h : fl[i]? = some f) : f K = true := List.all_eq_true.mp T.says.facts f (List.mem_of_getElem? h)
theorem Tx.glo (T : Tx fl fn P w K mg base) (x : Str) (h : (He.Fa.glo x).ok K = true) : mg x = some (.ref (He.ga K x)) := He.glo_ok T.ki T.ns h
theorem Tx.free (T : Tx fl fn P w K mg base) (x : Str) (h : (He.Fa.free x).ok K = true) : mg x = none := He.free_ok T.ki T.ns h
theorem Tx.intc (T : Tx fl fn P w K mg base) (x : Str) (v : Int) (h : (He.Fa.int x v).ok K = true) : ∃ t, mg x = some (.int v t) := He.int_ok T.ki T.ns h
theorem Tx.strc (T : Tx fl fn P w K mg base) (x v : Str) (h : (He.Fa.str x v).ok K = true) : ∃ t, mg x = some (.str v t) := He.str_ok T.ki T.ns h
theorem Tx.df (T : Tx fl fn P w K mg base) (i : Nat) {d : DX} (h : fn[i]? = some d) (hc : d.cl = [] := by rfl) : ∃ fd, FnX K d fd := T.says.def_ i h hc
end
/-! ### a def keeps its promise -/
def OkF (P : Program) (w : World) (K : PySem.W.Frag) (mg : Str → Option Value) (base : Heap) (k : Nat) (f : Addr) (sp : Sp) : Prop :=
  ∃ (fd : FuncData) (ps : List Str), FnOk P w K mg base (L2.CX P w) k f fd ps sp ∧ Binds K fd ps []
section
variable {P : Program} {w : World} {K : PySem.W.Frag} {mg : Str → Option Value} {base : Heap}
theorem okf_of {d : DX} {N ps : List Str} {k : Nat} {sp : Sp} {t : XK → TS} (h : ∃ fd, FnX K d fd) (S : FnScope N ps (defScope d.st)) (len : ∀ vs H Q E, sp vs H Q E → vs.length = ps.length)
    (bind : ∀ (kV doc pm : Value) (an : Option Addr) (cdv ct : Value) (us : List Value), us.length = ps.length → bindArgs (PySem.W.fnOf d.nm d.qn (defArgs d.st) (defBody d.st) (defScope d.st) .none kV doc pm an cdv ct) ⟨us, []⟩ = pure (ps.zip us))
    (walk : ∀ (cdv : Value) (A : Around) (outer : List Env) (s : Shared) (H : Hp) (E : XK), N.Nodup → Takes (cxOf (L2.CX P w) P w K mg base N d.qn (defScope d.st) (d.pl K) cdv A outer s H E) (wE E) →
      Room k (A.deeper (envOfC d.qn (defScope d.st) s.heap.objs.size (d.pl K) cdv)) → PSs (cxOf (L2.CX P w) P w K mg base N d.qn (defScope d.st) (d.pl K) cdv A outer s H E) (defBody d.st) (t E))
    (pure_ : ∀ vs H Q E, sp vs H Q E → t E { nx := fun _ H' => Q .non H', rt := Q } (start N vs) H) : OkF P w K mg base (k + 1) (d.pl K) sp := by
  obtain ⟨fd, F⟩ := h
  exact ⟨fd, ps, F.okX S len fun cdv A outer s H vs Q E hr hsp => ⟨t E, walk cdv A outer s H E S.nd (takes_of rfl rfl rfl rfl) hr, pure_ vs H Q E hsp⟩, F.binds bind⟩
theorem OkF.imp {k : Nat} {f : Addr} {sp sp' : Sp} (F : OkF P w K mg base k f sp) (h : ∀ vs H Q E, sp' vs H Q E → sp vs H Q E) : OkF P w K mg base k f sp' := by
  obtain ⟨fd, ps, G, B⟩ := F
  exact ⟨fd, ps, G.imp h, B⟩
theorem OkF.mono {j k : Nat} {f : Addr} {sp : Sp} (F : OkF P w K mg base j f sp) (h : j ≤ k) : OkF P w K mg base k f sp := by
  obtain ⟨fd, ps, G, B⟩ := F
  exact ⟨fd, ps, G.mono h, B⟩
end
end Bw
namespace Bw
open PySem PySem.Spec PyProof.Rows L2
theorem rInt1_int {i : Int} {H : Hp} {Q : VK} : rInt1 [V.int i] H Q = Q (.int i) H := by
  refine propext ⟨fun h => ?_, fun h => .inl ⟨i, rfl, h⟩⟩
  rcases h with ⟨j, e, q⟩ | ⟨k, e, q⟩
  · cases e; exact q
  · cases e
end Bw
namespace Bw
open PySem PySem.Spec PyProof.Rows L2
section
variable {P : Program} {w : World} {K : PySem.W.Frag} {mg : Str → Option Value} {base : Heap}
/-- as okf_of, of a function object at hand -/
theorem okf_at {d : DX} {N ps : List Str} {k : Nat} {sp : Sp} {t : XK → TS} {fd : FuncData} (F : FnX K d fd) (S : FnScope N ps (defScope d.st)) (len : ∀ vs H Q E, sp vs H Q E → vs.length = ps.length)
    (walk : ∀ (cdv : Value) (A : Around) (outer : List Env) (s : Shared) (H : Hp) (E : XK), N.Nodup → Takes (cxOf (L2.CX P w) P w K mg base N d.qn (defScope d.st) (d.pl K) cdv A outer s H E) (wE E) →
      Room k (A.deeper (envOfC d.qn (defScope d.st) s.heap.objs.size (d.pl K) cdv)) → PSs (cxOf (L2.CX P w) P w K mg base N d.qn (defScope d.st) (d.pl K) cdv A outer s H E) (defBody d.st) (t E))
    (pure_ : ∀ vs H Q E, sp vs H Q E → t E { nx := fun _ H' => Q .non H', rt := Q } (start N vs) H) : FnOk P w K mg base (L2.CX P w) (k + 1) (d.pl K) fd ps sp :=
  F.okX S len fun cdv A outer s H vs Q E hr hsp => ⟨t E, walk cdv A outer s H E S.nd (takes_of rfl rfl rfl rfl) hr, pure_ vs H Q E hsp⟩
/-- a def that lets nothing out, whatever is wished of an exception -/
theorem fn0 {k : Nat} {f : Addr} {fd : FuncData} {ps : List Str} {sp : Sp} (F : FnOk P w K mg base (L2.CX P w) k f fd ps sp) (h : ∀ vs H Q E, sp vs H Q E → sp vs H Q L2.E0) : FnOk P w K mg base L2.CX0 k f fd ps sp :=
  ⟨F.len, fun A outer s H args us vs Q E hr e0 b v hs => codeAny_mono (F.run A outer s H args us vs Q L2.E0 hr e0 b v (h _ _ _ _ hs)) fun r s' q => by
    cases r with
    | ok fl => cases fl <;> exact q
    | error e => obtain ⟨_, _, _, _, _, _, _, _, _, _, _, _, z⟩ := q; exact z.elim⟩
end
end Bw

namespace Bw
open PySem PySem.Spec PyProof.Rows L2
/-! ### an own error's __init__ as it stands in the written part -/
def cellB (K : PySem.W.Frag) (a C : Addr) (file : Str) : Bool := match K.lookup a with
  | some o => (match o.data with
    | .func fd => (match fd.closure with
      | [(_, cc)] => (match K.lookup cc with
        | some oc => (match oc.data with
          | .cell (some (.ref c)) => decide (c = C)
          | _ => false)
        | none => false)
      | _ => false) && (match fd.code with
      | .ref cda => (match K.lookup cda with
        | some oc => (match oc.data with
          | .fields vs => (match (vs[2]? : Option Value) with
            | some (.str f _) => file == f
            | _ => false)
          | _ => false)
        | none => false)
      | _ => false)
    | _ => false)
  | none => false
theorem exT_of {P : Program} {K : PySem.W.Frag} {d : DX} {C : Addr} {file : Str} (hc : d.cl = [("__class__" : Str)]) (hs : seenAt K (d.pl K) = d.val ∧ codeOkAt K (d.pl K) d.qn = true) (hb : cellB K (d.pl K) C file = true) (hf : P.main.file = file) (ht : (P.main.scope.names.lookup ("super" : Str)).isSome = false) :
    ∃ cda cc, BwM.ExT K P C (d.pl K) d.nm d.qn d.st cda cc := by
  obtain ⟨h1, h2⟩ := hs
  obtain ⟨kp, c⟩ := He.ba h2
  unfold seenAt at h1
  unfold cellB at hb
  cases e : K.lookup (d.pl K) with
  | none => rw [e] at c; cases c
  | some o =>
    obtain ⟨oc, od, dt, osl⟩ := o
    rw [e] at c h1 hb
    cases dt with
    | func fd =>
      obtain ⟨n1, n2, n3, n4, n5, n6, n7, n8, n9, n10, n11, n12, n13, n14, n15⟩ := fd
      simp only [DX.val, Option.some.injEq, Prod.mk.injEq] at h1
      obtain ⟨h1, h2, h3, h4, h5, h6, h7, h8⟩ := h1
      rw [hc] at h7
      obtain ⟨b1, b2⟩ := He.ba hb
      obtain ⟨k1, k2⟩ := He.ba c
      subst h1 h2 h3 h4 h5 h6 h8
      cases n8 with
      | none =>
        dsimp only at b1 b2 h7 k1
        cases n7 with
        | nil => cases b1
        | cons q r =>
          obtain ⟨qn, cc⟩ := q
          cases r with
          | cons _ _ => cases b1
          | nil =>
            cases List.head_eq_of_cons_eq h7
            dsimp only at b1 b2
            cases n13 with
            | ref cda =>
              dsimp only at b2
              refine ⟨cda, cc, ⟨oc, od, osl, n9, n10, n11, n12, n14, e⟩, k1, ?_, ?_, ht⟩
              · cases e2 : K.lookup cda with
                | none => rw [e2] at b2; cases b2
                | some o2 =>
                  obtain ⟨oc2, od2, dt2, osl2⟩ := o2
                  rw [e2] at b2
                  cases dt2 with
                  | fields vs =>
                    dsimp only at b2
                    cases e3 : vs[2]? with
                    | none => rw [e3] at b2; cases b2
                    | some v =>
                      rw [e3] at b2
                      cases v with
                      | str f t => exact ⟨_, _, _, _, f, t, rfl, e3, by rw [hf]; exact b2⟩
                      | _ => cases b2
                  | _ => cases b2
              · cases e2 : K.lookup cc with
                | none => rw [e2] at b1; cases b1
                | some o2 =>
                  obtain ⟨oc2, od2, dt2, osl2⟩ := o2
                  rw [e2] at b1
                  cases dt2 with
                  | cell v =>
                    cases v with
                    | none => cases b1
                    | some v =>
                      cases v with
                      | ref c =>
                        cases of_decide_eq_true b1
                        exact ⟨_, _, _, rfl⟩
                      | _ => cases b1
                  | _ => cases b1
            | _ => cases b2
      | _ => cases k2
    | _ => cases c
def exfB (K : PySem.W.Frag) (C fI : Addr) : Bool := PySem.W.excInitIn K C He.veBase "ValueError.__new__" && ((match PySem.W.clsIn K C with
    | some cd => PySem.HandSPX.refsVE cd.mro && cd.hasDict
    | none => false) && (He.eqO (PySem.W.findIn K (.ref C) "__setattr__") (some (some (.builtin "object.__setattr__"))) && (He.eqO (PySem.W.findIn K (.ref C) "__init__") (some (some (.ref fI))) &&
  (decide (PySem.W.typeIn K (.ref fI) = some (.type "function")) && (He.eqO (PySem.W.ks_superIn K C C "__init__") (some (some (.builtin "ValueError.__init__"))) && (decide (PySem.W.subIn K (.ref C) (.type "ValueError") = some true) &&
  (decide (PySem.W.mroIn K C (.ref C) = some true) && (He.eqO (PySem.W.nsIn K cStatics "thirdparty.any") (some none) && (decide (PySem.W.subIn K (.ref C) (.type "BaseException") = some true) && (decide (PySem.W.typeIn K (.ref C) = some (.type "type")) && PySem.W.keepIn K (.ref C)))))))))))
theorem exf_ok {K : PySem.W.Frag} {C fI : Addr} (h : exfB K C fI = true) : BwM.ExF K C fI ∧ PySem.W.subIn K (.ref C) (.type "BaseException") = some true ∧ PySem.W.typeIn K (.ref C) = some (.type "type") ∧ PySem.W.keepIn K (.ref C) = true := by
  obtain ⟨h1, h⟩ := He.ba h
  obtain ⟨h2, h⟩ := He.ba h
  obtain ⟨h3, h⟩ := He.ba h
  obtain ⟨h4, h⟩ := He.ba h
  obtain ⟨h5, h⟩ := He.ba h
  obtain ⟨h6, h⟩ := He.ba h
  obtain ⟨h7, h⟩ := He.ba h
  obtain ⟨h8, h⟩ := He.ba h
  obtain ⟨h9, h⟩ := He.ba h
  obtain ⟨ha, h⟩ := He.ba h
  obtain ⟨hb, hk⟩ := He.ba h
  refine ⟨⟨h1, ?_, He.eqO_ok h3, He.eqO_ok h4, of_decide_eq_true h5, He.eqO_ok h6, of_decide_eq_true h7, of_decide_eq_true h8, He.eqO_ok h9⟩, of_decide_eq_true ha, of_decide_eq_true hb, hk⟩
  split at h2
  · rename_i cd e
    obtain ⟨x, y⟩ := He.ba h2
    exact ⟨cd, e, x, y⟩
  · cases h2
section
variable {fl : List (PySem.W.Frag → Bool)} {fn : List DX} {P : Program} {w : World} {K : PySem.W.Frag} {mg : Str → Option Value} {base : Heap} {C : Addr} {file nm : Str} {d : DX}
theorem exk1 {y f : Str} (T : Tx fl fn P w K mg base) (i : Nat) (h : fn[i]? = some d) (hc : d.cl = [("__class__" : Str)]) (hcell : cellB K (d.pl K) C file = true) (hx : exfB K C (d.pl K) = true) (hsup : (He.Fa.free "super").ok K = true) (hg : mg nm = some (.ref C))
    (hn : PySem.W.findIn K (.ref C) f = some none) (hf : P.main.file = file) (ht : (P.main.scope.names.lookup ("super" : Str)).isSome = false) (S : BwM.Txt1 d.st y f) : ExK P w K mg C (d.pl K) nm ok1 (fs1 f) := by
  obtain ⟨cda, cc, E⟩ := exT_of (P := P) hc (T.says.seen i h) hcell hf ht
  obtain ⟨h1, h2, h3, h4⟩ := exf_ok hx
  exact ⟨h1, T.free "super" hsup, h2, h3, h4, hg, fun vs ok => by obtain ⟨v, rfl⟩ := ok; show 1 ≤ 1000; decide, fun vs us ok r => run1 h1 E S hn vs us ok r⟩
theorem exk2 {y f y2 f2 : Str} (T : Tx fl fn P w K mg base) (i : Nat) (h : fn[i]? = some d) (hc : d.cl = [("__class__" : Str)]) (hcell : cellB K (d.pl K) C file = true) (hx : exfB K C (d.pl K) = true) (hsup : (He.Fa.free "super").ok K = true) (hg : mg nm = some (.ref C))
    (hn : PySem.W.findIn K (.ref C) f = some none) (hn2 : PySem.W.findIn K (.ref C) f2 = some none) (hf : P.main.file = file) (ht : (P.main.scope.names.lookup ("super" : Str)).isSome = false) (S : BwM.Txt2 d.st y f y2 f2) : ExK P w K mg C (d.pl K) nm ok2 (fs2 f f2) := by
  obtain ⟨cda, cc, E⟩ := exT_of (P := P) hc (T.says.seen i h) hcell hf ht
  obtain ⟨h1, h2, h3, h4⟩ := exf_ok hx
  exact ⟨h1, T.free "super" hsup, h2, h3, h4, hg, fun vs ok => by obtain ⟨z, v, rfl, _⟩ := ok; show 2 ≤ 1000; decide, fun vs us ok r => run2 h1 E S hn hn2 vs us ok r⟩
end
end Bw

namespace Bw
open PySem PySem.Spec PyProof.Rows L2
/-! ### heaps that grow -/
def Ext (H H' : Hp) : Prop := ∀ a o, H a = some o → H' a = some o
theorem Ext.refl (H : Hp) : Ext H H := fun _ _ h => h
theorem Ext.trans {H H1 H2 : Hp} (a : Ext H H1) (b : Ext H1 H2) : Ext H H2 := fun c o h => b c o (a c o h)
section
variable {K : PySem.W.Frag} {H H1 H2 : Hp} {a p : Addr} {xs : List V} {o : HO}
theorem ext_set (x : Ext H H1) (h : H p = none) : Ext H (upd H1 p o) := fun b u e => by rw [upd_ne (ne_of_none e h)]; exact x b u e
theorem ext_new (h : H p = none) : Ext H (upd H p o) := ext_set (fun _ _ z => z) h
theorem sqL_ext (x : Ext H H1) (h : SqL K H a xs) : SqL K H1 a xs := by
  rcases h with (h | ⟨o, h⟩) | h
  · exact .inl (.inl (x _ _ h))
  · exact .inl (.inr ⟨o, x _ _ h⟩)
  · exact .inr h
theorem sqT_ext (x : Ext H H1) (h : SqT K H a xs) : SqT K H1 a xs := by
  rcases h with (h | ⟨o, h⟩) | h
  · exact .inl (.inl (x _ _ h))
  · exact .inl (.inr ⟨o, x _ _ h⟩)
  · exact .inr h
theorem sqL_of (h : H a = some (.lst xs)) : SqL K H a xs := .inl (.inl h)
theorem sqT_of (h : H a = some (.tup xs)) : SqT K H a xs := .inl (.inl h)
theorem fr_of (x : Ext H H1) (h : H1 p = none) : H p = none := by
  cases e : H p with
  | none => rfl
  | some o => rw [x _ _ e] at h; cases h
end
/-! ### what an iterator gives -/
def SrcAt (J : It) (xs : List V) (H : Hp) : Prop := ∀ i, (∀ x, xs[i]? = some x → J.go i H ∧ ∀ y H', J.yld i H y H' → H' = H ∧ y = x) ∧ (xs.length ≤ i → J.stop i H)
section
variable {K : PySem.W.Frag} {H H1 : Hp} {a : Addr} {xs : List V}
theorem src_list (h : SqL K H a xs) : SrcAt (Itl K a) xs H := fun i => ⟨fun x e => ⟨⟨xs, x, h, e⟩, fun y H' q => ⟨q.1, Option.some.inj ((q.2 xs h).symm.trans e)⟩⟩, fun l => ⟨xs, h, l⟩⟩
theorem src_tup (h : SqT K H a xs) : SrcAt (Itt K a) xs H := fun i => ⟨fun x e => ⟨⟨xs, x, h, e⟩, fun y H' q => ⟨q.1, Option.some.inj ((q.2 xs h).symm.trans e)⟩⟩, fun l => ⟨xs, h, l⟩⟩
def rngV (lo : Int) (n : Nat) : List V := (List.range n).map fun i => V.int (lo + (i : Nat))
theorem rngV_get {lo : Int} {n i : Nat} : (rngV lo n)[i]? = if i < n then some (V.int (lo + (i : Nat))) else none := by
  unfold rngV
  by_cases h : i < n
  · rw [if_pos h, List.getElem?_map, List.getElem?_range h]
    rfl
  · rw [if_neg h, List.getElem?_eq_none (by simp; omega)]
theorem rngV_len {lo : Int} {n : Nat} : (rngV lo n).length = n := by simp [rngV]
theorem src_rng {lo : Int} {n : Nat} : SrcAt (Itr lo n) (rngV lo n) H := by
  intro i
  refine ⟨fun x e => ?_, fun l => by rw [rngV_len] at l; exact l⟩
  rw [rngV_get] at e
  by_cases h : i < n
  · rw [if_pos h] at e
    cases e
    exact ⟨h, fun y H' q => ⟨q.1, q.2⟩⟩
  · rw [if_neg h] at e
    cases e
end
/-! ### for -/
theorem forS {J : It} {xs : List V} {g : TG} {tb : TS} {D : Ends} {σ : L2.St} {H : Hp} (Pv : Nat → L2.St → Hp → Prop) (h0 : Pv 0 σ H) (hl : ∀ i σ H, i ≤ xs.length → Pv i σ H → SrcAt J xs H)
    (hs : ∀ i x σ H, xs[i]? = some x → Pv i σ H → g x σ H fun σ2 H2 => tb { D with nx := Pv (i + 1), ct := Pv (i + 1), bk := D.nx } σ2 H2) (hd : ∀ σ H, Pv xs.length σ H → D.nx σ H) :
    ∃ W : Nat → Nat → L2.St → Hp → Prop, (∃ m, W 0 m σ H) ∧ ∀ i m σ H, W i m σ H →
      (J.stop i H ∧ D.nx σ H) ∨ (J.go i H ∧ ∃ N : L2.St → Hp → Prop, (∀ σ' H', N σ' H' → ∃ m', m' < m ∧ W (i + 1) m' σ' H') ∧ ∀ x H', J.yld i H x H' → g x σ H' fun σ2 H2 => tb { D with nx := N, ct := N, bk := D.nx } σ2 H2) := by
  refine ⟨fun i m σ H => m = xs.length - i ∧ i ≤ xs.length ∧ Pv i σ H, ⟨xs.length, by simp, Nat.zero_le _, h0⟩, ?_⟩
  rintro i m σ H ⟨rfl, hi, p⟩
  have q := hl i σ H hi p i
  by_cases hlt : i < xs.length
  · have e : xs[i]? = some xs[i] := List.getElem?_eq_getElem hlt
    obtain ⟨q1, q2⟩ := q.1 _ e
    refine .inr ⟨q1, Pv (i + 1), fun σ' H' p' => ⟨xs.length - (i + 1), by omega, rfl, hlt, p'⟩, fun x H' y => ?_⟩
    obtain ⟨e1, e2⟩ := q2 x H' y
    subst e1 e2
    exact hs i _ σ _ e p
  · have e : i = xs.length := by omega
    subst e
    exact .inl ⟨q.2 (Nat.le_refl _), hd _ _ p⟩
/-! ### comprehensions -/
theorem lcS {J : It} {xs : List V} {g : TG} {tt : TT} {te : TE} {vs : List Nat} {σ : L2.St} {H1 : Hp} {D : Addr} {Qd : Hp → Prop} (Pv : Nat → Hp → Prop) (h0 : Pv 0 (upd H1 D (.lst []))) (hl : ∀ i H, i ≤ xs.length → Pv i H → SrcAt J xs H)
    (hs : ∀ i x H, xs[i]? = some x → Pv i H → g x (wipe σ vs) H fun σ2 H2 => wipe σ2 vs = wipe σ vs ∧ tt σ2 H2 fun b H3 =>
      if b = true then te σ2 H3 fun y H4 => ∃ acc, H4 D = some (.lst acc) ∧ acc.length < sizeLine ∧ Pv (i + 1) (upd H4 D (.lst (acc ++ [y]))) else Pv (i + 1) H3) (hd : ∀ H, Pv xs.length H → Qd H) :
    ∃ W : Nat → Nat → Hp → Prop, (∃ m, W 0 m (upd H1 D (.lst []))) ∧ ∀ i m H, W i m H →
      (J.stop i H ∧ Qd H) ∨ (J.go i H ∧ ∃ Nx : Hp → Prop, (∀ H', Nx H' → ∃ m', m' < m ∧ W (i + 1) m' H') ∧ ∀ x H', J.yld i H x H' → g x (wipe σ vs) H' fun σ2 H2 => wipe σ2 vs = wipe σ vs ∧ tt σ2 H2 fun b H3 =>
        if b = true then te σ2 H3 fun y H4 => ∃ acc, H4 D = some (.lst acc) ∧ acc.length < sizeLine ∧ Nx (upd H4 D (.lst (acc ++ [y]))) else Nx H3) := by
  refine ⟨fun i m H => m = xs.length - i ∧ i ≤ xs.length ∧ Pv i H, ⟨xs.length, by simp, Nat.zero_le _, h0⟩, ?_⟩
  rintro i m H ⟨rfl, hi, p⟩
  have q := hl i H hi p i
  by_cases hlt : i < xs.length
  · have e : xs[i]? = some xs[i] := List.getElem?_eq_getElem hlt
    obtain ⟨q1, q2⟩ := q.1 _ e
    refine .inr ⟨q1, Pv (i + 1), fun H' p' => ⟨xs.length - (i + 1), by omega, rfl, hlt, p'⟩, fun x H' y => ?_⟩
    obtain ⟨e1, e2⟩ := q2 x H' y
    subst e1 e2
    exact hs i _ _ e p
  · have e : i = xs.length := by omega
    subst e
    exact .inl ⟨q.2 (Nat.le_refl _), hd _ p⟩
theorem fm_len {α β : Type} (f : α → Option β) : ∀ xs : List α, (xs.filterMap f).length ≤ xs.length := fun xs => List.length_filterMap_le f xs
theorem take_get {α β : Type} {f : α → Option β} {xs : List α} {i : Nat} {x : α} (e : xs[i]? = some x) : (xs.take (i + 1)).filterMap f = (xs.take i).filterMap f ++ (match f x with | some y => [y] | none => []) := by
  rw [List.take_add_one, e]
  simp only [Option.toList, List.filterMap_append, List.filterMap_cons, List.filterMap_nil]
  cases f x <;> rfl
/-- elements that change nothing: the list of the values -/
theorem lcF {J : It} {xs : List V} {i0 : Nat} {tt : TT} {te : TE} {σ : L2.St} {H1 : Hp} {D : Addr} {Qd : Hp → Prop} (f : V → Option V) (hD : H1 D = none) (S : ∀ H, Ext H1 H → SrcAt J xs H) (hn : xs.length ≤ sizeLine)
    (step : ∀ x ∈ xs, ∀ H, Ext H1 H → ∀ (R : V → Hp → Prop) (N : Hp → Prop), (∀ y, f x = some y → R y H) → (f x = none → N H) → tt ((wipe σ [i0]).set i0 (some x)) H (fun b H3 => if b = true then te ((wipe σ [i0]).set i0 (some x)) H3 R else N H3))
    (hd : Qd (upd H1 D (.lst (xs.filterMap f)))) :
    ∃ W : Nat → Nat → Hp → Prop, (∃ m, W 0 m (upd H1 D (.lst []))) ∧ ∀ i m H, W i m H →
      (J.stop i H ∧ Qd H) ∨ (J.go i H ∧ ∃ Nx : Hp → Prop, (∀ H', Nx H' → ∃ m', m' < m ∧ W (i + 1) m' H') ∧ ∀ x H', J.yld i H x H' → gName i0 x (wipe σ [i0]) H' fun σ2 H2 => wipe σ2 [i0] = wipe σ [i0] ∧ tt σ2 H2 fun b H3 =>
        if b = true then te σ2 H3 fun y H4 => ∃ acc, H4 D = some (.lst acc) ∧ acc.length < sizeLine ∧ Nx (upd H4 D (.lst (acc ++ [y]))) else Nx H3) := by
  refine lcS (fun i H => H = upd H1 D (.lst ((xs.take i).filterMap f))) (by simp) (fun i H _ e => by rw [e]; exact S _ (ext_new hD)) (fun i x H e p => ?_) (fun H e => by rw [e, List.take_length]; exact hd)
  subst p
  refine ⟨by simp [wipe], step x (List.mem_of_getElem? e) _ (ext_new hD) _ _ (fun y hy => ?_) (fun hy => ?_)⟩
  · refine ⟨_, upd_same, ?_, ?_⟩
    · refine Nat.lt_of_le_of_lt (fm_len f _) ?_
      have := (List.getElem?_eq_some_iff.mp e).1
      rw [List.length_take]
      omega
    · rw [upd_upd, take_get e, hy]
  · rw [take_get e, hy, List.append_nil]
theorem fl_len {α β : Type} {F : α → List β} {b : Nat} : ∀ {xs : List α}, (∀ x ∈ xs, (F x).length ≤ b) → (xs.flatMap F).length ≤ xs.length * b
  | [], _ => by simp
  | x :: r, h => by
    rw [List.flatMap_cons, List.length_append, List.length_cons, Nat.add_mul]
    have := h x List.mem_cons_self
    have := fl_len (F := F) (xs := r) fun y hy => h y (List.mem_cons_of_mem _ hy)
    omega
theorem wipe2 {σ : L2.St} {i0 i1 : Nat} {x y : Option V} (ne : i0 ≠ i1) : wipe ((wipe σ [i0, i1]).set i0 x) [i0, i1] = wipe σ [i0, i1] := by
  show ((((σ.set i1 none).set i0 none).set i0 x).set i1 none).set i0 none = (σ.set i1 none).set i0 none
  rw [List.set_set, List.set_comm (i := i0) (j := i1) _ _ ne, List.set_set, List.set_set]
/-- two sources; the elements change nothing -/
theorem lc2F {J : It} {xs : List V} {i0 i1 : Nat} {wi1 : TI} {tt1 : TT} {te : TE} {σ : L2.St} {H1 : Hp} {D : Addr} {Qd : Hp → Prop} {b : Nat} (ne : i0 ≠ i1) (ys : V → List V) (f : V → V → Option V) (hD : H1 D = none) (S : ∀ H, Ext H1 H → SrcAt J xs H)
    (hb : ∀ x ∈ xs, (ys x).length ≤ b) (hn : xs.length * b ≤ sizeLine)
    (src1 : ∀ x ∈ xs, ∀ H, Ext H1 H → ∀ R : It → Hp → Prop, (∀ J1, (∀ H', Ext H1 H' → SrcAt J1 (ys x) H') → R J1 H) → wi1 ((wipe σ [i0, i1]).set i0 (some x)) H R)
    (step : ∀ x ∈ xs, ∀ y ∈ ys x, ∀ H, Ext H1 H → ∀ (R : V → Hp → Prop) (N : Hp → Prop), (∀ z, f x y = some z → R z H) → (f x y = none → N H) →
      tt1 ((wipe ((wipe σ [i0, i1]).set i0 (some x)) [i1]).set i1 (some y)) H (fun b H3 => if b = true then te ((wipe ((wipe σ [i0, i1]).set i0 (some x)) [i1]).set i1 (some y)) H3 R else N H3))
    (hd : Qd (upd H1 D (.lst (xs.flatMap fun x => (ys x).filterMap (f x))))) :
    ∃ W : Nat → Nat → Hp → Prop, (∃ m, W 0 m (upd H1 D (.lst []))) ∧ ∀ i m H, W i m H →
      (J.stop i H ∧ Qd H) ∨ (J.go i H ∧ ∃ Nx : Hp → Prop, (∀ H', Nx H' → ∃ m', m' < m ∧ W (i + 1) m' H') ∧ ∀ x H', J.yld i H x H' → gName i0 x (wipe σ [i0, i1]) H' fun σ2 H2 => wipe σ2 [i0, i1] = wipe σ [i0, i1] ∧ tYes σ2 H2 fun b H3 =>
        if b = true then wi1 σ2 H3 fun J1 H4 => ∃ W1 : Nat → Nat → Hp → Prop, (∃ m, W1 0 m H4) ∧ ∀ j k H, W1 j k H →
          (J1.stop j H ∧ Nx H) ∨ (J1.go j H ∧ ∃ Nx1 : Hp → Prop, (∀ H', Nx1 H' → ∃ k', k' < k ∧ W1 (j + 1) k' H') ∧ ∀ x H', J1.yld j H x H' → gName i1 x (wipe σ2 [i1]) H' fun σ3 H5 => wipe σ3 [i1] = wipe σ2 [i1] ∧ tt1 σ3 H5 fun b H6 =>
            if b = true then te σ3 H6 fun y H7 => ∃ acc, H7 D = some (.lst acc) ∧ acc.length < sizeLine ∧ Nx1 (upd H7 D (.lst (acc ++ [y]))) else Nx1 H6)
        else Nx H3) := by
  refine ⟨fun i m H => m = xs.length - i ∧ i ≤ xs.length ∧ H = upd H1 D (.lst ((xs.take i).flatMap fun x => (ys x).filterMap (f x))), ⟨xs.length, by simp⟩, ?_⟩
  rintro i m H ⟨rfl, hi, rfl⟩
  have q := S _ (ext_new (o := .lst ((xs.take i).flatMap fun x => (ys x).filterMap (f x))) hD) i
  by_cases hlt : i < xs.length
  · have e : xs[i]? = some xs[i] := List.getElem?_eq_getElem hlt
    obtain ⟨q1, q2⟩ := q.1 _ e
    have hx : xs[i] ∈ xs := List.mem_of_getElem? e
    refine .inr ⟨q1, fun H => H = upd H1 D (.lst ((xs.take (i + 1)).flatMap fun x => (ys x).filterMap (f x))), fun H' p' => ⟨xs.length - (i + 1), by omega, rfl, hlt, p'⟩, fun x H' y => ?_⟩
    obtain ⟨e1, e2⟩ := q2 x H' y
    subst e1 e2
    refine ⟨wipe2 (y := none) ne, ?_⟩
    dsimp only [tYes]
    rw [if_pos rfl]
    refine src1 _ hx _ (ext_new hD) _ fun J1 S1 => ?_
    refine ⟨fun j k H => k = (ys xs[i]).length - j ∧ j ≤ (ys xs[i]).length ∧ H = upd H1 D (.lst (((xs.take i).flatMap fun x => (ys x).filterMap (f x)) ++ ((ys xs[i]).take j).filterMap (f xs[i]))), ⟨(ys xs[i]).length, by simp⟩, ?_⟩
    rintro j k H ⟨rfl, hj, rfl⟩
    have r := S1 _ (ext_new (o := .lst (((xs.take i).flatMap fun x => (ys x).filterMap (f x)) ++ ((ys xs[i]).take j).filterMap (f xs[i]))) hD) j
    by_cases hl2 : j < (ys xs[i]).length
    · have e' : (ys xs[i])[j]? = some (ys xs[i])[j] := List.getElem?_eq_getElem hl2
      obtain ⟨r1, r2⟩ := r.1 _ e'
      refine .inr ⟨r1, fun H => H = upd H1 D (.lst (((xs.take i).flatMap fun x => (ys x).filterMap (f x)) ++ ((ys xs[i]).take (j + 1)).filterMap (f xs[i]))), fun H' p' => ⟨(ys xs[i]).length - (j + 1), by omega, rfl, hl2, p'⟩, fun z H' y => ?_⟩
      obtain ⟨e1, e2⟩ := r2 z H' y
      subst e1 e2
      refine ⟨by show (((wipe ((wipe σ [i0, i1]).set i0 (some xs[i])) [i1]).set i1 (some (ys xs[i])[j])).set i1 none) = (((wipe σ [i0, i1]).set i0 (some xs[i])).set i1 none); rw [List.set_set]; show (((wipe σ [i0, i1]).set i0 (some xs[i])).set i1 none).set i1 none = _; rw [List.set_set], ?_⟩
      refine step _ hx _ (List.mem_of_getElem? e') _ (ext_new hD) _ _ (fun y hy => ?_) (fun hy => ?_)
      · refine ⟨_, upd_same, ?_, ?_⟩
        · rw [List.length_append]
          have l1 := fl_len (F := fun x => (ys x).filterMap (f x)) (b := b) (xs := xs.take i) fun x hx => Nat.le_trans (fm_len _ _) (hb x (List.mem_of_mem_take hx))
          have l2 : (((ys xs[i]).take j).filterMap (f xs[i])).length ≤ j := Nat.le_trans (fm_len _ _) (by rw [List.length_take]; omega)
          have l3 := hb _ hx
          have l4 : (i + 1) * b ≤ xs.length * b := Nat.mul_le_mul_right b hlt
          rw [List.length_take, Nat.min_eq_left hi] at l1
          rw [Nat.add_mul] at l4
          omega
        · rw [upd_upd, take_get e', hy, List.append_assoc]
      · rw [take_get e', hy, List.append_nil]
    · have e1 : j = (ys xs[i]).length := by omega
      subst e1
      refine .inl ⟨r.2 (Nat.le_refl _), ?_⟩
      have e2 : xs.take (i + 1) = xs.take i ++ [xs[i]] := by rw [List.take_add_one, e] <;> rfl
      simp only [e2, List.flatMap_append, List.flatMap_cons, List.flatMap_nil, List.append_nil, List.take_length]
  · have e : i = xs.length := by omega
    subst e
    rw [List.take_length]
    exact .inl ⟨by rw [List.take_length] at q; exact q.2 (Nat.le_refl _), hd⟩
end Bw

namespace Bw
open PySem PySem.Spec PyProof.Rows L2 ItX
/-! ### for x in o, o an instance whose __iter__ gives the iterator of a list -/
section
variable {P : Program} {w : World} {K : PySem.W.Frag} {mg : Str → Option Value} {base : Heap}
/-- a call of a def where the entry's size is told to the promise -/
theorem fn_sized {d : DX} {N ps : List Str} {k : Nat} {sp : Nat → Sp} {fd : FuncData} (F : FnX K d fd) (S : FnScope N ps (defScope d.st)) (len : ∀ n vs H Q E, sp n vs H Q E → vs.length = ps.length)
    (hb0 : ∀ (cdv : Value) (A : Around) (outer : List Env) (s : Shared) (H : Hp) (vs : List V) (Q : VK) (E : XK), N.Nodup → Takes (cxOf (L2.CX P w) P w K mg base N d.qn (defScope d.st) (d.pl K) cdv A outer s H E) (wE E) →
      Room k (A.deeper (envOfC d.qn (defScope d.st) s.heap.objs.size (d.pl K) cdv)) → sp s.heap.objs.size vs H Q E →
      ∃ t, PSs (cxOf (L2.CX P w) P w K mg base N d.qn (defScope d.st) (d.pl K) cdv A outer s H E) (defBody d.st) t ∧ t { nx := fun _ H' => Q .non H', rt := Q } (start N vs) H)
    (A : Around) (outer : List Env) (s : Shared) (H : Hp) (args : Args) (us : List Value) (vs : List V) (Q : VK) (E : XK) (hr : Room (k + 1) A) (e0 : Env0 P w K mg base A outer s H) (hb : BindsTo s fd args (ps.zip us)) (r : Vals vs us)
    (hsp : sp s.heap.objs.size vs H Q E) : codeAny (model P w) A (.call (.ref (d.pl K)) args) (CR (L2.CX P w) outer P w H s Q E) s := by
  obtain ⟨oc, od, kV, doc, pm, an, cdv, ct, osl, rfl, lk, hcd⟩ := F.ex
  have hl := len _ _ _ _ _ hsp
  have up : ∀ b o, base.get? b = some o → s.heap.get? b = some o := fun b o e => (e0.bs b o e).1
  have KX : K.In s.heap := e0.mod.kin.keeps up
  have lim : s.heap.NoLimit := e0.mod.nolimit.keeps up
  have kinds : ∀ y ∈ ps.zip us, (defScope d.st).names.lookup y.1 = some .local ∨ ((defScope d.st).names.lookup y.1 = some .cell ∧ ((cellsFrom (s.heap.objs.size + 1) (defScope d.st).names []).lookup y.1).isSome = true) := by
    rintro ⟨n, v⟩ hy
    rcases S.par n (List.of_mem_zip hy).1 with q | q
    · exact .inl q
    · exact .inr ⟨q, PySem.W.cellsFrom_some _ _ _ (.inl q)⟩
  refine codeAny_call_function hr.depth (KX _ _ lk) rfl S.co S.gen rfl (PySem.W.codeRec_of KX hcd) (hb _ _ _ _ (wpAny_newFunctionEnv_cells S.kind kinds fun env he s1 x => ?_))
  subst he
  refine ⟨lim.keeps x.toInCall.keep, codeAny_func ?_⟩
  obtain ⟨t, ht, hq⟩ := hb0 cdv A outer s H vs Q E S.nd (takes_of rfl rfl rfl rfl) (hr.deeper _) hsp
  refine wpAny_mono (ht.run [] s1 (start N vs) H _ (inv_start S hr.hd e0 hl r x) hq) (fun fl s' hs => ?_) fun e s' hs => hs
  cases fl with
  | ret u => obtain ⟨v, σ', H', J, rv, q⟩ := hs; exact ⟨v, H', J.os, J.bare, J.base, J.hok, rv, q⟩
  | next => obtain ⟨σ', H', J, q⟩ := hs; exact ⟨.non, H', J.os, J.bare, J.base, J.hok, rfl, q⟩
  | brk => obtain ⟨_, _, _, q⟩ := hs; exact q.elim
  | cont => obtain ⟨_, _, _, q⟩ := hs; exact q.elim
/-- what such an __iter__ promises: f the attribute that holds the list -/
def spIt (K : PySem.W.Frag) (C : Addr) (f : Str) (n : Nat) : Sp := fun vs H Q _ => ∃ (a dx l : Addr) (fs : List (Str × V)) (xs : List V), vs = [.ref a] ∧ H a = some (.ins C dx fs) ∧ fs.lookup f = some (.ref l) ∧ SqL K H l xs ∧ ∀ it, H it = none → n ≤ it → Q (.ref it) (upd H it (ItO l it 0))
/-- the method at g is such an __iter__ -/
def ItFn (P : Program) (w : World) (K : PySem.W.Frag) (mg : Str → Option Value) (base : Heap) (C g : Addr) (f : Str) (k : Nat) : Prop :=
  ∀ (A : Around) (outer : List Env) (s : Shared) (H : Hp) (a : Addr) (Q : VK), Room k A → Env0 P w K mg base A outer s H → spIt K C f s.heap.objs.size [.ref a] H Q L2.E0 →
    codeAny (model P w) A (.call (.ref g) ⟨[.ref a], []⟩) (CR (L2.CX P w) outer P w H s Q L2.E0) s
end
def iOwn (K : PySem.W.Frag) (C : Addr) (f : Str) (ta : TE) : TI := fun σ H R => ta σ H fun x H1 => ∃ (a dx l : Addr) (fs : List (Str × V)) (xs : List V), x = .ref a ∧ H1 a = some (.ins C dx fs) ∧ fs.lookup f = some (.ref l) ∧ SqL K H1 l xs ∧ R (Itl K l) H1
theorem pi_own {X : Cx} {tg o : Expr} {C g : Addr} {f : Str} {k : Nat} {ta : TE} (h1 : PySem.W.findIn X.K (.ref C) "__iter__" = some (some (.ref g))) (h2 : PySem.W.isFn X.K (.ref g) = true) (G : ItFn X.prog X.w X.K X.mg X.base C g f k) (hr : Room k X.A) (ho : PE X o ta) : PI X tg o (iOwn X.K C f ta) := by
  refine ⟨fun pins s σ H R I h => thn (ho.run pins s σ H _ I h) fun u s1 hh => ?_⟩
  obtain ⟨x, H1, I1, rx, a, dx, l, fs, xs, rfl, ea, el, hs, q⟩ := hh
  cases rx
  obtain ⟨od, J⟩ := inst_at I1 ea
  obtain ⟨m, hF⟩ := I1.fr
  refine PySem.W.owit_iter hF I1.ok.mod.kin J h1 h2 ?_
  have run := G X.A X.stack s1 H1 a (fun v H2 => ∃ it, v = .ref it ∧ H1 it = none ∧ s1.heap.objs.size ≤ it ∧ H2 = upd H1 it (ItO l it 0)) hr I1.env0 ⟨a, dx, l, fs, xs, rfl, ea, el, hs, fun it h1 h2 => ⟨it, rfl, h1, h2, rfl⟩⟩
  refine wpAny_call (codeAny_mono run fun r s2 hq => ?_)
  cases r with
  | error e => obtain ⟨_, _, _, _, _, _, _, _, _, _, _, _, z⟩ := hq; exact z.elim
  | ok fl =>
    cases fl with
    | next => exact hq.elim
    | brk => exact hq.elim
    | cont => exact hq.elim
    | ret u =>
      obtain ⟨v, H2, I2, rv, it, rfl, hn, hsz, rfl⟩ := I1.after hq
      cases rv
      have hi : upd H1 it (ItO l it 0) it = some (ItO l it 0) := upd_same
      have eo := itO_get I2 hi
      have st : s2.heap.IsListIter it l 0 := ⟨_, eo, rfl, rfl⟩
      have hi' := hi
      unfold ItO at hi'
      have hd : dropH (upd H1 it (ItO l it 0)) it = H1 := by
        funext b
        unfold dropH
        by_cases e : b = it
        · rw [if_pos e, e, hn]
        · rw [if_neg e, upd_ne e]
      have I3 := inv_drop I2 hi'
      have fp := inv_fp I2 hi (Nat.le_trans I1.sz hsz)
      rw [hd] at I3 fp
      have nxt : PySem.W.Looks (model X.prog X.w) s2.heap (specialOf (.ref it) "__next__") (some (.builtin "list_iterator.__next__")) := by
        have T : PySem.W.Looks (model X.prog X.w) s2.heap (typeOf (.ref it)) (.type "list_iterator") := fun A Q E s k q => wpAny_typeOf_ref (k _ _ eo) q
        have lk : typeLookup (.type "list_iterator") "__next__" = pure (some (.builtin "list_iterator.__next__")) := by rw [typeLookup_type, builtinLookup_eq_fast]; kernel_rfl
        exact T.andThen (PySem.W.Looks.of_pure lk)
      unfold PySem.W.OwitIt
      refine nxt.here ?_
      show PIE X pins σ tg R (.ref it) s2
      refine ⟨it, [it], _, _, H1, rfl, I3, turn_list l it, st, fun b hb => ?_, q⟩
      have e : b = it := by simpa using hb
      rw [e]
      exact fp
end Bw

namespace Bw
open PySem PySem.Spec PyProof.Rows L2
/-! ### plain: sorted lists, what comes up twice -/
def insI (a : Int) : List Int → List Int
  | [] => [a]
  | b :: r => if a ≤ b then a :: b :: r else b :: insI a r
def srt : List Int → List Int
  | [] => []
  | a :: r => insI a (srt r)
theorem insI_perm (a : Int) : ∀ l, (insI a l).Perm (a :: l)
  | [] => .refl _
  | b :: r => by
    unfold insI
    split
    · exact .refl _
    · exact ((insI_perm a r).cons b).trans (.swap a b r)
theorem srt_perm : ∀ l, (srt l).Perm l
  | [] => .refl _
  | a :: r => (insI_perm a (srt r)).trans ((srt_perm r).cons a)
theorem insI_le (a : Int) : ∀ l : List Int, l.Pairwise (· ≤ ·) → (insI a l).Pairwise (· ≤ ·)
  | [], _ => by simp [insI]
  | b :: r, h => by
    unfold insI
    obtain ⟨h1, h2⟩ := List.pairwise_cons.mp h
    split
    · rename_i hab
      refine List.pairwise_cons.mpr ⟨fun c hc => ?_, h⟩
      rcases List.mem_cons.mp hc with rfl | hc
      · exact hab
      · exact Int.le_trans hab (h1 c hc)
    · rename_i hab
      refine List.pairwise_cons.mpr ⟨fun c hc => ?_, insI_le a r h2⟩
      rcases List.mem_cons.mp ((insI_perm a r).mem_iff.mp hc) with rfl | hc
      · omega
      · exact h1 c hc
theorem srt_le : ∀ l : List Int, (srt l).Pairwise (· ≤ ·)
  | [] => .nil
  | a :: r => insI_le a _ (srt_le r)
theorem srt_unique {l m : List Int} (p : l.Perm m) (h : l.Pairwise (· ≤ ·)) : l = srt m :=
  List.Perm.eq_of_pairwise (fun _ _ _ _ a b => Int.le_antisymm a b) h (srt_le m) (p.trans (srt_perm m).symm)
theorem srt_of_le {l : List Int} (h : l.Pairwise (· ≤ ·)) : srt l = l := (srt_unique (.refl l) h).symm
theorem srt_congr {l m : List Int} (p : l.Perm m) : srt l = srt m := srt_unique ((srt_perm l).trans p) (srt_le l)
theorem mem_srt {l : List Int} {x : Int} : x ∈ srt l ↔ x ∈ l := (srt_perm l).mem_iff
theorem srt_length (l : List Int) : (srt l).length = l.length := (srt_perm l).length_eq
theorem srt_nodup {l : List Int} (h : l.Nodup) : (srt l).Nodup := (srt_perm l).nodup_iff.mpr h
/-- the first of a sorted list that stands beside its like -/
def adj : List Int → Option Int
  | [] => none
  | a :: r => match r with
    | [] => none
    | b :: _ => if a = b then some a else adj r
/-- the least that comes up twice -/
def rep (l : List Int) : Option Int := adj (srt l)
/-! ### what a deed on lots ends in -/
inductive Out where
  | lot (n : Int) (ms : List Int) | meets (h : Int) | other | notdiv (m : Int) | bad (nm : Str) (v : Int)
def onceOut (n : Int) (rs : List Int) : Out := match rep rs with
  | some h => .meets h
  | none => .lot n (srt rs)
def mulOut (n : Int) (ms : List Int) (f : Int) : Out := onceOut n (ms.map fun m => (m * f) % n)
def addOut (n : Int) (ms : List Int) (n' : Int) (ms' : List Int) : Out := if n = n' then onceOut n (ms.flatMap fun a => ms'.map fun b => (a + b) % n) else .other
def modOut (n : Int) (ms : List Int) (m : Int) : Out := if m < 1 ∨ n % m ≠ 0 then .notdiv m else onceOut m (ms.map fun a => a % m)
def copies (n : Int) (ms : List Int) (t : Int) : List Int := (List.range t.toNat).flatMap fun lap : Nat => ms.map fun a : Int => a + (lap : Int) * n
def powOut (n : Int) (ms : List Int) (t : Int) : Out := if t < 1 then .bad "times" t else if 360 < n * t then .bad "hours" (n * t) else .lot (n * t) (copies n ms t)
/-! ### a lot in the heap -/
structure LotOk (n : Int) (ms : List Int) : Prop where
  n1 : 1 ≤ n
  n2 : n ≤ 360
  asc : ms.Pairwise (· < ·)
  rng : ∀ m ∈ ms, 0 ≤ m ∧ m < n
def lotFs (n : Int) (lm : Addr) : List (Str × V) := [("hours", .int n), ("_members", .ref lm)]
def LotAt (K : PySem.W.Frag) (H : Hp) (a : Addr) (n : Int) (ms : List Int) : Prop := LotOk n ms ∧ ∃ dx lm, H a = some (.ins (He.ga K "Lot") dx (lotFs n lm)) ∧ H lm = some (.lst (ms.map V.int))
theorem LotAt.ext {K : PySem.W.Frag} {H H' : Hp} {a : Addr} {n : Int} {ms : List Int} (h : LotAt K H a n ms) (x : Ext H H') : LotAt K H' a n ms := by
  obtain ⟨o, dx, lm, h1, h2⟩ := h
  exact ⟨o, dx, lm, x _ _ h1, x _ _ h2⟩
theorem asc_len : ∀ (ms : List Int) (lo n : Int), ms.Pairwise (· < ·) → (∀ m ∈ ms, lo ≤ m ∧ m < n) → ms.length ≤ (n - lo).toNat
  | [], _, _, _, _ => Nat.zero_le _
  | m :: r, lo, n, h, hr => by
    obtain ⟨h1, h2⟩ := List.pairwise_cons.mp h
    have q := hr m List.mem_cons_self
    have := asc_len r (m + 1) n h2 fun x hx => ⟨by have := h1 x hx; omega, (hr x (List.mem_cons_of_mem _ hx)).2⟩
    rw [List.length_cons]
    omega
theorem LotOk.len {n : Int} {ms : List Int} (h : LotOk n ms) : ms.length ≤ 360 := by
  have := asc_len ms 0 n h.asc h.rng
  have := h.n2
  omega
/-- how a deed ends, as a call's end: a lot, or an error with its dict -/
def Done (K : PySem.W.Frag) (H : Hp) (Q : VK) (E : XK) : Out → Prop
  | .lot n ms => ∀ H' a, Ext H H' → LotAt K H' a n ms → Q (.ref a) H'
  | .meets h => ∀ H' d, Ext H H' → H' d = some (.xd [("hour", .int h)]) → E (.ref (He.ga K "Meets")) (some d) H'
  | .other => ∀ H', Ext H H' → E (.ref (He.ga K "OtherHours")) none H'
  | .notdiv m => ∀ H' d, Ext H H' → H' d = some (.xd [("number", .int m)]) → E (.ref (He.ga K "NotADivisor")) (some d) H'
  | .bad nm v => ∀ H' d, Ext H H' → H' d = some (.xd [("value", .int v), ("name", .str nm)]) → E (.ref (He.ga K "BadNumber")) (some d) H'
theorem Done.ext {K : PySem.W.Frag} {H H1 : Hp} {Q : VK} {E : XK} {o : Out} (h : Done K H Q E o) (x : Ext H H1) : Done K H1 Q E o := by
  cases o with
  | lot n ms => exact fun H' a y => h H' a (x.trans y)
  | meets m => exact fun H' a y => h H' a (x.trans y)
  | other => exact fun H' y => h H' (x.trans y)
  | notdiv m => exact fun H' a y => h H' a (x.trans y)
  | bad nm v => exact fun H' a y => h H' a (x.trans y)
/-! ### promises -/
def spF (_ : PySem.W.Frag) : Sp := fun _ _ _ _ => False
def sp_hours_checked (K : PySem.W.Frag) : Sp := fun vs H Q E => ∃ n m : Int, vs = [.int n, .int m] ∧ if 1 ≤ n ∧ n ≤ m then Q .non H else Done K H Q E (.bad "hours" n)
def sp_rings_checked (K : PySem.W.Frag) : Sp := fun vs H Q E => ∃ (a b : Addr) (n n' : Int) (ms ms' : List Int), vs = [.ref a, .ref b] ∧ LotAt K H a n ms ∧ LotAt K H b n' ms' ∧ if n = n' then Q .non H else Done K H Q E .other
def sp_each_once (K : PySem.W.Frag) : Sp := fun vs H Q E => ∃ (a : Addr) (rs : List Int), vs = [.ref a] ∧ SqL K H a (rs.map V.int) ∧ rs.length ≤ 200000 ∧ match rep rs with
  | some h => Done K H Q E (.meets h)
  | none => ∀ H' p, Ext H H' → H' p = some (.lst ((srt rs).map V.int)) → Q (.ref p) H'
def sp_Lot_init (K : PySem.W.Frag) : Sp := fun vs H Q E => ∃ (a dx l : Addr) (n : Int) (ms : List Int), vs = [.ref a, .int n, .ref l] ∧ H a = some (.ins (He.ga K "Lot") dx []) ∧ SqL K H l (ms.map V.int) ∧ 1 ≤ n ∧ n ≤ 360 ∧ ms.length ≤ 4000 ∧ (ms.map fun m => m % n).Nodup ∧
  ∀ H' lm, (∀ b o, b ≠ a → H b = some o → H' b = some o) → H' a = some (.ins (He.ga K "Lot") dx (lotFs n lm)) → H' lm = some (.lst ((srt (ms.map fun m => m % n)).map V.int)) → Q .non H'
def sp_Lot_members (K : PySem.W.Frag) : Sp := fun vs H Q E => ∃ (a : Addr) (n : Int) (ms : List Int), vs = [.ref a] ∧ LotAt K H a n ms ∧ ∀ H' p, Ext H H' → H' p = some (.lst (ms.map V.int)) → Q (.ref p) H'
def sp_Lot_len (K : PySem.W.Frag) : Sp := fun vs H Q E => ∃ (a : Addr) (n : Int) (ms : List Int), vs = [.ref a] ∧ LotAt K H a n ms ∧ Q (.int (ms.length : Nat)) H
def sp_Lot_mul (K : PySem.W.Frag) : Sp := fun vs H Q E => ∃ (a : Addr) (n f : Int) (ms : List Int), vs = [.ref a, .int f] ∧ LotAt K H a n ms ∧ f.natAbs < 2 ^ 400 ∧ Done K H Q E (mulOut n ms f)
def sp_Lot_rmul (K : PySem.W.Frag) : Sp := sp_Lot_mul K
def sp_Lot_add (K : PySem.W.Frag) : Sp := fun vs H Q E => ∃ (a b : Addr) (n n' : Int) (ms ms' : List Int), vs = [.ref a, .ref b] ∧ LotAt K H a n ms ∧ LotAt K H b n' ms' ∧ Done K H Q E (addOut n ms n' ms')
def sp_Lot_mod (K : PySem.W.Frag) : Sp := fun vs H Q E => ∃ (a : Addr) (n m : Int) (ms : List Int), vs = [.ref a, .int m] ∧ LotAt K H a n ms ∧ Done K H Q E (modOut n ms m)
def sp_Lot_pow (K : PySem.W.Frag) : Sp := fun vs H Q E => ∃ (a : Addr) (n t : Int) (ms : List Int), vs = [.ref a, .int t] ∧ LotAt K H a n ms ∧ t ≤ 1000 ∧ Done K H Q E (powOut n ms t)
end Bw
namespace Bw
open PySem PySem.Spec PyProof.Rows L2
/-! ### what the written part says of classes, for the readings -/
def raisedC : List Str := ["Meets", "OtherHours", "NotADivisor", "BadNumber"]
def caughtC : List Str := ["Meets", "OtherHours", "NotADivisor", "BadNumber", "WatchError"]
def askedC : List Str := ["Meets", "OtherHours", "NotADivisor", "BadNumber", "RepeatedHour"]
def exmAll (K : PySem.W.Frag) : Bool := raisedC.all fun x => caughtC.all fun y => decide (PySem.W.exmOne K (.ref (He.ga K x)) (.ref (He.ga K y)) = some (decide (x = y) || decide (y = "WatchError")))
def kitAll (K : PySem.W.Frag) : Bool := raisedC.all fun x => excCB K (He.ga K x) && (decide (PySem.W.kitOne K (.ref (He.ga K x)) (.type "ValueError") = some true) && askedC.all fun y => decide (PySem.W.kitOne K (.ref (He.ga K x)) (.ref (He.ga K y)) = some (decide (x = y))))
def insAll (K : PySem.W.Frag) (C : Str) : Bool := (He.Fa.cls C).ok K && (He.eqO (PySem.W.findIn K (.ref (He.ga K C)) "__class__") (some (some (.builtin "object.__class__"))) && (He.eqO (PySem.W.specialIn K (.builtin "object.__class__") "__get__") (some (some (.builtin "getset_descriptor.__get__"))) &&
  (decide (PySem.W.takesIn K (.builtin "object.__class__") = some true) && decide (PySem.W.mroIn K (He.ga K C) (.type "object") = some true))))
theorem insAll_ok {K : PySem.W.Frag} {C : Str} {H : Hp} {a dx : Addr} {fs : List (Str × V)} (h : insAll K C = true) (e : H a = some (.ins (He.ga K C) dx fs)) : TyX K H (.ref a) (.ref (He.ga K C)) := by
  obtain ⟨h1, h⟩ := He.ba h
  obtain ⟨h2, h⟩ := He.ba h
  obtain ⟨h3, h⟩ := He.ba h
  obtain ⟨h4, h5⟩ := He.ba h
  exact .base (.ins e (He.cls_ok h1) (He.eqO_ok h2) (He.eqO_ok h3) (of_decide_eq_true h4) (of_decide_eq_true h5))
structure KF (K : PySem.W.Frag) : Prop where
  exm : exmAll K = true
  kit : kitAll K = true
  lot : insAll K "Lot" = true
theorem KF.ex {K : PySem.W.Frag} (F : KF K) {x y : Str} (hx : x ∈ raisedC) (hy : y ∈ caughtC) : PySem.W.exmOne K (.ref (He.ga K x)) (.ref (He.ga K y)) = some (decide (x = y) || decide (y = "WatchError")) :=
  of_decide_eq_true (List.all_eq_true.mp (List.all_eq_true.mp F.exm x hx) y hy)
theorem KF.kc {K : PySem.W.Frag} (F : KF K) {x : Str} (hx : x ∈ raisedC) : excCB K (He.ga K x) = true := (He.ba (List.all_eq_true.mp F.kit x hx)).1
theorem KF.kv {K : PySem.W.Frag} (F : KF K) {x : Str} (hx : x ∈ raisedC) : PySem.W.kitOne K (.ref (He.ga K x)) (.type "ValueError") = some true := of_decide_eq_true (He.ba (He.ba (List.all_eq_true.mp F.kit x hx)).2).1
theorem KF.ko {K : PySem.W.Frag} (F : KF K) {x y : Str} (hx : x ∈ raisedC) (hy : y ∈ askedC) : PySem.W.kitOne K (.ref (He.ga K x)) (.ref (He.ga K y)) = some (decide (x = y)) :=
  of_decide_eq_true (List.all_eq_true.mp (He.ba (He.ba (List.all_eq_true.mp F.kit x hx)).2).2 y hy)
end Bw

namespace Bw
open PySem PySem.Spec PyProof.Rows L2
/-! ### plain data in the heap, by its depth -/
mutual
inductive Dn (H : Hp) : Nat → V → PyData → Prop
  | non (d : Nat) : Dn H d .non .none
  | bl (d : Nat) (b : Bool) : Dn H d (.bl b) (.bool b)
  | int (d : Nat) (i : Int) : Dn H d (.int i) (.int i)
  | str (d : Nat) (x : Str) : Dn H d (.str x) (.str x)
  | lst {d : Nat} {a : Addr} {xs : List V} {ds : List PyData} (h : H a = some (.lst xs)) (l : xs.length ≤ 200000) (r : DnAll H d xs ds) : Dn H (d + 1) (.ref a) (.list ds)
  | tup {d : Nat} {a : Addr} {xs : List V} {ds : List PyData} (h : H a = some (.tup xs)) (l : xs.length ≤ 200000) (r : DnAll H d xs ds) : Dn H (d + 1) (.ref a) (.tuple ds)
inductive DnAll (H : Hp) : Nat → List V → List PyData → Prop
  | nil (d : Nat) : DnAll H d [] []
  | cons {d : Nat} {v : V} {vs : List V} {p : PyData} {ps : List PyData} (h : Dn H d v p) (r : DnAll H d vs ps) : DnAll H d (v :: vs) (p :: ps)
end
mutual
theorem Dn.ext {H H' : Hp} (x : Ext H H') : ∀ {d : Nat} {v : V} {p : PyData}, Dn H d v p → Dn H' d v p
  | _, _, _, .non d => .non d
  | _, _, _, .bl d b => .bl d b
  | _, _, _, .int d i => .int d i
  | _, _, _, .str d z => .str d z
  | _, _, _, .lst h l r => .lst (x _ _ h) l (DnAll.ext x r)
  | _, _, _, .tup h l r => .tup (x _ _ h) l (DnAll.ext x r)
theorem DnAll.ext {H H' : Hp} (x : Ext H H') : ∀ {d : Nat} {vs : List V} {ps : List PyData}, DnAll H d vs ps → DnAll H' d vs ps
  | _, _, _, .nil d => .nil d
  | _, _, _, .cons h r => .cons (Dn.ext x h) (DnAll.ext x r)
end
theorem dnInts (H : Hp) (d : Nat) : ∀ ns : List Int, DnAll H d (ns.map V.int) (ns.map PyData.int)
  | [] => .nil d
  | n :: r => .cons (.int d n) (dnInts H d r)
/-! ### deeds -/
inductive Deed where
  | mul (n : Int) (ms : List Int) (f : Int) | rmul (n : Int) (ms : List Int) (f : Int) | add (n : Int) (ms : List Int) (n' : Int) (ms' : List Int) | md (n : Int) (ms : List Int) (m : Int) | pw (n : Int) (ms : List Int) (t : Int)
def Deed.out : Deed → Out
  | .mul n ms f => mulOut n ms f
  | .rmul n ms f => mulOut n ms f
  | .add n ms n' ms' => addOut n ms n' ms'
  | .md n ms m => modOut n ms m
  | .pw n ms t => powOut n ms t
/-- the deed's two sides and its number -/
def Deed.at_ (K : PySem.W.Frag) (H : Hp) (x y : V) (w : Int) : Deed → Prop
  | .mul n ms f => w = 0 ∧ f.natAbs < 2 ^ 400 ∧ ∃ a, x = .ref a ∧ LotAt K H a n ms ∧ y = .int f
  | .rmul n ms f => w = 0 ∧ f.natAbs < 2 ^ 400 ∧ ∃ a, y = .ref a ∧ LotAt K H a n ms ∧ x = .int f
  | .add n ms n' ms' => w = 1 ∧ ∃ a b, x = .ref a ∧ LotAt K H a n ms ∧ y = .ref b ∧ LotAt K H b n' ms'
  | .md n ms m => w = 2 ∧ ∃ a, x = .ref a ∧ LotAt K H a n ms ∧ y = .int m
  | .pw n ms t => w = 3 ∧ 0 ≤ t ∧ t ≤ 64 ∧ ∃ a, x = .ref a ∧ LotAt K H a n ms ∧ y = .int t
theorem Deed.ext {K : PySem.W.Frag} {H H' : Hp} {x y : V} {w : Int} {d : Deed} (h : d.at_ K H x y w) (e : Ext H H') : d.at_ K H' x y w := by
  cases d with
  | mul n ms f => obtain ⟨h1, h2, a, h3, h4, h5⟩ := h; exact ⟨h1, h2, a, h3, h4.ext e, h5⟩
  | rmul n ms f => obtain ⟨h1, h2, a, h3, h4, h5⟩ := h; exact ⟨h1, h2, a, h3, h4.ext e, h5⟩
  | add n ms n' ms' => obtain ⟨h1, a, b, h3, h4, h5, h6⟩ := h; exact ⟨h1, a, b, h3, h4.ext e, h5, h6.ext e⟩
  | md n ms m => obtain ⟨h1, a, h3, h4, h5⟩ := h; exact ⟨h1, a, h3, h4.ext e, h5⟩
  | pw n ms t => obtain ⟨h1, h2, h2', a, h3, h4, h5⟩ := h; exact ⟨h1, h2, h2', a, h3, h4.ext e, h5⟩
/-- what is due, as the law writes it -/
def dueD : Out → PyData
  | .lot _ ms => .list (ms.map PyData.int)
  | .meets h => .tuple [.str "Meets", .int h]
  | .other => .tuple [.str "OtherHours"]
  | .notdiv m => .tuple [.str "NotADivisor", .int m]
  | .bad nm v => .tuple [.str "BadNumber", .str nm, .int v]
def ToldAt (K : PySem.W.Frag) (H : Hp) (v : V) : Out → Prop
  | .lot n ms => ∃ a, v = .ref a ∧ LotAt K H a n ms
  | o => Dn H 1 v (dueD o)
def kindsOf : Out → List Bool
  | .lot _ _ => []
  | .meets _ => [true, true, false, false, false, false]
  | .other => [true, false, true, false, false, false]
  | .notdiv _ => [true, false, false, true, false, false]
  | .bad _ _ => [true, false, false, false, true, false]
/-! ### promises of the law's own defs -/
def sp_l_cell (K : PySem.W.Frag) : Sp := fun vs H Q E => ∃ (a : Addr) (ns : List Int) (k : Nat), vs = [.ref a, .int (k : Nat)] ∧ SqL K H a (ns.map V.int) ∧ ∀ r : Int, 0 ≤ r → Q (.int r) H
def sp_l_draws (K : PySem.W.Frag) : Sp := fun vs H Q E => ∃ (c s : Int) (a : Addr) (ms : List Int), vs = [.int c, .int s, .ref a] ∧ 0 ≤ c ∧ 0 ≤ s ∧ s ≤ 1000000 ∧ SqL K H a (ms.map V.int) ∧ ms.length ≤ 1000 ∧ (∀ m ∈ ms, 1 ≤ m ∧ m < 2 ^ 64) ∧
  ∀ H' p (ws : List Int), Ext H H' → H p = none → H' p = some (.lst (ws.map V.int)) → ws.length = ms.length → (∀ (k : Nat) (w m : Int), ws[k]? = some w → ms[k]? = some m → 0 ≤ w ∧ w < m) → Q (.ref p) H'
def sp_l_is_int (K : PySem.W.Frag) : Sp := fun vs H Q E => ∃ i : Int, vs = [.int i] ∧ Q (.bl true) H
def sp_l_same (d : Nat) (K : PySem.W.Frag) : Sp := fun vs H Q E => ∃ (x y : V) (p : PyData), vs = [x, y] ∧ Dn H d x p ∧ Dn H d y p ∧ Q (.bl true) H
def sp_l_digits (K : PySem.W.Frag) : Sp := fun vs H Q E => ∃ c s : Int, vs = [.int c, .int s] ∧ 0 ≤ c ∧ 0 ≤ s ∧ s ≤ 1000000 ∧ ∀ H' (r : Int), Ext H H' → 0 ≤ r → r < 10 ^ 60 → Q (.int r) H'
def Rising (n : Int) (ms : List Int) : Prop := ms.Pairwise (· < ·) ∧ ∀ m ∈ ms, 0 ≤ m ∧ m < n
def sp_l_bits (K : PySem.W.Frag) : Sp := fun vs H Q E => ∃ n b : Int, vs = [.int n, .int b] ∧ 0 ≤ n ∧ n ≤ 10000 ∧ ∀ H' p (ms : List Int), Ext H H' → H p = none → H' p = some (.lst (ms.map V.int)) → Rising n ms → Q (.ref p) H'
def sp_l_subset (K : PySem.W.Frag) : Sp := fun vs H Q E => ∃ c s n : Int, vs = [.int c, .int s, .int n] ∧ 0 ≤ c ∧ 0 ≤ s ∧ s ≤ 1000000 ∧ 0 ≤ n ∧ n ≤ 1000 ∧ ∀ H' p (ms : List Int), Ext H H' → H p = none → H' p = some (.lst (ms.map V.int)) → Rising n ms → Q (.ref p) H'
def sp_l_drawn_lot (K : PySem.W.Frag) : Sp := fun vs H Q E => ∃ c s n w : Int, vs = [.int c, .int s, .int n, .int w] ∧ 0 ≤ c ∧ 0 ≤ s ∧ s ≤ 1000000 ∧ 0 ≤ n ∧ n ≤ 1000 ∧ ∀ H' p (ms : List Int), Ext H H' → H p = none → H' p = some (.lst (ms.map V.int)) → Rising n ms → Q (.ref p) H'
def sp_l_divisors (K : PySem.W.Frag) : Sp := fun vs H Q E => ∃ n : Int, vs = [.int n] ∧ 1 ≤ n ∧ n ≤ 100000 ∧ ∀ H' p (ds : List Int), Ext H H' → H p = none → H' p = some (.lst (ds.map V.int)) → ds ≠ [] → (∀ d ∈ ds, 1 ≤ d ∧ d ≤ n ∧ n % d = 0) → Q (.ref p) H'
def sp_l_numbers (K : PySem.W.Frag) : Sp := fun vs H Q E => ∃ (a : Addr) (ns : List Int) (n : Int), vs = [.ref a, .int n] ∧ SqL K H a (ns.map V.int) ∧ 1 ≤ n ∧ n ≤ 361 ∧
  ∀ H' p (f g t : Int), Ext H H' → H' p = some (.tup [.int f, .int g, .int t]) → f.natAbs < 2 ^ 400 → 0 ≤ t → t ≤ 64 → Q (.ref p) H'
def sp_l_copies (K : PySem.W.Frag) : Sp := fun vs H Q E => ∃ (a : Addr) (n t : Int) (ms : List Int), vs = [.ref a, .int t] ∧ LotAt K H a n ms ∧ 0 ≤ t ∧ t ≤ 64 ∧ Done K H Q E (powOut n ms t)
def sp_l_copies_to_21 (K : PySem.W.Frag) : Sp := fun vs H Q E => ∃ (a : Addr) (n t : Int) (ms : List Int), vs = [.ref a, .int t] ∧ LotAt K H a n ms ∧ 0 ≤ t ∧ t ≤ 21 ∧ Done K H Q E (powOut n ms t)
def sp_l_copies_to_43 (K : PySem.W.Frag) : Sp := fun vs H Q E => ∃ (a : Addr) (n t : Int) (ms : List Int), vs = [.ref a, .int t] ∧ LotAt K H a n ms ∧ 22 ≤ t ∧ t ≤ 43 ∧ Done K H Q E (powOut n ms t)
def sp_l_copies_to_64 (K : PySem.W.Frag) : Sp := fun vs H Q E => ∃ (a : Addr) (n t : Int) (ms : List Int), vs = [.ref a, .int t] ∧ LotAt K H a n ms ∧ 44 ≤ t ∧ t ≤ 64 ∧ Done K H Q E (powOut n ms t)
def sp_l_done (K : PySem.W.Frag) : Sp := fun vs H Q E => ∃ (x y : V) (w : Int) (d : Deed), vs = [x, y, .int w] ∧ d.at_ K H x y w ∧ Done K H Q E d.out
def sp_l_told (K : PySem.W.Frag) : Sp := fun vs H Q E => ∃ (x y : V) (w : Int) (d : Deed), vs = [x, y, .int w] ∧ d.at_ K H x y w ∧ ∀ H' v, Ext H H' → ToldAt K H' v d.out → Q v H'
def sp_l_kinds (K : PySem.W.Frag) : Sp := fun vs H Q E => ∃ (x y : V) (w : Int) (d : Deed), vs = [x, y, .int w] ∧ d.at_ K H x y w ∧ ∀ H' p, Ext H H' → H' p = some (.lst ((kindsOf d.out).map V.bl)) → Q (.ref p) H'
def sp_l_is_lot (K : PySem.W.Frag) : Sp := fun vs H Q E => ∃ (a l : Addr) (n : Int) (ms : List Int), vs = [.ref a, .int n, .ref l] ∧ LotAt K H a n ms ∧ H l = some (.lst (ms.map V.int)) ∧ ∀ H', Ext H H' → Q (.bl true) H'
def sp_l_agrees (K : PySem.W.Frag) : Sp := fun vs H Q E => ∃ (x y u : V) (w n : Int) (d : Deed), vs = [x, y, .int w, .int n, u] ∧ d.at_ K H x y w ∧ Dn H 1 u (dueD d.out) ∧ (∀ n' ms, d.out = .lot n' ms → n = n') ∧ ∀ H', Ext H H' → Q (.bl true) H'
def sp_l_once (K : PySem.W.Frag) : Sp := fun vs H Q E => ∃ (a : Addr) (n : Int) (rs : List Int), vs = [.ref a, .int n] ∧ H a = some (.lst (rs.map V.int)) ∧ 0 ≤ n ∧ n ≤ 1000 ∧ (∀ r ∈ rs, 0 ≤ r ∧ r < n) ∧ ∀ H' v, Ext H H' → Dn H' 1 v (dueD (onceOut n rs)) → Q v H'
def sp_l_sums (K : PySem.W.Frag) : Sp := fun vs H Q E => ∃ (a b : Addr) (n r : Int) (ms ms' : List Int), vs = [.ref a, .ref b, .int n, .int r] ∧ H a = some (.lst (ms.map V.int)) ∧ H b = some (.lst (ms'.map V.int)) ∧ LotOk n ms ∧ LotOk r ms' ∧ ∀ H' v, Ext H H' → Dn H' 1 v (dueD (addOut n ms r ms')) → Q v H'
def sp_l_products (K : PySem.W.Frag) : Sp := fun vs H Q E => ∃ (a l : Addr) (n f : Int) (ms : List Int), vs = [.ref a, .ref l, .int n, .int f] ∧ LotAt K H a n ms ∧ H l = some (.lst (ms.map V.int)) ∧ f.natAbs < 2 ^ 400 ∧ ∀ H', Ext H H' → Q (.bl true) H'
def sp_l_residues (K : PySem.W.Frag) : Sp := fun vs H Q E => ∃ (a l : Addr) (n m : Int) (ms : List Int), vs = [.ref a, .ref l, .int n, .int m] ∧ LotAt K H a n ms ∧ H l = some (.lst (ms.map V.int)) ∧ ∀ H', Ext H H' → Q (.bl true) H'
def sp_l_copied (K : PySem.W.Frag) : Sp := fun vs H Q E => ∃ (a l : Addr) (n t : Int) (ms : List Int), vs = [.ref a, .ref l, .int n, .int t] ∧ LotAt K H a n ms ∧ H l = some (.lst (ms.map V.int)) ∧ 0 ≤ t ∧ t ≤ 64 ∧ ∀ H', Ext H H' → Q (.bl true) H'
def sp_law (K : PySem.W.Frag) : Sp := fun vs H Q E => ∃ (a : Addr) (ns : List Int), vs = [.ref a] ∧ SqL K H a (ns.map V.int) ∧ ∀ H', Q (.bl true) H'
theorem lot_h (n : Int) (lm : Addr) : (lotFs n lm).lookup ("hours" : Str) = some (V.int n) := rfl
theorem lot_m (n : Int) (lm : Addr) : (lotFs n lm).lookup ("_members" : Str) = some (V.ref lm) := rfl
/-! ### lists of ints -/
def fI (g : Int → Option Int) : V → Option V
  | .int i => (g i).map V.int
  | _ => none
theorem fm_fI (g : Int → Option Int) : ∀ ns : List Int, (ns.map V.int).filterMap (fI g) = (ns.filterMap g).map V.int
  | [] => rfl
  | n :: r => by
    rw [List.map_cons, List.filterMap_cons, List.filterMap_cons, fm_fI g r]
    have e : fI g (.int n) = (g n).map V.int := rfl
    rw [e]
    cases g n <;> rfl
theorem fm_some {α β : Type} (g : α → β) : ∀ ns : List α, ns.filterMap (fun i => some (g i)) = ns.map g := fun ns => List.filterMap_eq_map ▸ rfl
theorem mem_mapI {ns : List Int} {x : V} (h : x ∈ ns.map V.int) : ∃ i ∈ ns, x = .int i := by
  obtain ⟨i, hi, e⟩ := List.mem_map.mp h
  exact ⟨i, hi, e.symm⟩
theorem adj_some : ∀ (l : List Int) (i : Nat) (x : Int), (∀ j, j < i → l[j]? ≠ l[j + 1]?) → l[i]? = some x → l[i + 1]? = some x → adj l = some x
  | [], _, _, _, h, _ => by cases h
  | [a], i, x, _, _, h => by cases i <;> cases h
  | a :: b :: r, 0, x, _, h1, h2 => by
    cases h1
    cases h2
    show (if a = a then some a else adj (a :: r)) = some a
    rw [if_pos rfl]
  | a :: b :: r, i + 1, x, h, h1, h2 => by
    unfold adj
    have : a ≠ b := fun e => h 0 (Nat.succ_pos _) (by rw [e] <;> rfl)
    dsimp only
    rw [if_neg this]
    exact adj_some (b :: r) i x (fun j hj => h (j + 1) (Nat.succ_lt_succ hj)) h1 h2
theorem adj_none : ∀ l : List Int, (∀ j, j + 1 < l.length → l[j]? ≠ l[j + 1]?) → adj l = none
  | [], _ => rfl
  | [a], _ => rfl
  | a :: b :: r, h => by
    unfold adj
    have : a ≠ b := fun e => h 0 (by simp) (by rw [e] <;> rfl)
    dsimp only
    rw [if_neg this]
    exact adj_none (b :: r) fun j hj => h (j + 1) (Nat.succ_lt_succ hj)
theorem atI_nat {α : Type} {xs : List α} {i : Int} {k : Nat} {x : α} (e : i = k) (h : xs[k]? = some x) : atI xs i = some x := by
  have hk : k < xs.length := (List.getElem?_eq_some_iff.mp h).1
  unfold atI ixN
  rw [e, if_pos (by omega), if_pos (by omega)]
  exact h
end Bw
namespace Bw
open PySem PySem.Spec PyProof.Rows L2
theorem mod_id {n : Int} {ms : List Int} (h : ∀ m ∈ ms, 0 ≤ m ∧ m < n) : ms.map (fun m => m % n) = ms := by
  have : ms.map (fun m => m % n) = ms.map id := List.map_congr_left fun m hm => Int.emod_eq_of_lt (h m hm).1 (h m hm).2
  rw [this, List.map_id]
theorem lt_nodup {l : List Int} (h : l.Pairwise (· < ·)) : l.Nodup := h.imp fun h => Int.ne_of_lt h
theorem lt_le {l : List Int} (h : l.Pairwise (· < ·)) : l.Pairwise (· ≤ ·) := h.imp fun h => Int.le_of_lt h
theorem le_lt : ∀ {l : List Int}, l.Pairwise (· ≤ ·) → adj l = none → l.Pairwise (· < ·)
  | [], _, _ => .nil
  | [a], _, _ => by simp
  | a :: b :: r, h, e => by
    have e : (if a = b then some a else adj (b :: r)) = none := e
    by_cases q : a = b
    · rw [if_pos q] at e; cases e
    · rw [if_neg q] at e
      obtain ⟨h1, h2⟩ := List.pairwise_cons.mp h
      have ih := le_lt h2 e
      refine List.pairwise_cons.mpr ⟨fun c hc => ?_, ih⟩
      have hb := h1 b List.mem_cons_self
      rcases List.mem_cons.mp hc with rfl | hc
      · omega
      · have := (List.pairwise_cons.mp ih).1 c hc
        omega
/-- residues that differ make a lot -/
theorem once_ok {n : Int} {rs : List Int} (h1 : 1 ≤ n) (h2 : n ≤ 360) (hr : ∀ r ∈ rs, 0 ≤ r ∧ r < n) (e : rep rs = none) : LotOk n (srt rs) :=
  ⟨h1, h2, le_lt (srt_le rs) e, fun m hm => hr m (mem_srt.mp hm)⟩
theorem emod_rng {n : Int} (h : 1 ≤ n) (a : Int) : 0 ≤ a % n ∧ a % n < n := ⟨Int.emod_nonneg _ (by omega), Int.emod_lt_of_pos _ (by omega)⟩
theorem fmod_pos {n : Int} (h : 1 ≤ n) (a : Int) : a.fmod n = a % n := Int.fmod_eq_emod_of_nonneg a (by omega)
end Bw
namespace Bw
open PySem PySem.Spec PyProof.Rows L2
theorem le_nodup_lt {l : List Int} (h : l.Pairwise (· ≤ ·)) (n : l.Nodup) : l.Pairwise (· < ·) :=
  List.Pairwise.imp (fun {a b} (p : a ≤ b ∧ a ≠ b) => by omega) (h.and n)
theorem rep_none_nodup {rs : List Int} (e : rep rs = none) : rs.Nodup := (srt_perm rs).nodup_iff.mp (lt_nodup (le_lt (srt_le rs) e))
theorem adj_none_of_lt : ∀ {l : List Int}, l.Pairwise (· < ·) → adj l = none
  | [], _ => rfl
  | [a], _ => rfl
  | a :: b :: r, h => by
    obtain ⟨h1, h2⟩ := List.pairwise_cons.mp h
    show (if a = b then some a else adj (b :: r)) = none
    rw [if_neg (Int.ne_of_lt (h1 b List.mem_cons_self)), adj_none_of_lt h2]
theorem rep_none_of_nodup {rs : List Int} (n : rs.Nodup) : rep rs = none := adj_none_of_lt (le_nodup_lt (srt_le rs) (srt_nodup n))
/-- Lot(n, members): a new one -/
theorem made_lot {K : PySem.W.Frag} {H1 : Hp} {Qx : Addr → Hp → Prop} {E : XK} {l : Addr} {n : Int} {ms : List Int} (hl : SqL K H1 l (ms.map V.int)) (n1 : 1 ≤ n) (n2 : n ≤ 360) (hlen : ms.length ≤ 4000) (hnd : (ms.map fun m => m % n).Nodup)
    (hQ : ∀ H' a, Ext H1 H' → LotAt K H' a n (srt (ms.map fun m => m % n)) → Qx a H') :
    ∀ x dx, H1 x = none → H1 dx = none → dx ≠ x → sp_Lot_init K [.ref x, .int n, .ref l] (upd (upd H1 dx (.own x)) x (.ins (He.ga K "Lot") dx [])) (fun v H2 => v = .non ∧ Qx x H2) E := by
  intro x dx hx hdx hne
  have hx' : upd H1 dx (.own x) x = none := by rw [upd_ne (Ne.symm hne)]; exact hx
  have x0 : Ext H1 (upd (upd H1 dx (.own x)) x (.ins (He.ga K "Lot") dx [])) := ext_set (ext_new hdx) hx
  refine ⟨x, dx, l, n, ms, rfl, upd_same, sqL_ext x0 hl, n1, n2, hlen, hnd, fun H' lm hk h1 h2 => ⟨rfl, hQ H' x (fun b o e => ?_) ⟨?_, dx, lm, h1, h2⟩⟩⟩
  · exact hk b o (ne_of_none e hx) (x0 b o e)
  · refine ⟨n1, n2, le_nodup_lt (srt_le _) (srt_nodup hnd), fun m hm => ?_⟩
    obtain ⟨k, _, rfl⟩ := List.mem_map.mp (mem_srt.mp hm)
    exact emod_rng n1 k
/-- Lot(n, each_once(residues)) -/
theorem once_mk {K : PySem.W.Frag} {H2 : Hp} {Q : VK} {E : XK} {p : Addr} {n : Int} {rs : List Int} (hl : SqL K H2 p (rs.map V.int)) (n1 : 1 ≤ n) (n2 : n ≤ 360) (hlen : rs.length ≤ 200000) (hr : ∀ r ∈ rs, 0 ≤ r ∧ r < n) (D : Done K H2 Q E (onceOut n rs)) :
    sp_each_once K [.ref p] H2 (fun v H3 => ∀ x dx, H3 x = none → H3 dx = none → dx ≠ x → sp_Lot_init K [.ref x, .int n, v] (upd (upd H3 dx (.own x)) x (.ins (He.ga K "Lot") dx [])) (fun v H4 => v = .non ∧ Q (.ref x) H4) E) E := by
  refine ⟨p, rs, rfl, hl, hlen, ?_⟩
  unfold onceOut at D
  cases e : rep rs with
  | some h =>
    rw [e] at D
    exact D
  | none =>
    rw [e] at D
    have ok := once_ok n1 n2 hr e
    have em : (srt rs).map (fun m => m % n) = srt rs := mod_id ok.rng
    exact fun H' q x0 hq => made_lot (sqL_of hq) n1 n2 (by have := ok.len; omega) (by rw [em]; exact lt_nodup ok.asc) fun H3 a x1 L => D H3 a (x0.trans x1) (by rw [em, srt_of_le (lt_le ok.asc)] at L; exact L)
end Bw
namespace Bw
open PySem PySem.Spec PyProof.Rows L2
theorem tyL {K : PySem.W.Frag} {H : Hp} {p : Addr} {xs : List V} (h : H p = some (.lst xs)) : tyV K "list" (.ref p) H := .inl ⟨rfl, xs, sqL_of h⟩
theorem rep_ints (k : Nat) (m : Int) : (List.replicate k [V.int m]).flatten = (List.replicate k m).map V.int := by
  induction k with
  | zero => rfl
  | succ k ih => rw [List.replicate_succ, List.flatten_cons, ih, List.replicate_succ]; rfl
theorem map_get {ns : List Int} {k : Nat} {i : Int} (h : ns[k]? = some i) : (ns.map V.int)[k]? = some (.int i) := by rw [List.getElem?_map, h] <;> rfl
theorem pow_pos_lt {m : Int} (h : 1 ≤ m ∧ m < 2 ^ 64) : CDivW (0 : Int) m := wide_div (b := 64) (by omega) (by omega) (by decide) (by decide)
theorem cdivW {i m : Int} (h : 1 ≤ m ∧ m < 2 ^ 64) : CDivW i m := wide_div (b := 64) (by omega) (by omega) (by decide) (by decide)
theorem cmulW {i j : Int} (h : i.natAbs < 2 ^ 200) (h' : j.natAbs < 2 ^ 200) : CMulW i j := wide_mul (a := 200) (b := 200) h h' (by decide) (by decide) (by decide)
end Bw
namespace Bw
open PySem PySem.Spec PyProof.Rows L2
theorem atI_map {fl : List Int} {i : Int} (h0 : 0 ≤ i) (h : i < fl.length) : ∃ f ∈ fl, atI (fl.map V.int) i = some (.int f) := by
  have hk : i.toNat < fl.length := by omega
  exact ⟨fl[i.toNat], List.getElem_mem hk, atI_nat (k := i.toNat) (by omega) (map_get (List.getElem?_eq_getElem hk))⟩
end Bw
namespace Bw
open PySem PySem.Spec PyProof.Rows L2
/-! ### tests whose answer is known -/
section
variable {K : PySem.W.Frag} {σ : L2.St} {H : Hp} {i j : Nat} {x y : V} {b : Bool} {c : TT} {t u v : TS} {D : Ends} {T T' : String}
theorem seqF (hc : ∀ R : Bool → Hp → Prop, R false H → c σ H R) (q : v D σ H) : tSeq (tIfS c t tNext) v D σ H := hc _ (iteF q)
theorem seqT (hc : ∀ R : Bool → Hp → Prop, R true H → c σ H R) (q : t { D with nx := v D } σ H) : tSeq (tIfS c t u) v D σ H := hc _ (iteT q)
theorem seqE (hc : ∀ R : Bool → Hp → Prop, R false H → c σ H R) (q : u { D with nx := v D } σ H) : tSeq (tIfS c t u) v D σ H := hc _ (iteF q)
theorem ifT (hc : ∀ R : Bool → Hp → Prop, R true H → c σ H R) (q : t D σ H) : tIfS c t u D σ H := hc _ (iteT q)
theorem ifF (hc : ∀ R : Bool → Hp → Prop, R false H → c σ H R) (q : u D σ H) : tIfS c t u D σ H := hc _ (iteF q)
theorem no_b (h : σ[i]? = some (some x)) (hb : decide (x = .non) = b) (R : Bool → Hp → Prop) (r : R b H) : tTest (tOp rIsNo (tVar i) (tC .non)) σ H R := ⟨_, h, rfl, _, congrArg V.bl hb, r⟩
theorem isl_b (h : σ[i]? = some (some x)) {z : Bool} (hb : decide (x = .bl z) = b) (R : Bool → Hp → Prop) (r : R b H) : tTest (tOp rIsL (tVar i) (tC (.bl z))) σ H R := ⟨_, h, z, rfl, _, congrArg V.bl hb, r⟩
theorem isi_v (h : σ[i]? = some (some x)) (t : TyX K H x (.type T')) (k : PySem.W.kitOne K (.type T') (.type T) = some b) (R : VK) (r : R (.bl b) H) : tCB (rIsi K) (tCons (tVar i) (tCons (tC (.ty T)) tNil)) σ H R := ⟨_, h, _, _, _, _, b, rfl, .ty _, t, k, r⟩
theorem isi_t (h : σ[i]? = some (some x)) (t : TyX K H x (.type T')) (k : PySem.W.kitOne K (.type T') (.type T) = some b) (R : Bool → Hp → Prop) (r : R b H) : tB (tCB (rIsi K) (tCons (tVar i) (tCons (tC (.ty T)) tNil))) σ H R := isi_v h t k _ ⟨_, rfl, r⟩
theorem not_b {z : Bool} (hc : ∀ R : Bool → Hp → Prop, R z H → c σ H R) (hb : (!z) = b) (R : Bool → Hp → Prop) (r : R b H) : tNot c σ H R := hc _ (by rw [hb]; exact r)
theorem or_F {c' : TT} (hc : ∀ R : Bool → Hp → Prop, R false H → c σ H R) (hc' : ∀ R : Bool → Hp → Prop, R b H → c' σ H R) (R : Bool → Hp → Prop) (r : R b H) : tOr c c' σ H R := hc _ (iteF (hc' _ r))
theorem eq_b {ta tb : TE} (ha : ∀ Q : VK, Q x H → ta σ H Q) (hb : ∀ Q : VK, Q y H → tb σ H Q) (hs : scal x y = true) (hx : decide (x = y) = b) (R : Bool → Hp → Prop) (r : R b H) : tTest (tOp rEq ta tb) σ H R := ha _ (hb _ ⟨hs, _, congrArg V.bl hx, r⟩)
theorem ne_b {ta tb : TE} (ha : ∀ Q : VK, Q x H → ta σ H Q) (hb : ∀ Q : VK, Q y H → tb σ H Q) (hs : scal x y = true) (hx : (!decide (x = y)) = b) (R : Bool → Hp → Prop) (r : R b H) : tTest (tOp rNe ta tb) σ H R := ha _ (hb _ ⟨hs, _, congrArg V.bl hx, r⟩)
theorem len_v {a : Addr} {xs : List V} (h : σ[i]? = some (some (.ref a))) (hs : SqL K H a xs ∨ SqT K H a xs) (Q : VK) (q : Q (.int (xs.length : Nat)) H) : tCB (rLenQ K) (tCons (tVar i) tNil) σ H Q := ⟨_, h, a, xs, rfl, hs, q⟩
end
end Bw
namespace Bw
open PySem PySem.Spec PyProof.Rows L2
/-! ### what is known in every heap that grows from here -/
def KB (c : TT) (σ : L2.St) (H : Hp) (b : Bool) : Prop := ∀ R : Bool → Hp → Prop, (∀ H1, Ext H H1 → R b H1) → c σ H R
def KV (t : TE) (σ : L2.St) (H : Hp) (v : V) : Prop := ∀ Q : VK, (∀ H1, Ext H H1 → Q v H1) → t σ H Q
section
variable {K : PySem.W.Frag} {σ : L2.St} {H : Hp} {i : Nat} {x y : V} {b z : Bool} {c c' : TT} {t u v : TS} {D : Ends} {ta tb : TE} {W : Value} {Wo : WX} {o : Option Nat} {ts : Suite} {l : List (Value × Option Nat × Suite)} {cls : Value} {d : Option Addr}
theorem KB.seqF (h : KB c σ H false) (q : ∀ H1, Ext H H1 → v D σ H1) : tSeq (tIfS c t tNext) v D σ H := h _ fun H1 e => iteF (q H1 e)
theorem KB.not (h : KB c σ H z) (hb : (!z) = b) : KB (tNot c) σ H b := fun R r => h _ fun H1 e => by rw [hb]; exact r H1 e
theorem KB.orF (h : KB c σ H false) (h' : ∀ H1, Ext H H1 → KB c' σ H1 b) : KB (tOr c c') σ H b := fun R r => h _ fun H1 e => iteF (h' H1 e _ fun H2 e2 => r H2 (e.trans e2))
theorem KV.test (h : KV ta σ H (.bl b)) : KB (tB ta) σ H b := fun R r => h _ fun H1 e => ⟨_, rfl, r H1 e⟩
theorem KV.and (h : KV ta σ H (.bl true)) (h' : ∀ H1, Ext H H1 → KV tb σ H1 x) : KV (tAndV ta tb) σ H x := fun Q q => h _ fun H1 e => ⟨true, rfl, iteT (h' H1 e _ fun H2 e2 => q H2 (e.trans e2))⟩
theorem KB.of (h : ∀ R : Bool → Hp → Prop, R b H → c σ H R) : KB c σ H b := fun R r => h R (r H (Ext.refl H))
theorem KV.of (h : ∀ Q : VK, Q x H → ta σ H Q) : KV ta σ H x := fun R r => h R (r H (Ext.refl H))
theorem isi_own {C : Addr} (h : σ[i]? = some (some x)) (t : TyX K H x (.ref C)) (R : Bool → Hp → Prop) (r : R true H) : tB (tCB (rIsi K) (tCons (tVar i) (tCons (tC (.ref C)) tNil))) σ H R :=
  ⟨_, h, _, _, _, _, true, rfl, .own C, t, by unfold PySem.W.kitOne; rw [if_pos (by simp)], _, rfl, r⟩
theorem wH_yes (e : PySem.W.exmOne K cls W = some true) (q : ∀ a, H a = none → suiteAt o ts cls d D σ H a) : wH K Wo D ((W, o, ts) :: l) cls d σ H := ⟨true, e, fun _ => q, fun z => by cases z⟩
theorem wH_no (e : PySem.W.exmOne K cls W = some false) (q : wH K Wo D l cls d σ H) : wH K Wo D ((W, o, ts) :: l) cls d σ H := ⟨false, e, fun z => (by cases z), fun _ => q⟩
end
end Bw
namespace Bw
open PySem PySem.Spec PyProof.Rows L2
theorem copies_rng {n t : Int} {ms : List Int} (h : ∀ m ∈ ms, 0 ≤ m ∧ m < n) (n1 : 1 ≤ n) (t0 : 0 ≤ t) : ∀ m ∈ copies n ms t, 0 ≤ m ∧ m < n * t := by
  intro m hm
  obtain ⟨lap, hl, hm⟩ := List.mem_flatMap.mp hm
  obtain ⟨k, hk, rfl⟩ := List.mem_map.mp hm
  have hl := List.mem_range.mp hl
  have := h k hk
  have e1 : 0 ≤ (lap : Int) * n := Int.mul_nonneg (by omega) (by omega)
  have e2 : ((lap : Int) + 1) * n ≤ t * n := Int.mul_le_mul_of_nonneg_right (by omega) (by omega)
  rw [Int.add_mul, Int.one_mul] at e2
  rw [Int.mul_comm n t]
  omega
theorem copies_asc {n t : Int} {ms : List Int} (h : ∀ m ∈ ms, 0 ≤ m ∧ m < n) (n1 : 1 ≤ n) (a : ms.Pairwise (· < ·)) : (copies n ms t).Pairwise (· < ·) := by
  unfold copies
  refine List.pairwise_flatMap.mpr ⟨fun lap _ => ?_, ?_⟩
  · exact List.pairwise_map.mpr (a.imp fun {x y} q => by omega)
  · refine List.pairwise_lt_range.imp fun {i j} hij x hx y hy => ?_
    obtain ⟨k, hk, rfl⟩ := List.mem_map.mp hx
    obtain ⟨k', hk', rfl⟩ := List.mem_map.mp hy
    have := h k hk
    have := h k' hk'
    have e2 : ((i : Int) + 1) * n ≤ (j : Int) * n := Int.mul_le_mul_of_nonneg_right (by omega) (by omega)
    rw [Int.add_mul, Int.one_mul] at e2
    omega
theorem copies_len {n t : Int} {ms : List Int} (h : LotOk n ms) (t1 : n * t ≤ 360) (t0 : 0 ≤ t) : (copies n ms t).length ≤ 360 := by
  have := asc_len _ 0 (n * t) (copies_asc (t := t) h.rng h.n1 h.asc) (copies_rng h.rng h.n1 t0)
  omega
end Bw
namespace Bw
theorem iteT_of {b : Bool} {A B : Prop} (h : b = true) (a : A) : if b = true then A else B := by rw [if_pos h]; exact a
theorem iteF_of {b : Bool} {A B : Prop} (h : b = false) (a : B) : if b = true then A else B := by rw [h, if_neg Bool.false_ne_true]; exact a
end Bw
namespace Bw
open PySem PySem.Spec PyProof.Rows L2
theorem rising_push {n m : Int} {ms : List Int} (h : Rising m ms) (m0 : 0 ≤ m) (hm : m < n) : Rising n (ms ++ [m]) := by
  refine ⟨List.pairwise_append.mpr ⟨h.1, List.pairwise_singleton _ _, fun x hx y hy => ?_⟩, fun x hx => ?_⟩
  · rw [List.mem_singleton.mp hy]
    exact (h.2 x hx).2
  · rcases List.mem_append.mp hx with hx | hx
    · have := h.2 x hx
      omega
    · rw [List.mem_singleton.mp hx]
      exact ⟨m0, hm⟩
theorem rising_mono {n m : Int} {ms : List Int} (h : Rising m ms) (hm : m ≤ n) : Rising n ms := ⟨h.1, fun x hx => by have := h.2 x hx; omega⟩
theorem rising_len {n : Int} {ms : List Int} (h : Rising n ms) : ms.length ≤ n.toNat := by
  have := asc_len ms 0 n h.1 h.2
  omega
theorem rising_filter {n : Int} {ms : List Int} (h : Rising n ms) (p : Int → Bool) : Rising n (ms.filter p) := ⟨h.1.sublist List.filter_sublist, fun m hm => h.2 m (List.mem_filter.mp hm).1⟩
end Bw
namespace Bw
open PySem PySem.Spec PyProof.Rows L2
/-- counting: how often each hour comes up -/
theorem adj_first : ∀ (l : List Int) (h : Int), l.Pairwise (· ≤ ·) → 2 ≤ l.count h → (∀ k, k < h → l.count k ≤ 1) → adj l = some h
  | [], h, _, h2, _ => by simp at h2
  | [a], h, _, h2, _ => by
    rw [List.count_cons, List.count_nil] at h2
    split at h2 <;> omega
  | a :: b :: r, h, hp, h2, hk => by
    obtain ⟨h1, h3⟩ := List.pairwise_cons.mp hp
    show (if a = b then some a else adj (b :: r)) = some h
    by_cases e : a = b
    · rw [if_pos e]
      subst e
      have ca : 2 ≤ (a :: a :: r).count a := by rw [List.count_cons, List.count_cons]; simp
      by_cases q : a < h
      · have := hk a q
        omega
      · have : h ∈ a :: a :: r := List.count_pos_iff.mp (by omega)
        have hle : a ≤ h := by
          rcases List.mem_cons.mp this with rfl | hm
          · exact Int.le_refl _
          · exact h1 h hm
        rw [show h = a by omega]
    · rw [if_neg e]
      have na : h ≠ a := fun z => by
        subst z
        have : (h :: b :: r).count h = 1 := by
          rw [List.count_cons]
          have : (b :: r).count h = 0 := List.count_eq_zero.mpr fun hm => by
            have q := h1 b List.mem_cons_self
            have : ∀ y ∈ b :: r, b ≤ y := fun y hy => by
              rcases List.mem_cons.mp hy with rfl | hy
              · exact Int.le_refl _
              · exact (List.pairwise_cons.mp h3).1 y hy
            have := this h hm
            omega
          simp [this]
        omega
      refine adj_first (b :: r) h h3 ?_ fun k hk' => ?_
      · rw [List.count_cons, if_neg (by simpa using Ne.symm na)] at h2
        exact h2
      · have := hk k hk'
        rw [List.count_cons] at this
        omega
theorem rep_first {rs : List Int} {h : Int} (h2 : 2 ≤ rs.count h) (hk : ∀ k, k < h → rs.count k ≤ 1) : rep rs = some h := by
  refine adj_first _ _ (srt_le rs) ?_ fun k hk' => ?_
  · rw [(srt_perm rs).count_eq]; exact h2
  · rw [(srt_perm rs).count_eq]; exact hk k hk'
theorem rep_none_of_count {rs : List Int} (hk : ∀ k, rs.count k ≤ 1) : rep rs = none := rep_none_of_nodup (List.nodup_iff_count.mpr hk)
theorem set_get {ns : List Int} {k j : Nat} {v : Int} (h : k < ns.length) : (ns.set k v)[j]? = if j = k then some v else ns[j]? := by
  rw [List.getElem?_set]
  by_cases e : k = j
  · subst e
    rw [if_pos rfl, if_pos h, if_pos rfl]
  · rw [if_neg e, if_neg (Ne.symm e)]
end Bw

namespace Bw
open PySem PySem.Spec PyProof.Rows L2 ItX
/-! ### further deeds on lots, the meetings -/
def ring (n : Int) : List Int := (List.range n.toNat).map fun i : Nat => (i : Int)
theorem mem_ring {n x : Int} : x ∈ ring n ↔ 0 ≤ x ∧ x < n := by
  unfold ring
  constructor
  · intro h
    obtain ⟨k, hk, rfl⟩ := List.mem_map.mp h
    have := List.mem_range.mp hk
    omega
  · intro h
    exact List.mem_map.mpr ⟨x.toNat, List.mem_range.mpr (by omega), by omega⟩
theorem ring_asc (n : Int) : (ring n).Pairwise (· < ·) := List.pairwise_map.mpr (List.pairwise_lt_range.imp fun h => by omega)
theorem ring_len (n : Int) : (ring n).length = n.toNat := by simp [ring]
theorem rng_ring (n : Int) : rngV 0 n.toNat = (ring n).map V.int := by
  unfold rngV ring
  rw [List.map_map]
  simp only [Int.zero_add]
  rfl
def invL (n : Int) (ms : List Int) : List Int := (ring n).filter fun h => !decide (h ∈ ms)
def pairsD (n : Int) (xs ys : List Int) : List Int := xs.flatMap fun x => ys.map fun y => (x - y) % n
/-- how often each hour comes up -/
def tally (n : Int) (zs : List Int) : List Int := (ring n).map fun d => ((zs.count d : Nat) : Int)
def meetL (n : Int) (xs ys : List Int) : List Int := tally n (pairsD n xs ys)
theorem inv_ok {n : Int} {ms : List Int} (h : LotOk n ms) : LotOk n (invL n ms) := ⟨h.n1, h.n2, (ring_asc n).sublist List.filter_sublist, fun m hm => mem_ring.mp (List.mem_filter.mp hm).1⟩
theorem moved_ok {n : Int} {rs : List Int} (h1 : 1 ≤ n) (h2 : n ≤ 360) (hr : ∀ r ∈ rs, 0 ≤ r ∧ r < n) (e : rs.Nodup) : LotOk n (srt rs) := ⟨h1, h2, le_nodup_lt (srt_le rs) (srt_nodup e), fun m hm => hr m (mem_srt.mp hm)⟩
def sp_Lot_lshift (K : PySem.W.Frag) : Sp := fun vs H Q E => ∃ (a : Addr) (n k : Int) (ms : List Int), vs = [.ref a, .int k] ∧ LotAt K H a n ms ∧ ∀ H' b, Ext H H' → LotAt K H' b n (srt (ms.map fun m => (m + k) % n)) → Q (.ref b) H'
def sp_Lot_rshift (K : PySem.W.Frag) : Sp := fun vs H Q E => ∃ (a : Addr) (n k : Int) (ms : List Int), vs = [.ref a, .int k] ∧ LotAt K H a n ms ∧ ∀ H' b, Ext H H' → LotAt K H' b n (srt (ms.map fun m => (m - k) % n)) → Q (.ref b) H'
def sp_Lot_neg (K : PySem.W.Frag) : Sp := fun vs H Q E => ∃ (a : Addr) (n : Int) (ms : List Int), vs = [.ref a] ∧ LotAt K H a n ms ∧ ∀ H' b, Ext H H' → LotAt K H' b n (srt (ms.map fun m => (-m) % n)) → Q (.ref b) H'
def sp_Lot_invert (K : PySem.W.Frag) : Sp := fun vs H Q E => ∃ (a : Addr) (n : Int) (ms : List Int), vs = [.ref a] ∧ LotAt K H a n ms ∧ ∀ H' b, Ext H H' → LotAt K H' b n (invL n ms) → Q (.ref b) H'
def sp_meetings (K : PySem.W.Frag) : Sp := fun vs H Q E => ∃ (a b : Addr) (n : Int) (ms ms' : List Int), vs = [.ref a, .ref b] ∧ LotAt K H a n ms ∧ LotAt K H b n ms' ∧ ∀ H' p, Ext H H' → H' p = some (.lst ((meetL n ms ms').map V.int)) → Q (.ref p) H'
def sp_differences (K : PySem.W.Frag) : Sp := fun vs H Q E => ∃ (a : Addr) (n : Int) (ms : List Int), vs = [.ref a] ∧ LotAt K H a n ms ∧ ∀ H' p, Ext H H' → H' p = some (.lst ((meetL n ms ms).map V.int)) → Q (.ref p) H'
/-! ### counting -/
structure CntRep (n : Int) (zs cs : List Int) : Prop where
  len : cs.length = n.toNat
  at_ : ∀ k : Nat, k < n.toNat → cs[k]? = some ((zs.count (k : Int) : Nat) : Int)
theorem CntRep.zero (n : Int) : CntRep n [] (List.replicate n.toNat 0) := ⟨List.length_replicate, fun k hk => by rw [List.getElem?_replicate, if_pos hk]; simp⟩
theorem set_get' {ns : List Int} {k j : Nat} {v : Int} (h : k < ns.length) : (ns.set k v)[j]? = if j = k then some v else ns[j]? := by
  rw [List.getElem?_set]
  by_cases e : k = j
  · subst e
    rw [if_pos rfl, if_pos h, if_pos rfl]
  · rw [if_neg e, if_neg (Ne.symm e)]
theorem CntRep.step {n w : Int} {zs cs : List Int} (h : CntRep n zs cs) (h0 : 0 ≤ w) (h1 : w < n) : CntRep n (zs ++ [w]) (cs.set w.toNat (((zs.count ((w.toNat : Nat) : Int) : Nat) : Int) + 1)) := by
  have hw : ((w.toNat : Nat) : Int) = w := by omega
  refine ⟨by rw [List.length_set, h.len], fun k hk => ?_⟩
  rw [set_get' (by rw [h.len]; omega), List.count_append]
  by_cases ek : k = w.toNat
  · rw [if_pos ek, ek, hw, List.count_singleton, if_pos (by simp)]
    simp
  · rw [if_neg ek, h.at_ k hk, List.count_singleton, if_neg (by simp; omega)]
    simp
theorem CntRep.tally {n : Int} {zs cs : List Int} (h : CntRep n zs cs) : cs = tally n zs := by
  refine List.ext_getElem? fun k => ?_
  unfold Bw.tally ring
  rw [List.map_map, List.getElem?_map]
  by_cases hk : k < n.toNat
  · rw [h.at_ k hk, List.getElem?_range hk]
    rfl
  · rw [List.getElem?_eq_none (by rw [h.len]; omega), List.getElem?_eq_none (by simp; omega)]
    rfl
end Bw
namespace Bw
open PySem PySem.Spec PyProof.Rows L2
theorem nodup_map_on {α β : Type} {f : α → β} : ∀ {l : List α}, l.Nodup → (∀ a ∈ l, ∀ b ∈ l, f a = f b → a = b) → (l.map f).Nodup
  | [], _, _ => .nil
  | a :: r, h, q => by
    obtain ⟨h1, h2⟩ := List.nodup_cons.mp h
    rw [List.map_cons]
    refine List.nodup_cons.mpr ⟨fun hm => ?_, nodup_map_on h2 fun x hx y hy => q x (List.mem_cons_of_mem _ hx) y (List.mem_cons_of_mem _ hy)⟩
    obtain ⟨b, hb, e⟩ := List.mem_map.mp hm
    have := q b (List.mem_cons_of_mem _ hb) a List.mem_cons_self e
    rw [this] at hb
    exact h1 hb
theorem emod_inj {n a b : Int} (ha : 0 ≤ a ∧ a < n) (hb : 0 ≤ b ∧ b < n) (e : (a - b) % n = 0) : a = b := by
  obtain ⟨k, hk⟩ := Int.dvd_of_emod_eq_zero e
  have h1 : -n < n * k := by omega
  have h2 : n * k < n := by omega
  have n0 : 0 < n := by omega
  have k1 : -1 < k := by
    refine Int.lt_of_mul_lt_mul_left (a := n) ?_ (by omega)
    omega
  have k2 : k < 1 := by
    refine Int.lt_of_mul_lt_mul_left (a := n) ?_ (by omega)
    omega
  have : k = 0 := by omega
  rw [this] at hk
  omega
theorem move_nodup {n k : Int} {ms : List Int} (ok : LotOk n ms) : (ms.map fun m => (m + k) % n).Nodup := nodup_map_on (lt_nodup ok.asc) fun a ha b hb e => emod_inj (ok.rng a ha) (ok.rng b hb) (by
  have := Int.emod_emod_of_dvd (a + k) (Int.dvd_refl n)
  have h : (a + k - (b + k)) % n = 0 := Int.emod_eq_emod_iff_emod_sub_eq_zero.mp e
  rw [show a + k - (b + k) = a - b by omega] at h
  exact h)
theorem neg_nodup {n : Int} {ms : List Int} (ok : LotOk n ms) : (ms.map fun m => (-m) % n).Nodup := nodup_map_on (lt_nodup ok.asc) fun a ha b hb e => (emod_inj (ok.rng b hb) (ok.rng a ha) (by
  have h : (-a - -b) % n = 0 := Int.emod_eq_emod_iff_emod_sub_eq_zero.mp e
  rw [show -a - -b = b - a by omega] at h
  exact h)).symm
theorem flat_ints : ∀ ns : List Int, (ns.map V.int).all flatV = true
  | [] => rfl
  | _ :: r => by rw [List.map_cons, List.all_cons, flat_ints r]; rfl
theorem inV_ints {i : Int} : ∀ {ns : List Int}, inV (.int i) (ns.map V.int) = decide (i ∈ ns)
  | [] => by simp [inV]
  | n :: r => by
    have ih := inV_ints (i := i) (ns := r)
    unfold inV at ih ⊢
    rw [List.map_cons, List.any_cons, ih]
    have e : eqV (.int n) (.int i) = decide (i = n) := by
      show decide (n = i) = _
      exact decide_eq_decide.mpr ⟨Eq.symm, Eq.symm⟩
    rw [e]
    simp
theorem fm_notin (ms : List Int) : ∀ l : List Int, (l.filterMap fun i => if i ∈ ms then none else some i) = l.filter fun h => !decide (h ∈ ms)
  | [] => rfl
  | a :: r => by
    rw [List.filterMap_cons, List.filter_cons, fm_notin ms r]
    by_cases h : a ∈ ms <;> simp [h]
end Bw
namespace Bw
open PySem PySem.Spec PyProof.Rows L2
/-- elements that may lay new things -/
theorem lcA {J : It} {xs : List V} {i0 : Nat} {te : TE} {σ : L2.St} {H1 : Hp} {D : Addr} {Qd : Hp → Prop} (f : V → V) (hD : H1 D = none) (S : ∀ H, Ext H1 H → SrcAt J xs H) (hn : xs.length ≤ sizeLine)
    (step : ∀ x ∈ xs, ∀ H, Ext H1 H → ∀ R : V → Hp → Prop, (∀ H2, Ext H H2 → R (f x) H2) → te ((wipe σ [i0]).set i0 (some x)) H R) (hd : ∀ H', Ext H1 H' → H' D = some (.lst (xs.map f)) → Qd H') :
    ∃ W : Nat → Nat → Hp → Prop, (∃ m, W 0 m (upd H1 D (.lst []))) ∧ ∀ i m H, W i m H →
      (J.stop i H ∧ Qd H) ∨ (J.go i H ∧ ∃ Nx : Hp → Prop, (∀ H', Nx H' → ∃ m', m' < m ∧ W (i + 1) m' H') ∧ ∀ x H', J.yld i H x H' → gName i0 x (wipe σ [i0]) H' fun σ2 H2 => wipe σ2 [i0] = wipe σ [i0] ∧ tYes σ2 H2 fun b H3 =>
        if b = true then te σ2 H3 fun y H4 => ∃ acc, H4 D = some (.lst acc) ∧ acc.length < sizeLine ∧ Nx (upd H4 D (.lst (acc ++ [y]))) else Nx H3) := by
  refine lcS (fun i H => Ext H1 H ∧ H D = some (.lst ((xs.take i).map f))) ⟨ext_new hD, by simp [upd_same]⟩ (fun i H _ e => S _ e.1) (fun i x H e p => ?_) (fun H e => hd H e.1 (by rw [List.take_length] at e; exact e.2))
  refine ⟨by simp [wipe], ?_⟩
  dsimp only [tYes]
  rw [if_pos rfl]
  have hlt := (List.getElem?_eq_some_iff.mp e).1
  refine step x (List.mem_of_getElem? e) H p.1 _ fun H2 x2 => ⟨_, x2 _ _ p.2, ?_, ext_set (p.1.trans x2) hD, ?_⟩
  · rw [List.length_map, List.length_take]
    omega
  · rw [upd_same, List.take_add_one, e, List.map_append]
    rfl
theorem fm_if (p : Int → Prop) [DecidablePred p] : ∀ l : List Int, (l.filterMap fun i => if p i then some i else none) = l.filter fun i => decide (p i)
  | [] => rfl
  | a :: r => by
    rw [List.filterMap_cons, List.filter_cons, fm_if p r]
    by_cases h : p a <;> simp [h]
def ones (n : Int) : List Int := (List.range n.toNat).map fun i : Nat => 1 + (i : Int)
theorem rng_ones (n : Int) : rngV 1 (n + 1 - 1).toNat = (ones n).map V.int := by
  unfold rngV ones
  rw [List.map_map, show n + 1 - 1 = n by omega]
  rfl
theorem mem_ones {n x : Int} : x ∈ ones n ↔ 1 ≤ x ∧ x ≤ n := by
  unfold ones
  constructor
  · intro h
    obtain ⟨k, hk, rfl⟩ := List.mem_map.mp h
    have := List.mem_range.mp hk
    omega
  · intro h
    exact List.mem_map.mpr ⟨(x - 1).toNat, List.mem_range.mpr (by omega), by omega⟩
theorem ones_len (n : Int) : (ones n).length = n.toNat := by simp [ones]
theorem atI_getD {fl : List Int} {i d : Int} (h0 : 0 ≤ i) (h : i < fl.length) : atI (fl.map V.int) i = some (.int (fl[i.toNat]?.getD d)) := by
  have hk : i.toNat < fl.length := by omega
  rw [List.getElem?_eq_getElem hk]
  exact atI_nat (k := i.toNat) (by omega) (map_get (List.getElem?_eq_getElem hk))
end Bw
namespace Bw
open PySem PySem.Spec PyProof.Rows L2
theorem fI_hit {g : Int → Option Int} {i j : Int} (h : g i = some j) : fI g (.int i) = some (.int j) := by show (g i).map V.int = _; rw [h]; rfl
theorem fI_miss {g : Int → Option Int} {i : Int} (h : g i = none) : fI g (.int i) = none := by show (g i).map V.int = _; rw [h]; rfl
end Bw

namespace BwM
open PySem PySem.W PySem.Spec PySem.Calls PyProof.Rows
section
variable {prog : Program} {w : World} {A : Around} {E : Value → Shared → Prop} {s : Shared} {K : Frag} {x C f g L : Addr} {od : Option Obj} {h₀ : Heap} {m : Str → Option Value} {dx : Addr} {ox : Obj} {tb b : Value}
/-- a != b, where __ne__ is object's own and __eq__ is the class's -/
theorem ne_K {Q : Value → Shared → Prop} (hu : A.units + 1 < cLine) (X : K.In s.heap) (I : InstAt s.heap x ox C od) (hb : Looks (model prog w) s.heap (typeOf b) tb) (hn : notFirst K C tb = true)
    (hs : findIn K (.ref C) "__ne__" = some (some (.builtin "object.__ne__"))) (he : findIn K (.ref C) "__eq__" = some (some (.ref f))) (hf : isFn K (.ref f) = true) (ho : subIn K (.ref C) (.type "object") = some true)
    (h : wpAny (model prog w) A.in1 (call (.ref f) [.ref x, b]) (fun v s' => ∃ r, v = .bool r ∧ Q (.bool (!r)) s') E s) : wpAny (model prog w) A (richCompare .NotEq (.ref x) b) Q E s := by
  have T0 : Looks (model prog w) s.heap (typeOf (.ref x)) (.ref C) := I.type
  have sub : Looks (model prog w) s.heap (isInstance (.ref x) (.type "object")) true := T0.andThen (looks_subIn X ho)
  have hu' : A.in1.units < cLine := by first | exact hu | (show A.units + 1 < cLine; exact hu) | simpa [Around.in1] using hu
  have inner : wpAny (model prog w) A.in1 (Builtin.«object.__ne__» ⟨[.ref x, b], []⟩) (fun fin s' => ∃ v, fin = .done (.ret v) ∧ v ≠ .notImplemented ∧ Q v s') E s := by
    unfold Builtin.«object.__ne__»
    refine wpAny_bind (wpAny_of_eq (a := ((Value.ref x : Value), [b])) (by first | rfl | (simp only [slotArgs]; rfl)) ?_)
    refine wpAny_bind (wpAny_cRoomFor hu' ?_)
    refine wpAny_bind (ifBound_K X I he hf (wpAny_mono h (fun v s' hv => ?_) fun _ _ e => e))
    obtain ⟨r, rfl, hq⟩ := hv
    refine wpAny_bind (wpAny_truthy_bool ?_)
    exact wpAny_pure ⟨_, rfl, (fun z => nomatch z), hq⟩
  have one : wpAny (model prog w) A (tryCompare (.ref x) "__ne__" b) (fun r s' => ∃ v, r = some v ∧ Q v s') E s := by
    unfold tryCompare
    refine wpAny_bind ?_
    simp only [callSpecialIfBound?, bindSpecialIfBound?]
    refine wpAny_holding (wpAny_bind (wpAny_bind (wpAny_bind (I.type.here ((looks_findIn X hs).here ?_)))))
    simp only [PySem.F.cmp_object.ne.bind]
    refine wpAny_bind (wpAny_askSetting (wpAny_ite ?_))
    have hcall : wpAny (model prog w) A (call (.builtin "object.__ne__") [.ref x, b]) (fun v s' => v ≠ .notImplemented ∧ Q v s') E s := by
      refine wpAny_call (codeAny_call_builtin PySem.F.cmp_object.ne.plain F.cmpEntry_ne ?_)
      refine check_slot F.cmpKind_ne F.cmpSplit_ne sub (F.cmpArgs_ne _ _) ?_
      refine wpAny_mono inner (fun fin s' z => ?_) fun _ _ z => z
      obtain ⟨v, rfl, h1, h2⟩ := z
      exact ⟨h1, h2⟩
    have fin : ∀ Q' : Option Value → Shared → Prop, (∀ v s', v ≠ .notImplemented → Q v s' → Q' (some v) s') → wpAny (model prog w) A (call (.builtin "object.__ne__") ([.ref x] ++ [b]) >>= fun v => pure (some v)) Q' E s := fun Q' hQ =>
      wpAny_bind (wpAny_mono hcall (fun v s' z => wpAny_pure (hQ v s' z.1 z.2)) fun _ _ z => z)
    split
    · exact wpAny_bind (wpAny_pure (wpAny_pure (fin _ fun v s' z hq => by cases v <;> first | exact absurd rfl z | exact wpAny_pure ⟨_, rfl, hq⟩)))
    · exact wpAny_tryCatch (wpAny_bind (wpAny_pure (wpAny_pure (fin _ fun v s' z hq => by cases v <;> first | exact absurd rfl z | exact wpAny_pure ⟨_, rfl, hq⟩))))
  unfold richCompare
  simp only [oneThing_ref]
  refine wpAny_holding (wpAny_bind (wpAny_cRoomFor (Nat.lt_of_succ_lt hu) ?_))
  refine wpAny_bind (I.type.here (wpAny_bind (hb.here ?_)))
  split
  · rename_i q
    have e : subIn K tb (.ref C) = some false := by
      rcases Bool.or_eq_true_iff.mp hn with e | e
      · rw [beq_iff_eq.mp e] at q; simp at q
      · exact beq_iff_eq.mp e
    refine wpAny_bind ((looks_subIn X e).here ?_)
    simp only [Bool.false_eq_true, if_false]
    refine wpAny_bind (wpAny_mono one (fun r s' z => ?_) fun _ _ e => e)
    obtain ⟨v, rfl, hq⟩ := z
    exact wpAny_pure hq
  · refine wpAny_bind (wpAny_pure ?_)
    simp only [Bool.false_eq_true, if_false]
    refine wpAny_bind (wpAny_mono one (fun r s' z => ?_) fun _ _ e => e)
    obtain ⟨v, rfl, hq⟩ := z
    exact wpAny_pure hq
end
end BwM
namespace BwM
open PySem PySem.W PySem.Spec PySem.Calls PyProof.Rows
/-- the class's line is itself and object -/
def lineO (K : Frag) (C : Addr) : Bool := (clsIn K C).any fun cd => decide (cd.mro = [.ref C, .type "object"])
section
variable {prog : Program} {w : World} {M : Model} {A : Around} {E : Value → Shared → Prop} {s : Shared} {K : Frag} {x C f : Addr} {ox : Obj} {od : Option Obj} {nm T : String}
theorem fillsI_no {h : Heap} {add : Bool} (X : K.In h) (hl : lineO K C = true) (h1 : findIn K (.ref C) (dunderI nm) = some none) (h2 : findIn K (.type "object") (dunderI nm) = some none) : Looks M h (fillsInplaceSlot (.ref C) nm add) false := by
  obtain ⟨cd, hc, hm⟩ := any_some hl
  have hm := of_decide_eq_true hm
  intro A Q E s k q
  have Lm : Looks M h (mroOf (.ref C)) cd.mro := (looks_clsIn X hc).andThen (f := fun cd => pure cd.mro) .now
  have Lm' := Lm.keeps k
  obtain ⟨hh, g, d, tt, os⟩ := s
  have X' : K.In hh := X.keeps k
  have L1 : Looks M hh (typeLookup (.ref C) (dunderI nm)) none := looks_findIn X' h1
  have L2 : Looks M hh (typeLookup (.type "object") (dunderI nm)) none := looks_findIn X' h2
  unfold fillsInplaceSlot
  refine wpAny_bind (Lm'.at ?_)
  rw [hm, List.anyM_cons]
  refine wpAny_bind ?_
  refine wpAny_bind (L1.at ?_)
  refine wpAny_pure ?_
  rw [if_neg Bool.false_ne_true, List.anyM_cons]
  refine wpAny_bind ?_
  refine wpAny_bind (L2.at ?_)
  refine wpAny_pure ?_
  rw [if_neg Bool.false_ne_true, List.anyM_nil]
  exact wpAny_pure q
theorem inpl_T {op : Operator} {b : Value} {fo ro rc : Option Value} {Q : Value → Shared → Prop} (X : K.In s.heap) (I : InstAt s.heap x ox C od) (hb : typeOf b = pure (.type T)) (hc : selfFirst K C = true)
    (hs : findIn K (.ref C) (PySem.dunder op.info.2) = some (some (.ref f))) (hf : isFn K (.ref f) = true) (hr : findIn K (.ref C) (dunderR op.info.2) = some rc) (hp : rc = none ∨ ∃ g : Addr, rc = some (.ref g))
    (h1 : findIn K (.type T) (PySem.dunder op.info.2) = some fo) (h2 : findIn K (.type T) (dunderR op.info.2) = some ro) (hsub : subIn K (.type T) (.ref C) = some false)
    (hl : lineO K C = true) (h3 : findIn K (.ref C) (dunderI op.info.2) = some none) (h4 : findIn K (.type "object") (dunderI op.info.2) = some none)
    (h : wpAny (model prog w) A (call (.ref f) [.ref x, b]) (PySem.W.CmpBack Q) E s) : wpAny (model prog w) A (inplaceOp op (.ref x) b) Q E s := by
  obtain ⟨cd, rest, hcd, hm⟩ := ksp_first hc
  rcases hi : op.info with ⟨sym, nm'⟩
  rw [hi] at hs hr h1 h2 h3 h4
  dsimp only at hs hr h1 h2 h3 h4
  have one := ksp_try X I hs hf h
  obtain ⟨hh, g, d, tt, os⟩ := s
  have L1 : Looks (model prog w) hh (typeOf (.ref x)) (.ref C) := I.type
  have L2 : Looks (model prog w) hh (typeOf b) (.type T) := Looks.of_pure hb
  have L3 : Looks (model prog w) hh (fillsNumberSlot (.ref C) nm') true := fills_K X hcd hm hs
  have L4 : Looks (model prog w) hh (fillsNumberSlot (.type T) nm') ((fo.isSome && !isSeqSlot fo) || (ro.isSome && !isSeqSlot ro)) := ksp_fillsT X h1 h2
  have L5 : Looks (model prog w) hh (isSubtype (.type T) (.ref C)) false := looks_subIn X hsub
  have L6 : Looks (model prog w) hh (numberSlotInPython (.ref C) nm') true := ksp_inPy X hs hr hp
  have L7 : Looks (model prog w) hh (numberSlotInPython (.type T) nm') false := Looks.of_pure rfl
  have L8 : Looks (model prog w) hh (typeLookup (.type T) (dunderR nm')) ro := looks_findIn X h2
  have L9 : Looks (model prog w) hh (fillsInplaceSlot (.ref C) nm' (op == .Add)) false := fillsI_no X hl h3 h4
  generalize ((fo.isSome && !isSeqSlot fo) || (ro.isSome && !isSeqSlot ro)) = right at L4
  have hne : (Value.ref C == Value.type T) = false := Bool.eq_false_iff.mpr fun q => by cases beq_iff_eq.mp q
  unfold inplaceOp
  simp only [hi]
  refine wpAny_holding (wpAny_bind (L1.at ?_))
  refine wpAny_bind (L9.at ?_)
  simp only [Bool.false_eq_true, if_false]
  refine wpAny_bind ?_
  unfold binaryOp1
  refine wpAny_bind (L1.at (wpAny_bind (L2.at (wpAny_bind (L3.at ?_)))))
  simp only [hne, Bool.false_eq_true, if_false]
  cases right with
  | false =>
    ksp_lk
    refine wpAny_mono one (fun r s' hr' => ?_) fun _ _ e => e
    obtain ⟨v, rfl, hq⟩ := hr'
    ksp_lk
    exact hq
  | true =>
    ksp_lk
    refine wpAny_mono one (fun r s' hr' => ?_) fun _ _ e => e
    obtain ⟨v, rfl, hq⟩ := hr'
    ksp_lk
    exact hq
end
end BwM
namespace Bw
open PySem PySem.Spec PyProof.Rows L2
section
variable {X : Cx} {W : WX} {k : Nat} {f g C : Addr} {sp : Sp} {a b o e : Expr} {es : List Expr} {ta tb : TE} {t : TA} {pos apos p : Pos} {pins : List (Addr × Obj)} {σ : L2.St} {H : Hp} {s : Shared} {Q : VK} {nm : String} {m x : Str}
/-- o[i], o an instance with its own __getitem__ that lets nothing out -/
def tIxI (C : Addr) (sp : Sp) (ta tb : TE) : TE := fun σ H Q => ta σ H fun x H1 => tb σ H1 fun y H2 => ∃ a dx fs, x = .ref a ∧ H2 a = some (.ins C dx fs) ∧ sp [x, y] H2 Q E0
theorem pe_ixI (h1 : PySem.W.findIn X.K (.ref C) "__getitem__" = some (some (.ref f))) (h2 : PySem.W.isFn X.K (.ref f) = true) (h3 : PySem.W.fnIn X.K f = true) (G : CallIn X k f sp) (ha : PE X a ta) (hb : PE X b tb)
    (hsl : ∀ o i, subscripted b true o i = runValue (.builtin "lifetime.subscript" ⟨[o, i], []⟩) := by intros; with_unfolding_all rfl) : PE X (.Subscript a b pos) (tIxI C sp ta tb) := by
  refine ⟨fun pins s σ H Q I h => ?_⟩
  refine Subscript_ (binT ha hb I h fun v u s2 x y H2 I2 rx ry q => ?_)
  obtain ⟨a, dx, fs, rfl, h4, q⟩ := q
  cases rx
  obtain ⟨od, J⟩ := inst_at I2 h4
  obtain ⟨m, hF⟩ := I2.fr
  exact PySem.W.sub_K hF I2.ok.mod.kin J h1 h3 h2 (G.run (vs := [.ref a, y]) I2 (.cons rfl (.cons ry .nil)) q) (hsl _ _)
/-- x in o, o an instance with its own __contains__ -/
def tInI (C : Addr) (sp : Sp) (W : WX) (neg : Bool) (ta tb : TE) : TE := fun σ H Q => ta σ H fun x H1 => tb σ H1 fun y H2 => ∃ a dx fs, y = .ref a ∧ H2 a = some (.ins C dx fs) ∧ sp [y, x] H2 (fun v H3 => ∃ r, v = .bl r ∧ Q (.bl (r != neg)) H3) (WE W σ)
theorem pc_inI (h1 : PySem.W.findIn X.K (.ref C) "__contains__" = some (some (.ref f))) (h2 : PySem.W.isFn X.K (.ref f) = true) (G : Call1 X W k f sp) (ha : PE X a ta) (hb : PE X b tb) : PC X .In a b (tInI C sp W false ta tb) := by
  refine ⟨fun pins s σ H Q I h => binT ha hb I h fun v u s2 x y H2 I2 rx ry q => ?_⟩
  obtain ⟨a, dx, fs, rfl, h3, q⟩ := q
  cases ry
  obtain ⟨od, J⟩ := inst_at I2 h3
  obtain ⟨m, hF⟩ := I2.fr
  refine PySem.W.in_K hF I2.ok.mod.kin J h1 h2 (wpAny_mono (G.run (vs := [.ref a, x]) I2 (.cons rfl (.cons rx .nil)) q) (fun v s' z => ?_) fun _ _ z => z)
  obtain ⟨y, H', I', ry, r, rfl, q'⟩ := z
  cases (show v = Value.bool r from ry)
  exact wpAny_truthy_bool ⟨.bl r, H', I', rfl, by simpa using q'⟩
theorem pc_notInI (h1 : PySem.W.findIn X.K (.ref C) "__contains__" = some (some (.ref f))) (h2 : PySem.W.isFn X.K (.ref f) = true) (G : Call1 X W k f sp) (ha : PE X a ta) (hb : PE X b tb) : PC X .NotIn a b (tInI C sp W true ta tb) := by
  refine ⟨fun pins s σ H Q I h => binT ha hb I h fun v u s2 x y H2 I2 rx ry q => ?_⟩
  obtain ⟨a, dx, fs, rfl, h3, q⟩ := q
  cases ry
  obtain ⟨od, J⟩ := inst_at I2 h3
  obtain ⟨m, hF⟩ := I2.fr
  refine PySem.W.notIn_K hF I2.ok.mod.kin J h1 h2 (wpAny_mono (G.run (vs := [.ref a, x]) I2 (.cons rfl (.cons rx .nil)) q) (fun v s' z => ?_) fun _ _ z => z)
  obtain ⟨y, H', I', ry, r, rfl, q'⟩ := z
  cases (show v = Value.bool r from ry)
  exact wpAny_truthy_bool ⟨.bl (!r), H', I', rfl, by simpa using q'⟩
/-- a != b by the own __eq__ -/
def tNeI (K : PySem.W.Frag) (C : Addr) (sp : Sp) (ta tb : TE) : TE := fun σ H Q => ta σ H fun x H1 => tb σ H1 fun y H2 =>
  ∃ a dx fs t, x = .ref a ∧ H2 a = some (.ins C dx fs) ∧ TyX K H2 y t ∧ PySem.W.notFirst K C t = true ∧ sp [x, y] H2 (fun v H' => ∃ r, v = .bl r ∧ Q (.bl (!r)) H') E0
def neB (K : PySem.W.Frag) (C : Addr) : Bool := He.eqO (PySem.W.findIn K (.ref C) "__ne__") (some (some (.builtin "object.__ne__"))) && decide (PySem.W.subIn K (.ref C) (.type "object") = some true)
theorem pc_neI (h0 : neB X.K C = true) (h1 : PySem.W.findIn X.K (.ref C) "__eq__" = some (some (.ref f))) (h2 : PySem.W.isFn X.K (.ref f) = true) (G : CallIn X k f sp) (ha : PE X a ta) (hb : PE X b tb) : PC X .NotEq a b (tNeI X.K C sp ta tb) := by
  refine ⟨fun pins s σ H Q I h => binT ha hb I h fun v u s2 x y H2 I2 rx ry q => ?_⟩
  obtain ⟨a, dx, fs, t, rfl, h3, ty, hn, q⟩ := q
  cases rx
  obtain ⟨od, J⟩ := inst_at I2 h3
  obtain ⟨P, Z, hp, _⟩ := kit_of I2 ry ty
  obtain ⟨n1, n2⟩ := He.ba h0
  show wpAny _ _ (richCompare .NotEq (.ref a) u) _ _ _
  have Lb : PySem.W.Looks (model X.prog X.w) s2.heap (typeOf u) t := Z.ty _ _ I2.kIn hp
  refine BwM.ne_K (by first | exact G.room.units | exact G.room.in1.units0) I2.kIn J Lb hn (He.eqO_ok n1) h1 h2 (of_decide_eq_true n2) (wpAny_mono (G.run (vs := [.ref a, y]) I2 (.cons rfl (.cons ry .nil)) q) (fun v s' z => ?_) fun _ _ z => z)
  obtain ⟨y, H', I', ry, r, rfl, q'⟩ := z
  exact ⟨r, ry, .bl (!r), H', I', rfl, q'⟩
/-- x op= i, x an instance with that operator and without an own op= -/
def tipI (C : Addr) (sp : Sp) : V → V → Hp → VK → Prop := fun x y H Q => ∃ a dx fs i, x = .ref a ∧ H a = some (.ins C dx fs) ∧ y = .int i ∧ sp [x, y] H Q E0
theorem pip_I {op : Operator} (O : OpF X.K C op.info.2 f) (hl : BwM.lineO X.K C = true) (h3 : PySem.W.findIn X.K (.ref C) (PySem.dunderI op.info.2) = some none) (h4 : PySem.W.findIn X.K (.type "object") (PySem.dunderI op.info.2) = some none)
    (h1 : (fastLookup "int" (PySem.dunder op.info.2)).isSome = true) (h2 : (fastLookup "int" (PySem.dunderR op.info.2)).isSome = true) (G : Call1 X w0 k f sp) : PIp X op (tipI C sp) := by
  intro pins s σ H x y v u Q I rx ry h
  obtain ⟨a, dx, fs, i, rfl, h5, rfl, q⟩ := h
  cases rx
  obtain ⟨tk, rfl⟩ := (show ∃ t, u = Value.int i t from ry)
  obtain ⟨od, J⟩ := inst_at I h5
  obtain ⟨rc, r1, r2⟩ := O.rr
  obtain ⟨fo, h1⟩ := Option.isSome_iff_exists.mp h1
  obtain ⟨ro, h2⟩ := Option.isSome_iff_exists.mp h2
  exact BwM.inpl_T (T := "int") I.kIn J rfl O.self O.at_ O.fn r1 r2 h1 h2 O.sub hl h3 h4 (G.back (vs := [.ref a, .int i]) (σ := σ) I (.cons rfl (.cons ⟨tk, rfl⟩ .nil)) q)
theorem pc_eqI (h1 : PySem.W.findIn X.K (.ref C) "__eq__" = some (some (.ref f))) (h2 : PySem.W.isFn X.K (.ref f) = true) (G : Call1 X W k f sp) (ha : PE X a ta) (hb : PE X b tb) : PC X .Eq a b (tEqI X.K C sp W ta tb) := by
  refine ⟨fun pins s σ H Q I h => binT ha hb I h fun v u s2 x y H2 I2 rx ry q => ?_⟩
  obtain ⟨a, dx, fs, t, rfl, h3, ty, hn, q⟩ := q
  cases rx
  obtain ⟨od, J⟩ := inst_at I2 h3
  obtain ⟨m, hF⟩ := I2.fr
  obtain ⟨P, Z, hp, _⟩ := kit_of I2 ry ty
  show wpAny _ _ (richCompare .Eq (.ref a) u) _ _ _
  have Lb : PySem.W.Looks (model X.prog X.w) s2.heap (typeOf u) t := Z.ty _ _ I2.kIn hp
  exact PySem.W.cmp_K (op := .Eq) G.room.units0 hF I2.ok.mod.kin J Lb hn h1 h2 (G.back (vs := [.ref a, y]) I2 (.cons rfl (.cons ry .nil)) q)
end
end Bw

namespace Bw
open PySem PySem.Spec PyProof.Rows L2 ItX
abbrev rTupOf (K : PySem.W.Frag) : List V → Hp → VK → Prop := fun xs H Q => ∃ p ys, xs = [.ref p] ∧ ((SqL K H p ys ∧ ∀ l, H l = none → Q (.ref l) (upd H l (.tup ys))) ∨ (SqT K H p ys ∧ Q (.ref p) H))
abbrev rInS : R2 := fun x y H Q => ∃ (c : Nat) (z : Str), x = .str ⟨#[c]⟩ ∧ y = .str z ∧ Q (.bl (decide (c ∈ z.cps.toList))) H
abbrev rNotInS : R2 := fun x y H Q => ∃ (c : Nat) (z : Str), x = .str ⟨#[c]⟩ ∧ y = .str z ∧ Q (.bl (!decide (c ∈ z.cps.toList))) H
abbrev rSIndex : V → List V → Hp → VK → Prop := fun x xs H Q => ∃ a b i rest, x = .str a ∧ xs = [.str b] ∧ Builtin.Str.occurrences a b 0 a.length 1 = i :: rest ∧ Q (.int (i : Nat)) H
/-! ### names, houses, beats, crews -/
def lettersS : Str := "abcdefghijklmnopqrstuvwxyz"
structure NameOk (x : Str) : Prop where
  l1 : 1 ≤ x.length
  l2 : x.length ≤ 8
  az : ∀ c ∈ x.cps.toList, 97 ≤ c ∧ c < 123
structure Hd where
  n : Int
  names : List Str
  stakes : List Int
deriving DecidableEq
structure HouseOk (A : Hd) : Prop where
  n1 : 1 ≤ A.n
  n2 : A.n ≤ 24
  g1 : 1 ≤ A.names.length
  g2 : A.names.length ≤ 4
  len : A.stakes.length = A.names.length
  cells : A.n * A.names.length ≤ 48
  nm : ∀ x ∈ A.names, NameOk x
  nd : A.names.Nodup
  st : ∀ s ∈ A.stakes, 0 ≤ s ∧ s ≤ 60
def HouseAt (K : PySem.W.Frag) (H : Hp) (a : Addr) (A : Hd) : Prop := HouseOk A ∧ ∃ dx na st, H a = some (.ins (He.ga K "House") dx [("hours", .int A.n), ("names", .ref na), ("stakes", .ref st)]) ∧ H na = some (.tup (A.names.map V.str)) ∧ H st = some (.tup (A.stakes.map V.int))
theorem HouseAt.ext {K : PySem.W.Frag} {H H' : Hp} {a : Addr} {A : Hd} (h : HouseAt K H a A) (x : Ext H H') : HouseAt K H' a A := by
  obtain ⟨o, dx, na, st, h1, h2, h3⟩ := h
  exact ⟨o, dx, na, st, x _ _ h1, x _ _ h2, x _ _ h3⟩
structure Bd where
  h : Hd
  steps : List Int
deriving DecidableEq
structure BeatOk (B : Bd) : Prop where
  len : (B.steps.length : Int) = B.h.n
  rng : ∀ p ∈ B.steps, -1 ≤ p ∧ p < B.h.names.length
def BeatAt (K : PySem.W.Frag) (H : Hp) (a : Addr) (B : Bd) : Prop := BeatOk B ∧ ∃ dx h st, H a = some (.ins (He.ga K "Beat") dx [("house", .ref h), ("steps", .ref st)]) ∧ HouseAt K H h B.h ∧ H st = some (.tup (B.steps.map V.int))
theorem BeatAt.ext {K : PySem.W.Frag} {H H' : Hp} {a : Addr} {B : Bd} (h : BeatAt K H a B) (x : Ext H H') : BeatAt K H' a B := by
  obtain ⟨o, dx, na, st, h1, h2, h3⟩ := h
  exact ⟨o, dx, na, st, x _ _ h1, h2.ext x, x _ _ h3⟩
structure Cd where
  b : Bd
  starts : List Int
deriving DecidableEq
def CrewAt (K : PySem.W.Frag) (H : Hp) (a : Addr) (C : Cd) : Prop := ∃ dx b l, H a = some (.ins (He.ga K "Crew") dx [("beat", .ref b), ("starts", .ref l)]) ∧ BeatAt K H b C.b ∧ LotAt K H l C.b.h.n C.starts
theorem CrewAt.ext {K : PySem.W.Frag} {H H' : Hp} {a : Addr} {C : Cd} (h : CrewAt K H a C) (x : Ext H H') : CrewAt K H' a C := by
  obtain ⟨dx, b, l, h1, h2, h3⟩ := h
  exact ⟨dx, b, l, x _ _ h1, h2.ext x, h3.ext x⟩
/-- where a guard with start s is in hour h -/
def Bd.at_ (B : Bd) (t : Int) : Int := B.steps.getD (t % B.h.n).toNat 0
def Bd.lot (B : Bd) (g : Int) : List Int := (ring B.h.n).filter fun h => decide (B.at_ h = g)
def Cd.row (C : Cd) (g : Int) : List Int := (ring C.b.h.n).map fun h => (((C.starts.filter fun s => decide (C.b.at_ (h - s) = g)).length : Nat) : Int)
def Cd.works (C : Cd) (s : Int) : List Int := (ring C.b.h.n).filter fun h => decide (C.b.at_ (h - s) ≠ -1)
def moved (n k : Int) (ms : List Int) : List Int := srt (ms.map fun m => (m + k) % n)
/-- the gates as they are handed in -/
def gatesD (names : List Str) (stakes : List Int) : PyData := .list ((names.zip stakes).map fun p => .tuple [.str p.1, .int p.2])
/-- an error without fields is let out -/
def Bare (K : PySem.W.Frag) (H : Hp) (E : XK) (C : Str) : Prop := ∀ H', Ext H H' → E (.ref (He.ga K C)) none H'
/-- like or unlike, of one class -/
def EqTo {α : Type} [DecidableEq α] (K : PySem.W.Frag) (H : Hp) (Q : VK) (C : Str) (At : Addr → α → Prop) (A : α) (y : V) : Prop :=
  (∃ b B, y = .ref b ∧ At b B ∧ Q (.bl (decide (A = B))) H) ∨ (∃ t, TyX K H y t ∧ PySem.W.kitOne K t (.ref (He.ga K C)) = some false ∧ Q (.bl false) H)
def sp_is_name (K : PySem.W.Frag) : Sp := fun vs H Q E => ∃ (x : Str), vs = [.str x] ∧ NameOk x ∧ ∀ H', Ext H H' → Q (.bl true) H'
def sp_name_checked (K : PySem.W.Frag) : Sp := fun vs H Q E => ∃ (x : Str), vs = [.str x] ∧ NameOk x ∧ ∀ H', Ext H H' → Q .non H'
def sp_Lot_contains (K : PySem.W.Frag) : Sp := fun vs H Q E => ∃ (a : Addr) (n m : Int) (ms : List Int), vs = [.ref a, .int m] ∧ LotAt K H a n ms ∧ Q (.bl (decide (m % n ∈ ms))) H
def sp_Lot_eq (K : PySem.W.Frag) : Sp := fun vs H Q E => ∃ (a b : Addr) (n n' : Int) (ms ms' : List Int), vs = [.ref a, .ref b] ∧ LotAt K H a n ms ∧ LotAt K H b n' ms' ∧ Q (.bl (decide (n = n' ∧ ms = ms'))) H
def sp_House_init (K : PySem.W.Frag) : Sp := fun vs H Q E => ∃ (a dx l : Addr) (A : Hd), vs = [.ref a, .int A.n, .ref l] ∧ H a = some (.ins (He.ga K "House") dx []) ∧ HouseOk A ∧ Dn H 2 (.ref l) (gatesD A.names A.stakes) ∧ l ≠ a ∧
  ∀ H', (∀ b o, b ≠ a → H b = some o → H' b = some o) → HouseAt K H' a A → Q .non H'
def sp_House_len (K : PySem.W.Frag) : Sp := fun vs H Q E => ∃ (a : Addr) (A : Hd), vs = [.ref a] ∧ HouseAt K H a A ∧ Q (.int (A.names.length : Nat)) H
def sp_House_eq (K : PySem.W.Frag) : Sp := fun vs H Q E => ∃ (a : Addr) (y : V) (A : Hd), vs = [.ref a, y] ∧ HouseAt K H a A ∧ EqTo K H Q "House" (HouseAt K H) A y
def sp_Beat_init (K : PySem.W.Frag) : Sp := fun vs H Q E => ∃ (a dx h l : Addr) (B : Bd), vs = [.ref a, .ref h, .ref l] ∧ H a = some (.ins (He.ga K "Beat") dx []) ∧ BeatOk B ∧ HouseAt K H h B.h ∧ H l = some (.lst (B.steps.map V.int)) ∧
  ∀ H', (∀ b o, b ≠ a → H b = some o → H' b = some o) → BeatAt K H' a B → Q .non H'
def sp_Beat_getitem (K : PySem.W.Frag) : Sp := fun vs H Q E => ∃ (a : Addr) (t : Int) (B : Bd), vs = [.ref a, .int t] ∧ BeatAt K H a B ∧ Q (.int (B.at_ t)) H
def sp_Beat_eq (K : PySem.W.Frag) : Sp := fun vs H Q E => ∃ (a : Addr) (y : V) (B : Bd), vs = [.ref a, y] ∧ BeatAt K H a B ∧ EqTo K H Q "Beat" (BeatAt K H) B y
def sp_Beat_lot (K : PySem.W.Frag) : Sp := fun vs H Q E => ∃ (a : Addr) (g : Int) (B : Bd), vs = [.ref a, .int g] ∧ BeatAt K H a B ∧ if -1 ≤ g ∧ g < B.h.names.length then (∀ H' b, Ext H H' → LotAt K H' b B.h.n (B.lot g) → Q (.ref b) H') else Bare K H E "NoPlace"
def sp_Crew_init (K : PySem.W.Frag) : Sp := fun vs H Q E => ∃ (a dx b l : Addr) (n : Int) (B : Bd) (ms : List Int), vs = [.ref a, .ref b, .ref l] ∧ H a = some (.ins (He.ga K "Crew") dx []) ∧ BeatAt K H b B ∧ LotAt K H l n ms ∧ b ≠ a ∧ l ≠ a ∧
  if n = B.h.n then (∀ H', (∀ b o, b ≠ a → H b = some o → H' b = some o) → H' a = some (.ins (He.ga K "Crew") dx [("beat", .ref b), ("starts", .ref l)]) → Q .non H') else Bare K H E "OtherHours"
def sp_Crew_len (K : PySem.W.Frag) : Sp := fun vs H Q E => ∃ (a : Addr) (C : Cd), vs = [.ref a] ∧ CrewAt K H a C ∧ Q (.int (C.starts.length : Nat)) H
def sp_Crew_lshift (K : PySem.W.Frag) : Sp := fun vs H Q E => ∃ (a : Addr) (k : Int) (C : Cd), vs = [.ref a, .int k] ∧ CrewAt K H a C ∧ ∀ H' b, Ext H H' → CrewAt K H' b ⟨C.b, moved C.b.h.n k C.starts⟩ → Q (.ref b) H'
def sp_Crew_eq (K : PySem.W.Frag) : Sp := fun vs H Q E => ∃ (a : Addr) (y : V) (C : Cd), vs = [.ref a, y] ∧ CrewAt K H a C ∧ EqTo K H Q "Crew" (CrewAt K H) C y
def sp_Crew_row (K : PySem.W.Frag) : Sp := fun vs H Q E => ∃ (a : Addr) (g : Int) (C : Cd), vs = [.ref a, .int g] ∧ CrewAt K H a C ∧ if 0 ≤ g ∧ g < C.b.h.names.length then (∀ H' p, Ext H H' → H p = none → H' p = some (.lst ((C.row g).map V.int)) → Q (.ref p) H') else Bare K H E "NoPlace"
def sp_Crew_working (K : PySem.W.Frag) : Sp := fun vs H Q E => ∃ (a : Addr) (s : Int) (C : Cd), vs = [.ref a, .int s] ∧ CrewAt K H a C ∧ if s % C.b.h.n ∈ C.starts then (∀ H' p, Ext H H' → LotAt K H' p C.b.h.n (C.works s) → Q (.ref p) H') else Bare K H E "NoPlace"
end Bw

namespace Bw
open PySem PySem.Spec PyProof.Rows L2
/-! ### what more is known of classes -/
def kit2 (K : PySem.W.Frag) (x : Str) (l : List (Str × Bool)) : Bool := l.all fun p => decide (PySem.W.kitOne K (.ref (He.ga K x)) (.ref (He.ga K p.1)) = some p.2)
def noPl (K : PySem.W.Frag) : Bool := excCB K (He.ga K "NoPlace") && (decide (PySem.W.kitOne K (.ref (He.ga K "NoPlace")) (.type "ValueError") = some true) && (kit2 K "NoPlace" [("WatchError", true), ("NoPlace", true), ("OtherHours", false), ("BadNumber", false)] && decide (PySem.W.exmOne K (.ref (He.ga K "NoPlace")) (.ref (He.ga K "NoPlace")) = some true)))
def othH (K : PySem.W.Frag) : Bool := kit2 K "OtherHours" [("WatchError", true), ("OtherHouse", false), ("NoPlace", false)]
def nf (K : PySem.W.Frag) (C D : Str) : Bool := PySem.W.notFirst K (He.ga K C) (.ref (He.ga K D))
def unK (K : PySem.W.Frag) (C D : Str) : Bool := decide (PySem.W.kitOne K (.ref (He.ga K D)) (.ref (He.ga K C)) = some false)
def crewAll (K : PySem.W.Frag) : Bool := nf K "Crew" "Crew" && (nf K "Beat" "Beat" && (nf K "House" "House" && (nf K "Lot" "Lot" && (nf K "Crew" "Beat" && unK K "Crew" "Beat"))))
structure KFH (K : PySem.W.Frag) : Prop where
  exm : exmAll K = true
  kit : kitAll K = true
  lot : insAll K "Lot" = true
  np : noPl K = true
  oh : othH K = true
  house : insAll K "House" = true
  beat : insAll K "Beat" = true
  crew : insAll K "Crew" = true
  all : crewAll K = true
theorem KFH.kf {K : PySem.W.Frag} (F : KFH K) : KF K := ⟨F.exm, F.kit, F.lot⟩
theorem KFH.nfc {K : PySem.W.Frag} (F : KFH K) : PySem.W.notFirst K (He.ga K "Crew") (.ref (He.ga K "Crew")) = true := (He.ba F.all).1
theorem KFH.nfb {K : PySem.W.Frag} (F : KFH K) : PySem.W.notFirst K (He.ga K "Beat") (.ref (He.ga K "Beat")) = true := (He.ba (He.ba F.all).2).1
theorem KFH.nfh {K : PySem.W.Frag} (F : KFH K) : PySem.W.notFirst K (He.ga K "House") (.ref (He.ga K "House")) = true := (He.ba (He.ba (He.ba F.all).2).2).1
theorem KFH.nfl {K : PySem.W.Frag} (F : KFH K) : PySem.W.notFirst K (He.ga K "Lot") (.ref (He.ga K "Lot")) = true := (He.ba (He.ba (He.ba (He.ba F.all).2).2).2).1
theorem KFH.nfcb {K : PySem.W.Frag} (F : KFH K) : PySem.W.notFirst K (He.ga K "Crew") (.ref (He.ga K "Beat")) = true := (He.ba (He.ba (He.ba (He.ba (He.ba F.all).2).2).2).2).1
theorem KFH.uncb {K : PySem.W.Frag} (F : KFH K) : PySem.W.kitOne K (.ref (He.ga K "Beat")) (.ref (He.ga K "Crew")) = some false := of_decide_eq_true (He.ba (He.ba (He.ba (He.ba (He.ba F.all).2).2).2).2).2
instance {K : PySem.W.Frag} : Coe (KFH K) (KF K) := ⟨KFH.kf⟩
theorem kit2_at {K : PySem.W.Frag} {x y : Str} {l : List (Str × Bool)} {b : Bool} (h : kit2 K x l = true) (hm : (y, b) ∈ l) : PySem.W.kitOne K (.ref (He.ga K x)) (.ref (He.ga K y)) = some b := of_decide_eq_true (List.all_eq_true.mp h _ hm)
theorem KFH.npc {K : PySem.W.Frag} (F : KFH K) : excCB K (He.ga K "NoPlace") = true := (He.ba F.np).1
theorem KFH.npv {K : PySem.W.Frag} (F : KFH K) : PySem.W.kitOne K (.ref (He.ga K "NoPlace")) (.type "ValueError") = some true := of_decide_eq_true (He.ba (He.ba F.np).2).1
theorem KFH.npk {K : PySem.W.Frag} (F : KFH K) {y : Str} {b : Bool} (hm : (y, b) ∈ [(("WatchError" : Str), true), ("NoPlace", true), ("OtherHours", false), ("BadNumber", false)]) : PySem.W.kitOne K (.ref (He.ga K "NoPlace")) (.ref (He.ga K y)) = some b := kit2_at (He.ba (He.ba (He.ba F.np).2).2).1 hm
theorem KFH.npx {K : PySem.W.Frag} (F : KFH K) : PySem.W.exmOne K (.ref (He.ga K "NoPlace")) (.ref (He.ga K "NoPlace")) = some true := of_decide_eq_true (He.ba (He.ba (He.ba F.np).2).2).2
theorem KFH.ohk {K : PySem.W.Frag} (F : KFH K) {y : Str} {b : Bool} (hm : (y, b) ∈ [(("WatchError" : Str), true), ("OtherHouse", false), ("NoPlace", false)]) : PySem.W.kitOne K (.ref (He.ga K "OtherHours")) (.ref (He.ga K y)) = some b := kit2_at F.oh hm
/-! ### the law's own defs -/
def sp_l_drawsW (K : PySem.W.Frag) : Sp := fun vs H Q E => ∃ (c s : Int) (a : Addr) (ms : List Int), vs = [.int c, .int s, .ref a] ∧ 0 ≤ c ∧ 0 ≤ s ∧ s ≤ 1000000 ∧ SqL K H a (ms.map V.int) ∧ ms.length ≤ 1000 ∧ (∀ m ∈ ms, 1 ≤ m ∧ m < 2 ^ 200) ∧
  ∀ H' p (ds : List Int), Ext H H' → H p = none → H' p = some (.lst (ds.map V.int)) → ds.length = ms.length → (∀ (i : Nat) (m d : Int), ms[i]? = some m → ds[i]? = some d → 0 ≤ d ∧ d < m) → Q (.ref p) H'
def sp_l_two (K : PySem.W.Frag) : Sp := fun vs H Q E => ∃ (n : Int), vs = [.int n] ∧ 0 ≤ n ∧ n ≤ 60 ∧ Q (.int (2 ^ n.toNat)) H
def sp_l_name (K : PySem.W.Frag) : Sp := fun vs H Q E => ∃ (i : Int), vs = [.int i] ∧ 0 ≤ i ∧ i < 2 ^ 64 ∧ ∀ x : Str, NameOk x → Q (.str x) H
def sp_l_names (K : PySem.W.Frag) : Sp := fun vs H Q E => ∃ (a : Addr) (ns : List Int), vs = [.ref a] ∧ SqL K H a (ns.map V.int) ∧ ns.length ≤ 8 ∧ (∀ i ∈ ns, 0 ≤ i ∧ i < 2 ^ 64) ∧
  ∀ H' p (xs : List Str), Ext H H' → H' p = some (.lst (xs.map V.str)) → xs.length = ns.length → xs.Nodup → (∀ x ∈ xs, NameOk x) → Q (.ref p) H'
def sp_l_gates (K : PySem.W.Frag) : Sp := fun vs H Q E => ∃ (a b : Addr) (ns ss : List Int), vs = [.ref a, .ref b] ∧ SqL K H a (ns.map V.int) ∧ SqL K H b (ss.map V.int) ∧ ns.length ≤ 8 ∧ ns.length ≤ ss.length ∧ (∀ i ∈ ns, 0 ≤ i ∧ i < 2 ^ 64) ∧
  ∀ H' v (xs : List Str), Ext H H' → Dn H' 2 v (gatesD xs (ss.take ns.length)) → xs.length = ns.length → xs.Nodup → (∀ x ∈ xs, NameOk x) → Q v H'
def sp_l_number (K : PySem.W.Frag) : Sp := fun vs H Q E => ∃ c s : Int, vs = [.int c, .int s] ∧ 0 ≤ c ∧ 0 ≤ s ∧ s ≤ 1000000 ∧ ∀ H' (i : Int), Ext H H' → i.natAbs < 2 ^ 200 → Q (.int i) H'
/-- the guards, walked round the ring one by one -/
def walkRow (n : Int) (steps starts : List Int) (g : Int) : List Int := (ring n).map fun h => (((starts.flatMap fun s => ((ring n).filter fun t => decide (steps.getD t.toNat 0 = g)).map fun t => (s + t) % n).count h : Nat) : Int)
def rowsD (rs : List (List Int)) : PyData := .list (rs.map fun r => .list (r.map PyData.int))
def walkRows (n : Int) (steps starts : List Int) (count : Int) : List (List Int) := (ring count).map fun g => walkRow n steps starts g
def sp_l_walked (K : PySem.W.Frag) : Sp := fun vs H Q E => ∃ (a b : Addr) (n c : Int) (steps starts : List Int), vs = [.ref a, .ref b, .int c] ∧ H a = some (.lst (steps.map V.int)) ∧ H b = some (.lst (starts.map V.int)) ∧ (steps.length : Int) = n ∧ 1 ≤ n ∧ n ≤ 24 ∧ 0 ≤ c ∧ c ≤ 4 ∧ (∀ p ∈ steps, -1 ≤ p ∧ p < c) ∧ starts.length ≤ 24 ∧
  ∀ H' v, Ext H H' → Dn H' 2 v (rowsD (walkRows n steps starts c)) → Q v H'
def sp_l_no_row (K : PySem.W.Frag) : Sp := fun vs H Q E => ∃ (a : Addr) (g : Int) (C : Cd), vs = [.ref a, .int g] ∧ CrewAt K H a C ∧ ¬ (0 ≤ g ∧ g < C.b.h.names.length) ∧ ∀ H', Ext H H' → Q (.bl true) H'
def sp_l_works (K : PySem.W.Frag) : Sp := fun vs H Q E => ∃ (a l m : Addr) (s : Int) (C : Cd), vs = [.ref a, .ref l, .ref m, .int s] ∧ CrewAt K H a C ∧ H l = some (.lst (C.b.steps.map V.int)) ∧ H m = some (.lst (C.starts.map V.int)) ∧ ∀ H', Ext H H' → Q (.bl true) H'
def sp_l_shows (K : PySem.W.Frag) : Sp := fun vs H Q E => ∃ (a h l m p : Addr) (C : Cd) (x y : Int), vs = [.ref a, .ref h, .ref l, .ref m, .int C.b.h.names.length, .ref p] ∧ CrewAt K H a C ∧ HouseAt K H h C.b.h ∧ H l = some (.lst (C.b.steps.map V.int)) ∧ H m = some (.lst (C.starts.map V.int)) ∧
  H p = some (.lst [.int x, .int y]) ∧ 0 ≤ x ∧ x < 2 ^ 200 ∧ 0 ≤ y ∧ y < 2 ^ 200 ∧ ∀ H', Ext H H' → Q (.bl true) H'
def sp_l_other_ring (K : PySem.W.Frag) : Sp := fun vs H Q E => ∃ (b l : Addr) (n : Int) (B : Bd) (ms : List Int), vs = [.ref b, .ref l] ∧ BeatAt K H b B ∧ LotAt K H l n ms ∧ n ≠ B.h.n ∧ ∀ H', Ext H H' → Q (.bl true) H'
def sp_l_great (K : PySem.W.Frag) : Sp := fun vs H Q E => ∃ (a : Addr) (v : V) (ns ss : List Int) (xs : List Str), vs = [.ref a, v] ∧ SqL K H a (ns.map V.int) ∧ Dn H 2 v (gatesD xs ss) ∧ 1 ≤ xs.length ∧ xs.length ≤ 4 ∧ ss.length = xs.length ∧ xs.Nodup ∧ (∀ x ∈ xs, NameOk x) ∧ (∀ s ∈ ss, 0 ≤ s ∧ s ≤ 60) ∧ ∀ H', Ext H H' → Q (.bl true) H'
/-- another crew, or a beat -/
def Unl (K : PySem.W.Frag) (H : Hp) (C : Cd) (y : V) : Prop := (∃ b D, y = .ref b ∧ CrewAt K H b D ∧ D ≠ C) ∨ (∃ b B, y = .ref b ∧ BeatAt K H b B)
def sp_l_unlike (K : PySem.W.Frag) : Sp := fun vs H Q E => ∃ (a b l : Addr) (C : Cd) (ys : List V), vs = [.ref a, .ref l] ∧ CrewAt K H a C ∧ H l = some (.lst (.ref b :: ys)) ∧ CrewAt K H b C ∧ ys.length ≤ 10 ∧ (∀ y ∈ ys, Unl K H C y) ∧ ∀ H', Ext H H' → Q (.bl true) H'
def sp_l_grown (K : PySem.W.Frag) : Sp := fun vs H Q E => ∃ (a b : Addr) (k : Int) (C : Cd), vs = [.ref a, .ref b, .int k] ∧ CrewAt K H a C ∧ CrewAt K H b ⟨C.b, moved C.b.h.n k C.starts⟩ ∧ ∀ H', Ext H H' → Q (.bl true) H'
end Bw

namespace Bw
open PySem PySem.Spec PyProof.Rows L2 ItX
/-! ### the readings, one step a rule -/
section
variable {K : PySem.W.Frag} {σ : L2.St} {H : Hp} {Q : VK} {D : Ends} {te ta tb : TE} {tt uu : TT} {t u : TS} {tl tr : TA} {i : Nat} {v x y : V} {C : Addr} {f : Str} {W : WX} {sp : Sp} {a : Addr} {xs ys : List V}
theorem w_seq (h : t { D with nx := u D } σ H) : tSeq t u D σ H := h
theorem w_asg {g : TG} (h : te σ H fun x H1 => g x σ H1 D.nx) : tAsg te g D σ H := h
theorem w_ret (h : te σ H D.rt) : tRet te D σ H := h
theorem w_retN (h : D.rt .non H) : tRetN D σ H := h
theorem w_drop (h : te σ H fun _ H1 => D.nx σ H1) : tDrop te D σ H := h
theorem w_next (h : D.nx σ H) : tNext D σ H := h
theorem w_ifS (h : tt σ H fun b H1 => if b = true then t D σ H1 else u D σ H1) : tIfS tt t u D σ H := h
theorem w_name {P : L2.St → Hp → Prop} (h : P (σ.set i (some v)) H) : gName i v σ H P := h
theorem w_test {P : Bool → Hp → Prop} (h : te σ H fun x H' => ∃ k, x = .bl k ∧ P k H') : tTest te σ H P := h
theorem w_b {P : Bool → Hp → Prop} (h : te σ H fun x H' => ∃ k, x = .bl k ∧ P k H') : tB te σ H P := h
theorem w_bl {P : Bool → Hp → Prop} {k : Bool} (h : P k H) : ∃ k', V.bl k = .bl k' ∧ P k' H := ⟨k, rfl, h⟩
theorem w_not {P : Bool → Hp → Prop} (h : tt σ H fun c H1 => P (!c) H1) : tNot tt σ H P := h
theorem w_and {P : Bool → Hp → Prop} (h : tt σ H fun c H1 => if c = true then uu σ H1 P else P false H1) : tAnd tt uu σ H P := h
theorem w_or {P : Bool → Hp → Prop} (h : tt σ H fun c H1 => if c = true then P true H1 else uu σ H1 P) : tOr tt uu σ H P := h
theorem w_if (h : tt σ H fun c H1 => if c = true then ta σ H1 Q else tb σ H1 Q) : tIf tt ta tb σ H Q := h
theorem w_andV (h : ta σ H fun x H1 => ∃ c, x = .bl c ∧ if c = true then tb σ H1 Q else Q (.bl false) H1) : tAndV ta tb σ H Q := h
theorem w_orV (h : ta σ H fun x H1 => ∃ c, x = .bl c ∧ if c = true then Q (.bl true) H1 else tb σ H1 Q) : tOrV ta tb σ H Q := h
theorem w_notV (h : ta σ H fun x H1 => ∃ c, x = .bl c ∧ Q (.bl (!c)) H1) : tNotV ta σ H Q := h
theorem w_yes {P : Bool → Hp → Prop} (h : P true H) : tYes σ H P := h
theorem w_c (h : Q v H) : tC v σ H Q := h
theorem w_var (e : σ[i]? = some (some v)) (h : Q v H) : tVar i σ H Q := ⟨v, e, h⟩
theorem w_op {r : R2} (h : ta σ H fun x H1 => tb σ H1 fun y H2 => r x y H2 Q) : tOp r ta tb σ H Q := h
theorem w_un {r : V → Hp → VK → Prop} (h : ta σ H fun x H1 => r x H1 Q) : tUn r ta σ H Q := h
theorem w_rI0 {g : Int → Int → V} {i j : Int} (h : Q (g i j) H) : rI0 g (.int i) (.int j) H Q := ⟨i, j, rfl, rfl, h⟩
theorem w_rI {c : Int → Int → Prop} {g : Int → Int → V} {i j : Int} (hc : c i j) (h : Q (g i j) H) : rI c g (.int i) (.int j) H Q := ⟨i, j, rfl, rfl, hc, h⟩
theorem w_rU {g : Int → V} {i : Int} (h : Q (g i) H) : rU g (.int i) H Q := ⟨i, rfl, h⟩
theorem w_rEqI {i j : Int} (h : Q (.bl (decide (i = j))) H) : rEq (.int i) (.int j) H Q := ⟨rfl, by rw [show decide (V.int i = V.int j) = decide (i = j) from decide_eq_decide.mpr ⟨V.int.inj, congrArg _⟩]; exact h⟩
theorem w_rNeI {i j : Int} (h : Q (.bl (!decide (i = j))) H) : rNe (.int i) (.int j) H Q := ⟨rfl, by rw [show decide (V.int i = V.int j) = decide (i = j) from decide_eq_decide.mpr ⟨V.int.inj, congrArg _⟩]; exact h⟩
theorem w_rEqS {i j : Str} (h : Q (.bl (decide (i = j))) H) : rEq (.str i) (.str j) H Q := ⟨rfl, by rw [show decide (V.str i = V.str j) = decide (i = j) from decide_eq_decide.mpr ⟨V.str.inj, congrArg _⟩]; exact h⟩
theorem w_rNeS {i j : Str} (h : Q (.bl (!decide (i = j))) H) : rNe (.str i) (.str j) H Q := ⟨rfl, by rw [show decide (V.str i = V.str j) = decide (i = j) from decide_eq_decide.mpr ⟨V.str.inj, congrArg _⟩]; exact h⟩
theorem w_rEqB {i j : Bool} (h : Q (.bl (decide (i = j))) H) : rEq (.bl i) (.bl j) H Q := ⟨rfl, by rw [show decide (V.bl i = V.bl j) = decide (i = j) from decide_eq_decide.mpr ⟨V.bl.inj, congrArg _⟩]; exact h⟩
theorem w_rNeB {i j : Bool} (h : Q (.bl (!decide (i = j))) H) : rNe (.bl i) (.bl j) H Q := ⟨rfl, by rw [show decide (V.bl i = V.bl j) = decide (i = j) from decide_eq_decide.mpr ⟨V.bl.inj, congrArg _⟩]; exact h⟩
theorem w_isNoN (h : Q (.bl true) H) : rIsNo .non .non H Q := ⟨rfl, h⟩
theorem w_isNoR (h : Q (.bl false) H) : rIsNo (.ref a) .non H Q := ⟨rfl, h⟩
theorem w_isNoI {i : Int} (h : Q (.bl false) H) : rIsNo (.int i) .non H Q := ⟨rfl, h⟩
theorem w_notNoN (h : Q (.bl false) H) : rNotNo .non .non H Q := ⟨rfl, h⟩
theorem w_notNoR (h : Q (.bl true) H) : rNotNo (.ref a) .non H Q := ⟨rfl, h⟩
theorem w_notNoI {i : Int} (h : Q (.bl true) H) : rNotNo (.int i) .non H Q := ⟨rfl, h⟩
theorem w_isNo (h : Q (.bl (decide (x = .non))) H) : rIsNo x .non H Q := ⟨rfl, h⟩
theorem w_notNo (h : Q (.bl (!decide (x = .non))) H) : rNotNo x .non H Q := ⟨rfl, h⟩
theorem w_isL {b : Bool} (h : Q (.bl (decide (x = .bl b))) H) : rIsL x (.bl b) H Q := ⟨b, rfl, h⟩
theorem w_chain {r r' : R2} {tc : TE} (h : ta σ H fun x H1 => tb σ H1 fun y H2 => r x y H2 fun z H3 => ∃ k, z = .bl k ∧ (if k = true then tc σ H3 fun w' H4 => r' y w' H4 Q else Q (.bl false) H3)) : tChain r r' ta tb tc σ H Q := h
theorem w_nil {P : List V → Hp → Prop} (h : P [] H) : tNil σ H P := h
theorem w_cons {P : List V → Hp → Prop} (h : ta σ H fun x H1 => tr σ H1 fun xs H2 => P (x :: xs) H2) : tCons ta tr σ H P := h
def tupR (xs : List V) (H1 : Hp) (Q : VK) : Prop := xs.length ≤ sizeLine ∧ ∀ p, H1 p = none → Q (.ref p) (upd H1 p (.tup xs))
def lstR (xs : List V) (H1 : Hp) (Q : VK) : Prop := xs.length ≤ sizeLine ∧ ∀ p, H1 p = none → Q (.ref p) (upd H1 p (.lst xs))
theorem w_tup (h : tl σ H fun xs H1 => tupR xs H1 Q) : tTup tl σ H Q := h
theorem w_lst (h : tl σ H fun xs H1 => lstR xs H1 Q) : tLst tl σ H Q := h
theorem w_tupR (h : ∀ p, H p = none → Q (.ref p) (upd H p (.tup xs))) (l : Nat.ble xs.length sizeLine = true := by rfl) : tupR xs H Q := ⟨Nat.le_of_ble_eq_true l, h⟩
theorem w_lstR (h : ∀ p, H p = none → Q (.ref p) (upd H p (.lst xs))) (l : Nat.ble xs.length sizeLine = true := by rfl) : lstR xs H Q := ⟨Nat.le_of_ble_eq_true l, h⟩
theorem w_cB {r : List V → Hp → VK → Prop} (h : tl σ H fun vs H1 => r vs H1 Q) : tCB r tl σ H Q := h
theorem w_lenL (s : SqL K H a ys) (h : Q (.int (ys.length : Nat)) H) : rLenQ K [.ref a] H Q := ⟨a, ys, rfl, .inl s, h⟩
theorem w_lenT (s : SqT K H a ys) (h : Q (.int (ys.length : Nat)) H) : rLenQ K [.ref a] H Q := ⟨a, ys, rfl, .inr s, h⟩
theorem w_abs {i : Int} (h : Q (.int (if i < 0 then -i else i)) H) : rAbs [.int i] H Q := ⟨i, rfl, h⟩
theorem w_int1 {i : Int} (h : Q (.int i) H) : rInt1 [.int i] H Q := .inl ⟨i, rfl, h⟩
theorem w_min2 {i j : Int} (h : Q (.int (if j < i then j else i)) H) : rMin2 [.int i, .int j] H Q := ⟨i, j, rfl, h⟩
theorem w_max2 {i j : Int} (h : Q (.int (if j > i then j else i)) H) : rMax2 [.int i, .int j] H Q := ⟨i, j, rfl, h⟩
theorem w_listOfL (s : SqL K H a ys) (h : ∀ l, H l = none → Q (.ref l) (upd H l (.lst ys))) : rListOf K [.ref a] H Q := ⟨a, ys, rfl, .inl s, h⟩
theorem w_listOfT (s : SqT K H a ys) (h : ∀ l, H l = none → Q (.ref l) (upd H l (.lst ys))) : rListOf K [.ref a] H Q := ⟨a, ys, rfl, .inr s, h⟩
theorem w_c1 (h : tl σ H fun vs H1 => sp vs H1 Q (WE W σ)) : tC1 sp W tl σ H Q := h
def fldR (C : Addr) (f : Str) (x : V) (H1 : Hp) (Q : VK) : Prop := ∃ a dx fs v, x = .ref a ∧ H1 a = some (.ins C dx fs) ∧ fs.lookup f = some v ∧ Q v H1
theorem w_fldI (h : ta σ H fun x H1 => fldR C f x H1 Q) : tFldI C f ta σ H Q := h
theorem w_fldR {dx : Addr} {fs : List (Str × V)} (e : H a = some (.ins C dx fs)) (l : fs.lookup f = some v) (h : Q v H) : fldR C f (.ref a) H Q := ⟨a, dx, fs, v, rfl, e, l, h⟩
theorem w_ixL {i : Int} (s : SqL K H a xs) (e : atI xs i = some v) (h : Q v H) : rIxL K (.ref a) (.int i) H Q := ⟨a, xs, i, v, rfl, rfl, s, e, h⟩
theorem w_ixT {i : Int} (s : SqT K H a xs) (e : atI xs i = some v) (h : Q v H) : rIxT K (.ref a) (.int i) H Q := ⟨a, xs, i, v, rfl, rfl, s, e, h⟩
theorem w_iList {R : It → Hp → Prop} (h : ta σ H fun x H1 => ∃ a, x = .ref a ∧ (∃ xs, SqL K H1 a xs) ∧ R (Itl K a) H1) : iList K ta σ H R := h
theorem ite_yes {p : Prop} [Decidable p] {A B : Prop} (hp : p) (a : A) : if decide p = true then A else B := by rw [if_pos (decide_eq_true hp)]; exact a
theorem ite_no {p : Prop} [Decidable p] {A B : Prop} (hp : ¬ p) (a : B) : if decide p = true then A else B := by rw [if_neg (by simpa using hp)]; exact a
theorem ite_nyes {p : Prop} [Decidable p] {A B : Prop} (hp : ¬ p) (a : A) : if (!decide p) = true then A else B := by rw [if_pos (by simpa using hp)]; exact a
theorem ite_nno {p : Prop} [Decidable p] {A B : Prop} (hp : p) (a : B) : if (!decide p) = true then A else B := by rw [if_neg (by simpa using hp)]; exact a
theorem ite_tt {A B : Prop} (a : A) : if (true : Bool) = true then A else B := a
theorem ite_ff {A B : Prop} (a : B) : if (false : Bool) = true then A else B := a
theorem ite_ntt {A B : Prop} (a : B) : if (!(true : Bool)) = true then A else B := a
theorem ite_nff {A B : Prop} (a : A) : if (!(false : Bool)) = true then A else B := a
theorem ite_two {p : Prop} [Decidable p] {A B : Prop} (h1 : p → A) (h2 : ¬ p → B) : if decide p = true then A else B := by
  by_cases hp : p
  · exact ite_yes hp (h1 hp)
  · exact ite_no hp (h2 hp)
theorem ite_ntwo {p : Prop} [Decidable p] {A B : Prop} (h1 : ¬ p → A) (h2 : p → B) : if (!decide p) = true then A else B := by
  by_cases hp : p
  · exact ite_nno hp (h2 hp)
  · exact ite_nyes hp (h1 hp)
end

section
variable {K : PySem.W.Frag} {σ : L2.St} {H : Hp} {Q : VK} {D : Ends} {te ta tb : TE} {tt uu : TT} {t u : TS} {tl tr : TA} {i : Nat} {v x y : V} {C : Addr} {f : Str} {W : WX} {sp : Sp} {a : Addr} {xs ys : List V}
def insR (C : Addr) (x : V) (H1 : Hp) (P : Addr → Addr → List (Str × V) → Prop) : Prop := ∃ a dx fs, x = .ref a ∧ H1 a = some (.ins C dx fs) ∧ P a dx fs
theorem w_insR {dx : Addr} {fs : List (Str × V)} {P : Addr → Addr → List (Str × V) → Prop} (e : H a = some (.ins C dx fs)) (h : P a dx fs) : insR C (.ref a) H P := ⟨a, dx, fs, rfl, e, h⟩
theorem w_m1 {m : Str} (h : ta σ H fun x H1 => insR C x H1 fun a _ fs => fs.lookup m = none ∧ tl σ H1 fun vs H2 => sp (.ref a :: vs) H2 Q (WE W σ)) : tM1 C m sp W ta tl σ H Q := h
theorem w_lkn {fs : List (Str × V)} {m : Str} {P : Prop} (e : fs.lookup m = none) (h : P) : fs.lookup m = none ∧ P := ⟨e, h⟩
theorem w_mk1 (h : tl σ H fun vs H1 => ∀ x dx, H1 x = none → H1 dx = none → dx ≠ x → sp (.ref x :: vs) (upd (upd H1 dx (.own x)) x (.ins C dx [])) (fun v H2 => v = .non ∧ Q (.ref x) H2) (WE W σ)) : tMk1 C sp W tl σ H Q := h
theorem w_unI (h : ta σ H fun x H1 => insR C x H1 fun _ _ _ => sp [x] H1 Q (WE W σ)) : tUnI C sp W ta σ H Q := h
theorem w_binN (h : ta σ H fun x H1 => tb σ H1 fun y H2 => insR C x H2 fun _ _ _ => ∃ i, y = .int i ∧ sp [x, y] H2 Q (WE W σ)) : tBinN C sp W ta tb σ H Q := by
  have e : (fun x H1 => tb σ H1 fun y H2 => insR C x H2 fun _ _ _ => ∃ i, y = .int i ∧ sp [x, y] H2 Q (WE W σ)) = (fun x H1 => tb σ H1 fun y H2 => ∃ a dx fs i, x = .ref a ∧ H2 a = some (.ins C dx fs) ∧ y = .int i ∧ sp [x, y] H2 Q (WE W σ)) := by
    funext x H1
    congr 1
    funext y H2
    refine propext ⟨?_, ?_⟩
    · rintro ⟨a, dx, fs, e1, e2, i, e3, q⟩
      exact ⟨a, dx, fs, i, e1, e2, e3, q⟩
    · rintro ⟨a, dx, fs, i, e1, e2, e3, q⟩
      exact ⟨a, dx, fs, e1, e2, i, e3, q⟩
  rw [e] at h
  exact h
theorem w_inO {neg : Bool} (h : ta σ H fun x H1 => tb σ H1 fun y H2 => insR C y H2 fun _ _ _ => sp [y, x] H2 (fun v H3 => ∃ r, v = .bl r ∧ Q (.bl (r != neg)) H3) (WE W σ)) : tInI C sp W neg ta tb σ H Q := h
theorem w_gTup {n : Nat} {tg : TGs} {P : L2.St → Hp → Prop} (s : SqT K H a xs) (l : xs.length = n) (h : tg xs σ H P) : gTup K n tg (.ref a) σ H P := ⟨a, xs, rfl, s, l, h⟩
theorem w_gCons {tg : TG} {tgs : TGs} {r : List V} {P : L2.St → Hp → Prop} (h : tg v σ H fun σ' H' => tgs r σ' H' P) : gCons tg tgs (v :: r) σ H P := ⟨v, r, rfl, h⟩
theorem w_gNil {P : L2.St → Hp → Prop} (h : P σ H) : gNil [] σ H P := ⟨rfl, h⟩
theorem w_lenStr {z : Str} (l : z.length ≤ sizeLine) (h : Q (.int (z.length : Nat)) H) : rLenStr [.str z] H Q := ⟨z, rfl, l, h⟩
theorem w_pow {i j : Int} {n : Nat} (hc : CPow i j) (e : j.toNat = n) (h : Q (.int (i ^ n)) H) : rPowI (.int i) (.int j) H Q := ⟨i, j, rfl, rfl, hc, by subst e; exact h⟩
theorem w_try {Wo : WX} {tb : WX → TS} {l : List (Value × Option Nat × Suite)} (h : tb (wH K Wo D l) D σ H) : tTry K Wo tb l D σ H := h
theorem w_isX {Cx T : Addr} {e : Addr} {d : Option Addr} {r : Bool} (kc : excCB K Cx = true) (hd : ∀ b, d = some b → ∃ fs, H b = some (.xd fs)) (k : PySem.W.kitOne K (.ref Cx) (.ref T) = some r) (h : Q (.bl r) H) : rIsXx K (.ref Cx) e d [.ref e, .ref T] H Q :=
  ⟨_, rfl, kc, hd, .ref T, .ref T, _, rfl, fun u ru => ru, k, h⟩
theorem w_isXT {Cx : Addr} {T : String} {e : Addr} {d : Option Addr} {r : Bool} (kc : excCB K Cx = true) (hd : ∀ b, d = some b → ∃ fs, H b = some (.xd fs)) (k : PySem.W.kitOne K (.ref Cx) (.type T) = some r) (h : Q (.bl r) H) : rIsXx K (.ref Cx) e d [.ref e, .ty T] H Q :=
  ⟨_, rfl, kc, hd, .ty T, .type T, _, rfl, fun u ru => ru, k, h⟩
theorem w_neI (h : ta σ H fun x H1 => tb σ H1 fun y H2 => ∃ a dx fs t, x = .ref a ∧ H2 a = some (.ins C dx fs) ∧ TyX K H2 y t ∧ PySem.W.notFirst K C t = true ∧ sp [x, y] H2 (fun v H' => ∃ r, v = .bl r ∧ Q (.bl (!r)) H') E0) : tNeI K C sp ta tb σ H Q := h
theorem w_suite {i0 : Nat} {ts : Suite} {cls : Value} {d : Option Addr} {σ' : L2.St} (e : σ.set i0 (some (.ref a)) = σ') (h : ts a cls d (Ends.clr D i0) σ' H) : suiteAt (some i0) ts cls d D σ H a := by subst e; exact h
theorem w_suiteN {ts : Suite} {cls : Value} {d : Option Addr} (h : ts a cls d D σ H) : suiteAt none ts cls d D σ H a := h
theorem w_clr {i0 : Nat} {σ' : L2.St} (e : σ.set i0 none = σ') (h : D.nx σ' H) : (Ends.clr D i0).nx σ H := by subst e; exact h
theorem w_clrR {i0 : Nat} (h : D.rt v H) : (Ends.clr D i0).rt v H := h
theorem w_exI {i : Int} {P : Prop} (h : P) : ∃ i', V.int i = .int i' ∧ P := ⟨i, rfl, h⟩
theorem w_binI (h : ta σ H fun x H1 => tb σ H1 fun y H2 => insR C x H2 fun _ _ _ => insR C y H2 fun _ _ _ => sp [x, y] H2 Q (WE W σ)) : tBinI C sp W ta tb σ H Q := by
  obtain h := h
  show ta σ H _
  have e : (fun x H1 => tb σ H1 fun y H2 => insR C x H2 fun _ _ _ => insR C y H2 fun _ _ _ => sp [x, y] H2 Q (WE W σ)) = (fun x H1 => tb σ H1 fun y H2 => ∃ a dx fs b dy gs, x = .ref a ∧ H2 a = some (.ins C dx fs) ∧ y = .ref b ∧ H2 b = some (.ins C dy gs) ∧ sp [x, y] H2 Q (WE W σ)) := by
    funext x H1
    congr 1
    funext y H2
    refine propext ⟨?_, ?_⟩
    · rintro ⟨a, dx, fs, e1, e2, b, dy, gs, e3, e4, q⟩
      exact ⟨a, dx, fs, b, dy, gs, e1, e2, e3, e4, q⟩
    · rintro ⟨a, dx, fs, b, dy, gs, e1, e2, e3, e4, q⟩
      exact ⟨a, dx, fs, e1, e2, b, dy, gs, e3, e4, q⟩
  rw [e] at h
  exact h
theorem w_eqI (h : ta σ H fun x H1 => tb σ H1 fun y H2 => ∃ a dx fs t, x = .ref a ∧ H2 a = some (.ins C dx fs) ∧ TyX K H2 y t ∧ PySem.W.notFirst K C t = true ∧ sp [x, y] H2 Q (WE W σ)) : tEqI K C sp W ta tb σ H Q := h
theorem w_prop {E : XK} {ds : List V} (h : ta σ H fun x H1 => insR C x H1 fun a _ _ => sp (.ref a :: ds) H1 Q E) : tProp C sp ds E ta σ H Q := h
theorem w_ixI (h : ta σ H fun x H1 => tb σ H1 fun y H2 => insR C x H2 fun _ _ _ => sp [x, y] H2 Q E0) : tIxI C sp ta tb σ H Q := h
theorem w_bm {T : String} {r : V → List V → Hp → VK → Prop} (h : ta σ H fun x H1 => tyV K T x H1 ∧ tl σ H1 fun xs H2 => r x xs H2 Q) : tBM K T r ta tl σ H Q := h
theorem w_tyL {P : Prop} (s : SqL K H a xs) (h : P) : tyV K "list" (.ref a) H ∧ P := ⟨.inl ⟨rfl, _, s⟩, h⟩
theorem w_append (e : H a = some (.lst xs)) (l : xs.length < sizeLine) (h : Q .non (upd H a (.lst (xs ++ [v])))) : rAppend (.ref a) [v] H Q := ⟨a, xs, v, rfl, rfl, e, l, h⟩
theorem w_conI (h : ta σ H fun x H1 => insR C x H1 fun _ _ fs => fs.lookup f = none ∧ Q v H1) : tConI C f v ta σ H Q := h
theorem w_sl {r : V → Option Int → Option Int → Hp → VK → Prop} {lo hi : TO} (h : te σ H fun x H1 => lo σ H1 fun l H2 => hi σ H2 fun u H3 => r x l u H3 Q) : tSl r te lo hi σ H Q := h
theorem w_noPart {P : Option Int → Hp → Prop} (h : P none H) : tNoPart σ H P := h
theorem w_part {P : Option Int → Hp → Prop} (h : te σ H fun x H1 => ∃ i, x = .int i ∧ P (some i) H1) : tPart te σ H P := h
theorem w_exP {P : Int → Prop} {i : Int} (h : P i) : ∃ i', V.int i = .int i' ∧ P i' := ⟨i, rfl, h⟩
theorem w_slL {lo hi : Option Int} (s : SqL K H a xs) (h : ∀ p, H p = none → Q (.ref p) (upd H p (.lst (cutV xs lo hi)))) : rSlL K (.ref a) lo hi H Q := ⟨a, xs, rfl, s, h⟩
theorem w_setL {k : Int} {j : Nat} {P : Hp → Prop} (e : H a = some (.lst xs)) (n : ixN xs.length k = some j) (h : P (upd H a (.lst (xs.set j v)))) : rSetL (.ref a) (.int k) v H P := ⟨a, xs, k, j, rfl, rfl, e, n, h⟩
theorem w_gSub {tset : TSet} {P : L2.St → Hp → Prop} (h : ta σ H fun o H1 => tb σ H1 fun i H2 => tset o i v H2 fun H3 => P σ H3) : gSub ta tb tset v σ H P := h
theorem w_cat {b : Addr} (e : H a = some (.lst xs)) (e' : H b = some (.lst ys)) (l : xs.length + ys.length ≤ sizeLine) (h : ∀ p, H p = none → Q (.ref p) (upd H p (.lst (xs ++ ys)))) : rCat (.ref a) (.ref b) H Q := ⟨a, b, xs, ys, rfl, rfl, e, e', l, h⟩
theorem w_sFldI {tv : TE} (h : tv σ H fun y H1 => ta σ H1 fun x H2 => insR C x H2 fun a dx fs => fs.length < 1000 ∧ D.nx σ (upd H2 a (.ins C dx (putF f y fs)))) : sFldI C f ta tv D σ H := h
theorem w_rse {X : L2.St → Hp → XK → Prop} (h : X σ H fun cls d H' => W cls d σ H') : tRse W X D σ H := h
theorem w_mkP {P : XK} (h : P (.ref C) none H) : tMkP C σ H P := h
theorem w_mkE {P : XK} {ok : List V → Prop} {fs : List V → List (Str × V)} (h : tl σ H fun vs H1 => ok vs ∧ ∀ d, H1 d = none → P (.ref C) (some d) (upd H1 d (.xd (fs vs)))) : tMkE C ok fs tl σ H P := h
theorem w_modN {i j : Int} (hj : 0 < j) (h : Q (.int (i % j)) H) : rModN (.int i) (.int j) H Q := ⟨i, j, rfl, rfl, by omega, by show Q (.int (i.fmod j)) H; rw [fmod_pos (by omega)]; exact h⟩
theorem w_mulW {i j : Int} (hi : i.natAbs < 2 ^ 200) (hj : j.natAbs < 2 ^ 200) (h : Q (.int (i * j)) H) : rMulW (.int i) (.int j) H Q := ⟨i, j, rfl, rfl, cmulW hi hj, h⟩
theorem w_divW {i j : Int} (hj : 1 ≤ j) (hj2 : j < 2 ^ 64) (h : Q (.int (i / j)) H) : rDivW (.int i) (.int j) H Q := ⟨i, j, rfl, rfl, cdivW ⟨hj, hj2⟩, h⟩
def lcR (J : It) (H1 : Hp) (g : TG) (tt : TT) (te : TE) (vs : List Nat) (σ : L2.St) (Q : VK) : Prop := ∀ D, H1 D = none → ∃ W : Nat → Nat → Hp → Prop, (∃ m, W 0 m (upd H1 D (.lst []))) ∧ ∀ i m H, W i m H →
  (J.stop i H ∧ Q (.ref D) H) ∨ (J.go i H ∧ ∃ Nx : Hp → Prop, (∀ H', Nx H' → ∃ m', m' < m ∧ W (i + 1) m' H') ∧ ∀ x H', J.yld i H x H' → g x (wipe σ vs) H' fun σ2 H2 => wipe σ2 vs = wipe σ vs ∧ tt σ2 H2 fun b H3 =>
    if b = true then te σ2 H3 fun y H4 => ∃ acc, H4 D = some (.lst acc) ∧ acc.length < sizeLine ∧ Nx (upd H4 D (.lst (acc ++ [y]))) else Nx H3)
theorem w_lc {wi : TI} {g : TG} {vs : List Nat} (h : wi σ H fun J H1 => lcR J H1 g tt te vs σ Q) : tLc wi g tt te vs σ H Q := h
def forR (J : It) (H1 : Hp) (g : TG) (tb : TS) (D : Ends) (σ : L2.St) : Prop := ∃ W : Nat → Nat → L2.St → Hp → Prop, (∃ m, W 0 m σ H1) ∧ ∀ i m σ H, W i m σ H →
  (J.stop i H ∧ D.nx σ H) ∨ (J.go i H ∧ ∃ N : L2.St → Hp → Prop, (∀ σ' H', N σ' H' → ∃ m', m' < m ∧ W (i + 1) m' σ' H') ∧ ∀ x H', J.yld i H x H' → g x σ H' fun σ2 H2 => tb { D with nx := N, ct := N, bk := D.nx } σ2 H2)
theorem w_for {wi : TI} {g : TG} (h : wi σ H fun J H1 => forR J H1 g t D σ) : tFor wi g t D σ H := h
def itR (K : PySem.W.Frag) (x : V) (H1 : Hp) (R : It → Hp → Prop) : Prop := ∃ a, x = .ref a ∧ (∃ xs, SqL K H1 a xs) ∧ R (Itl K a) H1
def itTR (K : PySem.W.Frag) (x : V) (H1 : Hp) (R : It → Hp → Prop) : Prop := ∃ a, x = .ref a ∧ (∃ xs, SqT K H1 a xs) ∧ R (Itt K a) H1
theorem w_iL {R : It → Hp → Prop} (h : ta σ H fun x H1 => itR K x H1 R) : iList K ta σ H R := h
theorem w_iT {R : It → Hp → Prop} (h : ta σ H fun x H1 => itTR K x H1 R) : iTup K ta σ H R := h
theorem w_itR {R : It → Hp → Prop} (s : SqL K H a xs) (h : R (Itl K a) H) : itR K (.ref a) H R := ⟨a, rfl, ⟨xs, s⟩, h⟩
theorem w_itTR {R : It → Hp → Prop} (s : SqT K H a xs) (h : R (Itt K a) H) : itTR K (.ref a) H R := ⟨a, rfl, ⟨xs, s⟩, h⟩
def rngR (vs : List V) (H1 : Hp) (R : It → Hp → Prop) : Prop := ∃ j : Int, vs = [.int j] ∧ -(2 ^ 62) ≤ j ∧ j < 2 ^ 62 ∧ R (Itr 0 j.toNat) H1
def rng2R (vs : List V) (H1 : Hp) (R : It → Hp → Prop) : Prop := ∃ i j : Int, vs = [.int i, .int j] ∧ (-(2 ^ 62) ≤ i ∧ i < 2 ^ 62 ∧ -(2 ^ 62) ≤ j ∧ j < 2 ^ 62) ∧ R (Itr i (j - i).toNat) H1
theorem w_rng1 {R : It → Hp → Prop} (h : tl σ H fun vs H1 => rngR vs H1 R) : iRng1 tl σ H R := h
theorem w_rng2 {R : It → Hp → Prop} (h : tl σ H fun vs H1 => rng2R vs H1 R) : iRng2 tl σ H R := h
theorem w_rngR {R : It → Hp → Prop} {j : Int} (h1 : -(2 ^ 62) ≤ j) (h2 : j < 2 ^ 62) (h : R (Itr 0 j.toNat) H) : rngR [.int j] H R := ⟨j, rfl, h1, h2, h⟩
theorem w_rng2R {R : It → Hp → Prop} {i j : Int} (h1 : -(2 ^ 62) ≤ i ∧ i < 2 ^ 62 ∧ -(2 ^ 62) ≤ j ∧ j < 2 ^ 62) (h : R (Itr i (j - i).toNat) H) : rng2R [.int i, .int j] H R := ⟨i, j, rfl, h1, h⟩
def ownR (K : PySem.W.Frag) (fs : List (Str × V)) (f : Str) (H1 : Hp) (R : It → Hp → Prop) : Prop := ∃ l ys, fs.lookup f = some (.ref l) ∧ SqL K H1 l ys ∧ R (Itl K l) H1
theorem w_iOwn {R : It → Hp → Prop} (h : ta σ H fun x H1 => insR C x H1 fun _ _ fs => ownR K fs f H1 R) : iOwn K C f ta σ H R := by
  have e : (fun x H1 => insR C x H1 fun _ _ fs => ownR K fs f H1 R) = (fun x H1 => ∃ (a dx l : Addr) (fs : List (Str × V)) (xs : List V), x = .ref a ∧ H1 a = some (.ins C dx fs) ∧ fs.lookup f = some (.ref l) ∧ SqL K H1 l xs ∧ R (Itl K l) H1) := by
    funext x H1
    refine propext ⟨?_, ?_⟩
    · rintro ⟨a, dx, fs, e1, e2, l, ys, q⟩
      exact ⟨a, dx, l, fs, ys, e1, e2, q⟩
    · rintro ⟨a, dx, l, fs, ys, e1, e2, q⟩
      exact ⟨a, dx, fs, e1, e2, l, ys, q⟩
  rw [e] at h
  exact h
theorem w_iOwnR {R : It → Hp → Prop} {l : Addr} {fs : List (Str × V)} (e : fs.lookup f = some (.ref l)) (s : SqL K H l ys) (h : R (Itl K l) H) : ownR K fs f H R := ⟨l, ys, e, s, h⟩
theorem w_nameE {P : L2.St → Hp → Prop} {σ' : L2.St} (e : σ.set i (some v) = σ') (h : P σ' H) : gName i v σ H P := by subst e; exact h
theorem w_flen {n : Nat} {P : Prop} {fs : List (Str × V)} (e : Nat.ble (fs.length + 1) n = true) (h : P) : fs.length < n ∧ P := ⟨Nat.le_of_ble_eq_true e, h⟩
theorem up_ne {p : Addr} {o o' : HO} (n : a ≠ p) (h : H a = some o) : upd H p o' a = some o := by rw [upd_ne n]; exact h
theorem w_aug {ti : TIp} {x : V} (e : σ[i]? = some (some x)) (h : te σ H fun y H1 => ti x y H1 fun z H2 => D.nx (σ.set i (some z)) H2) : tAug i te ti D σ H := ⟨x, e, h⟩
theorem Dn.exs {H' : Hp} {d : Nat} {p : PyData} (x : Ext H H') (h : Dn H d v p) : Dn H' d v p := h.ext x
theorem Ext.of {H1 H2 : Hp} (y : Ext H1 H2) (x : Ext H H1) : Ext H H2 := x.trans y
theorem LotAt.exs {H' : Hp} {n : Int} {ms : List Int} (x : Ext H H') (h : LotAt K H a n ms) : LotAt K H' a n ms := h.ext x
theorem Ext.ap {H H' : Hp} {o : HO} (x : Ext H H') (h : H a = some o) : H' a = some o := x _ _ h
end
end Bw

namespace Bw
open PySem PySem.Spec PyProof.Rows L2 ItX
/-! ### plain data: lists of ints, of texts -/
theorem canLay_ints : ∀ ns : List Int, PyData.canLayAll0 (ns.map PyData.int) = true
  | [] => rfl
  | n :: r => by rw [List.map_cons]; show (true && _) = true; rw [canLay_ints r]; rfl
theorem depth_ints : ∀ ns : List Int, PyData.depthAll (ns.map PyData.int) = 0
  | [] => rfl
  | n :: r => by rw [List.map_cons]; show max 0 _ = 0; rw [depth_ints r]; rfl
theorem shaped_ints (ns : List Int) : SeqAt.shaped (.list (ns.map PyData.int)) = true := by
  show (PyData.canLayAll0 _ && decide (PyData.depthAll _ + 1 ≤ 64)) = true
  rw [canLay_ints, depth_ints]; rfl
theorem shaped_intsT (ns : List Int) : SeqAt.shaped (.tuple (ns.map PyData.int)) = true := by
  show (PyData.canLayAll0 _ && decide (PyData.depthAll _ + 1 ≤ 64)) = true
  rw [canLay_ints, depth_ints]; rfl
theorem canLay_strs : ∀ ns : List Str, (∀ x ∈ ns, PyData.strOk x = true) → PyData.canLayAll0 (ns.map PyData.str) = true
  | [], _ => rfl
  | n :: r, h => by rw [List.map_cons]; show (PyData.strOk n && _) = true; rw [canLay_strs r fun x hx => h x (List.mem_cons_of_mem _ hx), h n List.mem_cons_self]; rfl
theorem depth_strs : ∀ ns : List Str, PyData.depthAll (ns.map PyData.str) = 0
  | [] => rfl
  | n :: r => by rw [List.map_cons]; show max 0 _ = 0; rw [depth_strs r]; rfl
theorem shaped_strsT {ns : List Str} (h : ∀ x ∈ ns, PyData.strOk x = true) : SeqAt.shaped (.tuple (ns.map PyData.str)) = true := by
  show (PyData.canLayAll0 _ && decide (PyData.depthAll _ + 1 ≤ 64)) = true
  rw [canLay_strs ns h, depth_strs]; rfl
theorem eqvA_ints : ∀ a b : List Int, PyData.eqvAll (a.map PyData.int) (b.map PyData.int) = decide (a = b)
  | [], [] => by simp [PyData.eqvAll]
  | [], _ :: _ => by simp [PyData.eqvAll]
  | _ :: _, [] => by simp [PyData.eqvAll]
  | x :: a, y :: b => by
    rw [List.map_cons, List.map_cons]
    show ((x == y) && PyData.eqvAll _ _) = _
    rw [eqvA_ints a b, Bool.beq_eq_decide_eq]
    by_cases h : x = y <;> by_cases h2 : a = b <;> simp [h, h2]
theorem eqvA_strs : ∀ a b : List Str, PyData.eqvAll (a.map PyData.str) (b.map PyData.str) = decide (a = b)
  | [], [] => by simp [PyData.eqvAll]
  | [], _ :: _ => by simp [PyData.eqvAll]
  | _ :: _, [] => by simp [PyData.eqvAll]
  | x :: a, y :: b => by
    rw [List.map_cons, List.map_cons]
    show ((x == y) && PyData.eqvAll _ _) = _
    rw [eqvA_strs a b]
    by_cases h : x = y <;> by_cases h2 : a = b <;> simp [h, h2]
theorem dpI {K : PySem.W.Frag} {H : Hp} : ∀ ns : List Int, DpAll K H (ns.map V.int) (ns.map PyData.int)
  | [] => .nil
  | n :: r => .cons (.int n) (dpI r)
theorem dpS {K : PySem.W.Frag} {H : Hp} : ∀ ns : List Str, DpAll K H (ns.map V.str) (ns.map PyData.str)
  | [] => .nil
  | n :: r => .cons (.str n) (dpS r)
theorem dn_len {H : Hp} {d : Nat} : ∀ {vs : List V} {ps : List PyData}, DnAll H d vs ps → vs.length = ps.length
  | _, _, .nil _ => rfl
  | _, _, .cons h r => by rw [List.length_cons, List.length_cons, dn_len r]
theorem dn_get {H : Hp} {d : Nat} : ∀ {vs : List V} {ps : List PyData} {k : Nat} {v : V}, DnAll H d vs ps → vs[k]? = some v → ∃ p, ps[k]? = some p ∧ Dn H d v p
  | _, _, 0, _, .cons h r, e => by cases e; exact ⟨_, rfl, h⟩
  | _, _, k + 1, _, .cons h r, e => dn_get (k := k) r e
section
variable {K : PySem.W.Frag} {H : Hp} {Q : VK} {a b : Addr} {xs ys : List Int} {ss zs : List Str}
theorem w_eqLI (h1 : SqL K H a (xs.map V.int)) (h2 : SqL K H b (ys.map V.int)) (q : Q (.bl (decide (xs = ys))) H) : rEqD K (.ref a) (.ref b) H Q :=
  ⟨_, _, .lst h1 (dpI xs), .lst h2 (dpI ys), shaped_ints _, shaped_ints _, by rw [show PyData.eqv (.list (xs.map .int)) (.list (ys.map .int)) = PyData.eqvAll (xs.map .int) (ys.map .int) from rfl, eqvA_ints]; exact q⟩
theorem w_eqTI (h1 : SqT K H a (xs.map V.int)) (h2 : SqT K H b (ys.map V.int)) (q : Q (.bl (decide (xs = ys))) H) : rEqD K (.ref a) (.ref b) H Q :=
  ⟨_, _, .tup h1 (dpI xs), .tup h2 (dpI ys), shaped_intsT _, shaped_intsT _, by rw [show PyData.eqv (.tuple (xs.map .int)) (.tuple (ys.map .int)) = PyData.eqvAll (xs.map .int) (ys.map .int) from rfl, eqvA_ints]; exact q⟩
theorem w_eqTS (h1 : SqT K H a (ss.map V.str)) (h2 : SqT K H b (zs.map V.str)) (o1 : ∀ x ∈ ss, PyData.strOk x = true) (o2 : ∀ x ∈ zs, PyData.strOk x = true) (q : Q (.bl (decide (ss = zs))) H) : rEqD K (.ref a) (.ref b) H Q :=
  ⟨_, _, .tup h1 (dpS ss), .tup h2 (dpS zs), shaped_strsT o1, shaped_strsT o2, by rw [show PyData.eqv (.tuple (ss.map .str)) (.tuple (zs.map .str)) = PyData.eqvAll (ss.map .str) (zs.map .str) from rfl, eqvA_strs]; exact q⟩
theorem w_isiC {x : V} {C : Addr} {t : Value} {r : Bool} (ty : TyX K H x t) (k : PySem.W.kitOne K t (.ref C) = some r) (q : Q (.bl r) H) : rIsi K [x, .ref C] H Q := ⟨_, _, _, _, r, rfl, .own C, ty, k, q⟩
theorem kit_self {K : PySem.W.Frag} {C : Addr} : PySem.W.kitOne K (.ref C) (.ref C) = some true := by unfold PySem.W.kitOne; rw [if_pos (by simp)]
theorem w_exB {c : Bool} {P : Bool → Prop} (h : P c) : ∃ c', V.bl c = .bl c' ∧ P c' := ⟨c, rfl, h⟩
theorem w_inI {i : Int} {ns : List Int} (s : SqL K H a (ns.map V.int) ∨ SqT K H a (ns.map V.int)) (q : Q (.bl (decide (i ∈ ns))) H) : rIn K false (.int i) (.ref a) H Q :=
  ⟨a, _, rfl, s, rfl, flat_ints ns, by rw [if_neg Bool.false_ne_true, inV_ints]; exact q⟩
theorem w_notInI {i : Int} {ns : List Int} (s : SqL K H a (ns.map V.int) ∨ SqT K H a (ns.map V.int)) (q : Q (.bl (!decide (i ∈ ns))) H) : rIn K true (.int i) (.ref a) H Q :=
  ⟨a, _, rfl, s, rfl, flat_ints ns, by rw [if_pos rfl, inV_ints]; exact q⟩
theorem flat_strs : ∀ ns : List Str, (ns.map V.str).all flatV = true
  | [] => rfl
  | _ :: r => by rw [List.map_cons, List.all_cons, flat_strs r]; rfl
theorem inV_strs {i : Str} : ∀ {ns : List Str}, inV (.str i) (ns.map V.str) = decide (i ∈ ns)
  | [] => by simp [inV]
  | n :: r => by
    have ih := inV_strs (i := i) (ns := r)
    unfold inV at ih ⊢
    rw [List.map_cons, List.any_cons, ih]
    have e : eqV (.str n) (.str i) = decide (i = n) := by
      show decide (n = i) = _
      exact decide_eq_decide.mpr ⟨Eq.symm, Eq.symm⟩
    rw [e]
    simp
theorem w_inS {i : Str} {ns : List Str} (s : SqL K H a (ns.map V.str) ∨ SqT K H a (ns.map V.str)) (q : Q (.bl (decide (i ∈ ns))) H) : rIn K false (.str i) (.ref a) H Q :=
  ⟨a, _, rfl, s, rfl, flat_strs ns, by rw [if_neg Bool.false_ne_true, inV_strs]; exact q⟩
theorem w_lenI {C dx : Addr} {fs : List (Str × V)} {sp : Sp} (e : H a = some (.ins C dx fs)) (q : sp [.ref a] H (fun v H' => ∃ n : Nat, v = .int n ∧ n < 2 ^ 62 ∧ Q v H') E0) : rLenI C sp [.ref a] H Q := ⟨a, dx, fs, rfl, e, q⟩
theorem w_tupOf {ys : List V} (s : SqL K H a ys) (h : ∀ l, H l = none → Q (.ref l) (upd H l (.tup ys))) : rTupOf K [.ref a] H Q := ⟨a, ys, rfl, .inl ⟨s, h⟩⟩
theorem w_tupOfT {ys : List V} (s : SqT K H a ys) (h : Q (.ref a) H) : rTupOf K [.ref a] H Q := ⟨a, ys, rfl, .inr ⟨s, h⟩⟩
theorem w_rAll {bs : List Bool} (s : SqL K H a (bs.map V.bl)) (h : Q (.bl (bs.all id)) H) : rAll K [.ref a] H Q := ⟨a, bs, rfl, s, h⟩
theorem w_rAny {bs : List Bool} (s : SqL K H a (bs.map V.bl)) (h : Q (.bl (bs.any id)) H) : rAny K [.ref a] H Q := ⟨a, bs, rfl, s, h⟩
theorem w_rInS {c : Nat} {z : Str} (h : Q (.bl (decide (c ∈ z.cps.toList))) H) : rInS (.str ⟨#[c]⟩) (.str z) H Q := ⟨c, z, rfl, rfl, h⟩
def signsV (x : Str) : List V := x.cps.toList.map fun c => V.str ⟨#[c]⟩
theorem src_str {x : Str} : SrcAt (Its x) (signsV x) H := by
  intro i
  unfold signsV
  refine ⟨fun v e => ?_, fun l => ?_⟩
  · rw [List.getElem?_map] at e
    cases ec : x.cps.toList[i]? with
    | none => rw [ec] at e; cases e
    | some c =>
      rw [ec] at e
      cases e
      have hi := (List.getElem?_eq_some_iff.mp ec).1
      refine ⟨by rw [Array.length_toList] at hi; exact hi, fun y H' q => ?_⟩
      obtain ⟨rfl, c', ec', rfl⟩ := q
      rw [← Array.getElem?_toList, ec] at ec'
      cases ec'
      exact ⟨rfl, rfl⟩
  · rw [List.length_map, Array.length_toList] at l
    exact l
def strR (x : V) (H1 : Hp) (R : It → Hp → Prop) : Prop := ∃ z, x = .str z ∧ R (Its z) H1
theorem w_iStr {σ : L2.St} {ta : TE} {R : It → Hp → Prop} (h : ta σ H fun x H1 => strR x H1 R) : iStr ta σ H R := h
theorem w_strR {z : Str} {R : It → Hp → Prop} (h : R (Its z) H) : strR (.str z) H R := ⟨z, rfl, h⟩
theorem w_addS {i j : Str} (l : i.length + j.length ≤ sizeLine) (h : Q (.str (i ++ j)) H) : rAddS (.str i) (.str j) H Q := ⟨i, j, rfl, rfl, l, h⟩
theorem w_ixS {z : Str} {i : Int} {c : Nat} (l : z.length ≤ sizeLine) (e : atI z.cps.toList i = some c) (h : Q (.str ⟨#[c]⟩) H) : rIxS (.str z) (.int i) H Q := ⟨z, i, c, rfl, rfl, l, e, h⟩
theorem str_push (z : Str) (c : Nat) : (z ++ (⟨#[c]⟩ : Str)).cps.toList = z.cps.toList ++ [c] := by
  show (z.cps ++ #[c]).toList = _
  simp
theorem str_len (z : Str) : z.length = z.cps.toList.length := rfl
theorem str_push_len (z : Str) (c : Nat) : (z ++ (⟨#[c]⟩ : Str)).length = z.length + 1 := by rw [str_len, str_push, List.length_append, str_len]; rfl
theorem lettersL : ("abcdefghijklmnopqrstuvwxyz" : Str).cps.toList = (List.range 26).map (· + 97) := by decide +kernel
theorem letters_ok {c : Nat} (h : 97 ≤ c ∧ c < 123) : c ∈ ("abcdefghijklmnopqrstuvwxyz" : Str).cps.toList := by
  rw [lettersL]
  exact List.mem_map.mpr ⟨c - 97, List.mem_range.mpr (by omega), by omega⟩
theorem letters_at {i : Int} (h : 0 ≤ i ∧ i < 26) : atI ("abcdefghijklmnopqrstuvwxyz" : Str).cps.toList i = some (i.toNat + 97) := by
  rw [lettersL]
  refine atI_nat (k := i.toNat) (by omega) ?_
  rw [List.getElem?_map, List.getElem?_range (by omega)]
  rfl
theorem letters_occ {c : Nat} (h : c < 26) : ∃ r, Builtin.Str.occurrences ("abcdefghijklmnopqrstuvwxyz" : Str) ⟨#[c + 97]⟩ 0 ("abcdefghijklmnopqrstuvwxyz" : Str).length 1 = c :: r := by
  have k : ∀ c, c < 26 → (Builtin.Str.occurrences ("abcdefghijklmnopqrstuvwxyz" : Str) ⟨#[c + 97]⟩ 0 ("abcdefghijklmnopqrstuvwxyz" : Str).length 1).head? = some c := by decide +kernel
  have := k c h
  cases e : Builtin.Str.occurrences ("abcdefghijklmnopqrstuvwxyz" : Str) ⟨#[c + 97]⟩ 0 ("abcdefghijklmnopqrstuvwxyz" : Str).length 1 with
  | nil => rw [e] at this; cases this
  | cons a r => rw [e] at this; cases this; exact ⟨r, rfl⟩
theorem w_natE {n : Nat} {H : Hp} (l : n < 2 ^ 62) (q : Q (.int n) H) : ∃ m : Nat, V.int (n : Int) = .int (m : Int) ∧ m < 2 ^ 62 ∧ Q (.int n) H := ⟨n, rfl, l, q⟩
theorem HouseAt.exs {H' : Hp} {A : Hd} (x : Ext H H') (h : HouseAt K H a A) : HouseAt K H' a A := h.ext x
theorem BeatAt.exs {H' : Hp} {A : Bd} (x : Ext H H') (h : BeatAt K H a A) : BeatAt K H' a A := h.ext x
theorem CrewAt.exs {H' : Hp} {A : Cd} (x : Ext H H') (h : CrewAt K H a A) : CrewAt K H' a A := h.ext x
theorem atT_int {ns : List Int} {i : Int} (h0 : 0 ≤ i) (h : i < ns.length) : atI (ns.map V.int) i = some (.int (ns.getD i.toNat 0)) := by
  rw [List.getD_eq_getElem?_getD]; exact atI_getD h0 h
end

theorem dn_of {H : Hp} {d : Nat} : ∀ {vs : List V} {ps : List PyData}, vs.length = ps.length → (∀ (i : Nat) (v : V) (p : PyData), vs[i]? = some v → ps[i]? = some p → Dn H d v p) → DnAll H d vs ps
  | [], [], _, _ => .nil d
  | [], _ :: _, l, _ => by simp at l
  | _ :: _, [], l, _ => by simp at l
  | v :: vs, p :: ps, l, h => .cons (h 0 v p rfl rfl) (dn_of (by simpa using l) fun i v p h1 h2 => h (i + 1) v p h1 h2)
/-! ### a list of data that a comprehension makes -/
def wo (H : Hp) (D : Addr) : Hp := fun a => if a = D then none else H a
section
variable {H H' : Hp} {D a : Addr} {o : HO}
theorem wo_sub : Ext (wo H D) H := fun a o e => by
  unfold wo at e
  split at e
  · cases e
  · exact e
theorem wo_at (n : a ≠ D) (e : H a = some o) : wo H D a = some o := by unfold wo; rw [if_neg n]; exact e
theorem wo_ext (x : Ext H H') : Ext (wo H D) (wo H' D) := fun a o e => by
  unfold wo at e ⊢
  split at e
  · cases e
  · rename_i n; rw [if_neg n]; exact x _ _ e
theorem wo_upd : wo (upd H D o) D = wo H D := by
  funext b
  unfold wo
  by_cases h : b = D
  · rw [if_pos h, if_pos h]
  · rw [if_neg h, if_neg h, upd_ne h]
theorem wo_new (x : Ext H H') (n : H D = none) : Ext H (wo H' D) := fun a o e => wo_at (ne_of_none e n) (x _ _ e)
theorem dn_append {d : Nat} : ∀ {vs : List V} {ps : List PyData} {v : V} {p : PyData}, DnAll H d vs ps → Dn H d v p → DnAll H d (vs ++ [v]) (ps ++ [p])
  | _, _, _, _, .nil _, h => .cons h (.nil _)
  | _, _, _, _, .cons h r, h' => .cons h (dn_append r h')
theorem lcD {J : It} {xs : List V} {i0 d : Nat} {te : TE} {σ : L2.St} {H1 : Hp} {D : Addr} {Qd : Hp → Prop} (f : V → PyData) (hD : H1 D = none) (S : ∀ H, Ext H1 H → SrcAt J xs H) (hn : xs.length ≤ 200000)
    (step : ∀ x ∈ xs, ∀ H, Ext H1 H → (∃ acc, H D = some (.lst acc)) → ∀ R : V → Hp → Prop, (∀ y H2, Ext H H2 → Dn (wo H2 D) d y (f x) → R y H2) → te ((wipe σ [i0]).set i0 (some x)) H R) (hd : ∀ H', Ext H1 H' → Dn H' (d + 1) (.ref D) (.list (xs.map f)) → Qd H') :
    ∃ W : Nat → Nat → Hp → Prop, (∃ m, W 0 m (upd H1 D (.lst []))) ∧ ∀ i m H, W i m H →
      (J.stop i H ∧ Qd H) ∨ (J.go i H ∧ ∃ Nx : Hp → Prop, (∀ H', Nx H' → ∃ m', m' < m ∧ W (i + 1) m' H') ∧ ∀ x H', J.yld i H x H' → gName i0 x (wipe σ [i0]) H' fun σ2 H2 => wipe σ2 [i0] = wipe σ [i0] ∧ tYes σ2 H2 fun b H3 =>
        if b = true then te σ2 H3 fun y H4 => ∃ acc, H4 D = some (.lst acc) ∧ acc.length < sizeLine ∧ Nx (upd H4 D (.lst (acc ++ [y]))) else Nx H3) := by
  refine lcS (fun i H => Ext H1 H ∧ ∃ acc : List V, H D = some (.lst acc) ∧ acc.length = i ∧ DnAll (wo H D) d acc ((xs.take i).map f)) ⟨ext_new hD, [], upd_same, rfl, .nil _⟩ (fun i H _ e => S _ e.1) (fun i x H e p => ?_) (fun H e => ?_)
  · obtain ⟨x1, acc, hacc, al, hd⟩ := p
    refine ⟨by simp [wipe], ?_⟩
    dsimp only [tYes]
    rw [if_pos rfl]
    have hlt := (List.getElem?_eq_some_iff.mp e).1
    refine step x (List.mem_of_getElem? e) H x1 ⟨acc, hacc⟩ _ fun y H2 x2 hy => ⟨acc, x2 _ _ hacc, by rw [al, sizeLine_eq]; omega, ext_set (x1.trans x2) hD, acc ++ [y], upd_same, by rw [List.length_append, al]; rfl, ?_⟩
    rw [wo_upd, List.take_add_one, e, List.map_append]
    exact dn_append (hd.ext (wo_ext x2)) hy
  · obtain ⟨x1, acc, hacc, al, ha⟩ := e
    rw [List.take_length] at ha
    exact hd H x1 (.lst hacc (by omega) (ha.ext wo_sub))
end
end Bw

namespace Bw
open PySem PySem.Spec PyProof.Rows L2 ItX
theorem ring_at {n : Int} {i : Nat} (h : (i : Int) < n) : (ring n)[i]? = some (i : Int) := by
  unfold ring
  rw [List.getElem?_map, List.getElem?_range (by omega)]
  rfl
theorem dn_list_at {H : Hp} {v : V} {d : Nat} {ds : List PyData} (h : Dn H (d + 1) v (.list ds)) : ∃ r xs, v = .ref r ∧ H r = some (.lst xs) ∧ DnAll H d xs ds := by
  cases h with
  | lst h _ r => exact ⟨_, _, rfl, h, r⟩
theorem dn_nth {H : Hp} {d : Nat} : ∀ {vs : List V} {ps : List PyData} {k : Nat} {p : PyData}, DnAll H d vs ps → ps[k]? = some p → ∃ v, vs[k]? = some v ∧ Dn H d v p
  | _, _, 0, _, .cons h r, e => by cases e; exact ⟨_, rfl, h⟩
  | _, _, k + 1, _, .cons h r, e => dn_nth (k := k) r e
theorem name_ok {x : Str} (h : NameOk x) : PyData.strOk x = true := by
  unfold PyData.strOk
  rw [Array.all_eq_true']
  intro c hc
  have := h.az c (Array.mem_toList_iff.mpr hc)
  exact decide_eq_true (by omega)
section
variable {K : PySem.W.Frag} {H1 : Hp} {Qx : Addr → Hp → Prop} {E : XK}
theorem new_ext {x dx C : Addr} (hx : H1 x = none) (hdx : H1 dx = none) : Ext H1 (upd (upd H1 dx (.own x)) x (.ins C dx [])) := fun b u e => by
  rw [upd_ne (ne_of_none e hx), upd_ne (ne_of_none e hdx)]; exact e
/-- a frame rule's end: all but the new object stays -/
theorem kept_ext {x dx C : Addr} {H' : Hp} (hx : H1 x = none) (hdx : H1 dx = none) (hk : ∀ b o, b ≠ x → upd (upd H1 dx (.own x)) x (.ins C dx []) b = some o → H' b = some o) : Ext H1 H' :=
  fun b o e => hk b o (ne_of_none e hx) (new_ext hx hdx b o e)
/-- an instance just begun, and what lies beside it -/
theorem ne_ins0 {H : Hp} {a b C dx : Addr} {o : HO} (e : H a = some (.ins C dx [])) (hb : H b = some o) (ho : o ≠ .ins C dx [] := by simp) : b ≠ a := fun z => by
  rw [z, e] at hb; cases hb; exact ho rfl
theorem HouseAt.kept {H H' : Hp} {a b C dx : Addr} {A : Hd} (h : HouseAt K H b A) (e : H a = some (.ins C dx [])) (k : ∀ b o, b ≠ a → H b = some o → H' b = some o) : HouseAt K H' b A := by
  obtain ⟨ok, d, na, st, h1, h2, h3⟩ := h
  exact ⟨ok, d, na, st, k _ _ (ne_ins0 e h1) h1, k _ _ (ne_ins0 e h2) h2, k _ _ (ne_ins0 e h3) h3⟩
theorem w_lenHouse {H : Hp} {P : VK} {hh : Addr} {A : Hd} (h : HouseAt K H hh A) (p : P (.int (A.names.length : Nat)) H) : rLenI (He.ga K "House") (sp_House_len K) [.ref hh] H P := by
  obtain ⟨ok, d, na, st, h1, h2, h3⟩ := id h
  have := ok.g2
  exact w_lenI h1 ⟨hh, A, rfl, h, _, rfl, by omega, p⟩
theorem w_lenLot {H : Hp} {P : VK} {l : Addr} {n : Int} {ms : List Int} (h : LotAt K H l n ms) (p : P (.int (ms.length : Nat)) H) : rLenI (He.ga K "Lot") (sp_Lot_len K) [.ref l] H P := by
  obtain ⟨ok, d, lm, h1, h2⟩ := id h
  have := ok.len
  exact w_lenI h1 ⟨l, n, ms, rfl, h, _, rfl, by omega, p⟩
theorem w_lenCrew {H : Hp} {P : VK} {c : Addr} {C : Cd} (h : CrewAt K H c C) (p : P (.int (C.starts.length : Nat)) H) : rLenI (He.ga K "Crew") (sp_Crew_len K) [.ref c] H P := by
  obtain ⟨dx, b, l, h1, h2, L⟩ := id h
  have := L.1.len
  exact w_lenI h1 ⟨c, C, rfl, h, _, rfl, by omega, p⟩
theorem made_house {l : Addr} {A : Hd} (ok : HouseOk A) (hl : Dn H1 2 (.ref l) (gatesD A.names A.stakes)) (hQ : ∀ H' a, Ext H1 H' → HouseAt K H' a A → Qx a H') :
    ∀ x dx, H1 x = none → H1 dx = none → dx ≠ x → sp_House_init K [.ref x, .int A.n, .ref l] (upd (upd H1 dx (.own x)) x (.ins (He.ga K "House") dx [])) (fun v H2 => v = .non ∧ Qx x H2) E := by
  intro x dx hx hdx hne
  have hlx : l ≠ x := by
    unfold gatesD at hl
    cases hl with
    | lst h _ _ => exact ne_of_none h hx
  exact ⟨x, dx, l, A, rfl, upd_same, ok, hl.ext (new_ext hx hdx), hlx, fun H' hk h1 => ⟨rfl, hQ H' x (kept_ext hx hdx hk) h1⟩⟩
theorem made_beat {h l : Addr} {B : Bd} (ok : BeatOk B) (hh : HouseAt K H1 h B.h) (hl : H1 l = some (.lst (B.steps.map V.int))) (hQ : ∀ H' a, Ext H1 H' → BeatAt K H' a B → Qx a H') :
    ∀ x dx, H1 x = none → H1 dx = none → dx ≠ x → sp_Beat_init K [.ref x, .ref h, .ref l] (upd (upd H1 dx (.own x)) x (.ins (He.ga K "Beat") dx [])) (fun v H2 => v = .non ∧ Qx x H2) E := by
  intro x dx hx hdx hne
  exact ⟨x, dx, h, l, B, rfl, upd_same, ok, hh.ext (new_ext hx hdx), new_ext hx hdx _ _ hl, fun H' hk h1 => ⟨rfl, hQ H' x (kept_ext hx hdx hk) h1⟩⟩
theorem made_crew {b l : Addr} {B : Bd} {ms : List Int} (hb : BeatAt K H1 b B) (hl : LotAt K H1 l B.h.n ms) (hQ : ∀ H' a, Ext H1 H' → CrewAt K H' a ⟨B, ms⟩ → Qx a H') :
    ∀ x dx, H1 x = none → H1 dx = none → dx ≠ x → sp_Crew_init K [.ref x, .ref b, .ref l] (upd (upd H1 dx (.own x)) x (.ins (He.ga K "Crew") dx [])) (fun v H2 => v = .non ∧ Qx x H2) E := by
  intro x dx hx hdx hne
  have nb : b ≠ x := by obtain ⟨_, _, _, _, e, _⟩ := hb; exact ne_of_none e hx
  have nl : l ≠ x := by obtain ⟨_, _, _, e, _⟩ := hl; exact ne_of_none e hx
  refine ⟨x, dx, b, l, B.h.n, B, ms, rfl, upd_same, hb.ext (new_ext hx hdx), hl.ext (new_ext hx hdx), nb, nl, ?_⟩
  rw [if_pos rfl]
  exact fun H' hk h1 => ⟨rfl, hQ H' x (kept_ext hx hdx hk) ⟨dx, b, l, h1, hb.ext (kept_ext hx hdx hk), hl.ext (kept_ext hx hdx hk)⟩⟩
/-- Crew(beat, starts) of another ring -/
theorem made_crew_bad {b l : Addr} {B : Bd} {n : Int} {ms : List Int} (hb : BeatAt K H1 b B) (hl : LotAt K H1 l n ms) (hn : n ≠ B.h.n) (hE : Bare K H1 E "OtherHours") :
    ∀ x dx, H1 x = none → H1 dx = none → dx ≠ x → sp_Crew_init K [.ref x, .ref b, .ref l] (upd (upd H1 dx (.own x)) x (.ins (He.ga K "Crew") dx [])) (fun v H2 => v = .non ∧ Qx x H2) E := by
  intro x dx hx hdx hne
  have nb : b ≠ x := by obtain ⟨_, _, _, _, e, _⟩ := hb; exact ne_of_none e hx
  have nl : l ≠ x := by obtain ⟨_, _, _, e, _⟩ := hl; exact ne_of_none e hx
  refine ⟨x, dx, b, l, n, B, ms, rfl, upd_same, hb.ext (new_ext hx hdx), hl.ext (new_ext hx hdx), nb, nl, ?_⟩
  rw [if_neg hn]
  exact fun H' x1 => hE H' ((new_ext hx hdx).trans x1)
end

/-! ### draws by a menu -/
def InM : List Int → List Int → Prop
  | [], [] => True
  | m :: ms, d :: ds => (0 ≤ d ∧ d < m) ∧ InM ms ds
  | _, _ => False
theorem inM_cons {m : Int} {ms ds : List Int} (h : InM (m :: ms) ds) : ∃ d r, ds = d :: r ∧ (0 ≤ d ∧ d < m) ∧ InM ms r := by
  cases ds with
  | nil => exact h.elim
  | cons d r => exact ⟨d, r, rfl, h.1, h.2⟩
theorem inM_nil {ds : List Int} (h : InM [] ds) : ds = [] := by
  cases ds with
  | nil => rfl
  | cons d r => exact h.elim
theorem inM_of : ∀ {ms ds : List Int}, ds.length = ms.length → (∀ (i : Nat) (m d : Int), ms[i]? = some m → ds[i]? = some d → 0 ≤ d ∧ d < m) → InM ms ds
  | [], [], _, _ => trivial
  | [], _ :: _, l, _ => by simp at l
  | _ :: _, [], l, _ => by simp at l
  | m :: ms, d :: ds, l, h => ⟨h 0 m d rfl rfl, inM_of (by simpa using l) fun i m d h1 h2 => h (i + 1) m d h1 h2⟩
theorem inM_len : ∀ {ms ds : List Int}, InM ms ds → ds.length = ms.length
  | [], [], _ => rfl
  | [], _ :: _, h => h.elim
  | _ :: _, [], h => h.elim
  | _ :: ms, _ :: ds, h => by rw [List.length_cons, List.length_cons, inM_len h.2]
theorem inM_rep {m : Int} : ∀ {n : Nat} {ds : List Int}, InM (List.replicate n m) ds → ∀ d ∈ ds, 0 ≤ d ∧ d < m
  | 0, ds, h, d, hd => by rw [inM_nil h] at hd; cases hd
  | n + 1, ds, h, d, hd => by
    rw [List.replicate_succ] at h
    obtain ⟨d0, r, rfl, b, h⟩ := inM_cons h
    rcases List.mem_cons.mp hd with rfl | hd
    · exact b
    · exact inM_rep h d hd
theorem use_draws {K : PySem.W.Frag} {H : Hp} {Q : VK} {E : XK} {c s : Int} {a : Addr} (ms : List Int) (c0 : 0 ≤ c) (s0 : 0 ≤ s) (s1 : s ≤ 1000000) (e : SqL K H a (ms.map V.int)) (l : ms.length ≤ 1000) (hm : ∀ m ∈ ms, 1 ≤ m ∧ m < 2 ^ 200)
    (k : ∀ H' p (ds : List Int), Ext H H' → H p = none → H' p = some (.lst (ds.map V.int)) → InM ms ds → Q (.ref p) H') : sp_l_drawsW K [.int c, .int s, .ref a] H Q E :=
  ⟨c, s, a, ms, rfl, c0, s0, s1, e, l, hm, fun H' p ds x1 hp he hl hb => k H' p ds x1 hp he (inM_of hl hb)⟩
theorem no_xd {H : Hp} : ∀ b, (none : Option Addr) = some b → ∃ fs, H b = some (.xd fs) := fun _ h => by cases h
theorem use_same {K : PySem.W.Frag} {H : Hp} {Q : VK} {E : XK} {x y : V} {d : Nat} (p : PyData) (h1 : Dn H d x p) (h2 : Dn H d y p) (q : Q (.bl true) H) : sp_l_same d K [x, y] H Q E := ⟨x, y, p, rfl, h1, h2, q⟩
theorem dn_bools {H : Hp} {d : Nat} : ∀ bs : List Bool, DnAll H d (bs.map V.bl) (bs.map PyData.bool)
  | [] => .nil d
  | b :: r => .cons (.bl d b) (dn_bools r)
theorem dn_ints_at {H : Hp} {d : Nat} {p : Addr} {ns : List Int} (h : H p = some (.lst (ns.map V.int))) (l : ns.length ≤ 200000) : Dn H (d + 1) (.ref p) (.list (ns.map PyData.int)) := .lst h (by rw [List.length_map]; exact l) (dnInts H d ns)
mutual
theorem Dn.up {H : Hp} : ∀ {d : Nat} {v : V} {p : PyData}, Dn H d v p → Dn H (d + 1) v p
  | _, _, _, .non d => .non _
  | _, _, _, .bl d b => .bl _ b
  | _, _, _, .int d i => .int _ i
  | _, _, _, .str d z => .str _ z
  | _, _, _, .lst h l r => .lst h l (DnAll.up r)
  | _, _, _, .tup h l r => .tup h l (DnAll.up r)
theorem DnAll.up {H : Hp} : ∀ {d : Nat} {vs : List V} {ps : List PyData}, DnAll H d vs ps → DnAll H (d + 1) vs ps
  | _, _, _, .nil d => .nil _
  | _, _, _, .cons h r => .cons (Dn.up h) (DnAll.up r)
end
end Bw

namespace Bw
/-! ### sums over lists -/
def S {α : Type} (l : List α) (f : α → Nat) : Nat := (l.map f).sum
def I (p : Prop) [Decidable p] : Nat := if p then 1 else 0
section
variable {α β : Type} {l m : List α} {f g : α → Nat}
theorem S_nil : S ([] : List α) f = 0 := rfl
theorem S_cons {a : α} : S (a :: l) f = f a + S l f := by simp [S]
theorem S_append : S (l ++ m) f = S l f + S m f := by simp [S]
theorem S_congr (h : ∀ x ∈ l, f x = g x) : S l f = S l g := by unfold S; rw [List.map_congr_left h]
theorem S_add : S l (fun x => f x + g x) = S l f + S l g := by
  induction l with
  | nil => rfl
  | cons a r ih => rw [S_cons, S_cons, S_cons, ih]; omega
theorem S_zero : S l (fun _ => 0) = 0 := by
  induction l with
  | nil => rfl
  | cons a r ih => rw [S_cons, ih]
theorem S_const {c : Nat} : S l (fun _ => c) = l.length * c := by
  induction l with
  | nil => simp [S]
  | cons a r ih => rw [S_cons, ih, List.length_cons, Nat.add_mul]; omega
theorem S_mul {c : Nat} : S l (fun x => f x * c) = S l f * c := by
  induction l with
  | nil => simp [S]
  | cons a r ih => rw [S_cons, S_cons, ih, Nat.add_mul]
theorem S_mul' {c : Nat} : S l (fun x => c * f x) = c * S l f := by
  induction l with
  | nil => simp [S]
  | cons a r ih => rw [S_cons, S_cons, ih, Nat.mul_add]
theorem S_swap {l' : List β} {h : α → β → Nat} : S l (fun x => S l' fun y => h x y) = S l' fun y => S l fun x => h x y := by
  induction l with
  | nil => rw [S_nil]; exact (S_zero (l := l')).symm
  | cons a r ih =>
    rw [S_cons, ih, ← S_add]
    exact S_congr fun y _ => (S_cons (f := fun x => h x y)).symm
theorem S_perm (p : l.Perm m) : S l f = S m f := (p.map f).sum_nat
theorem S_flatMap {l' : List β} {k : β → List α} : S (l'.flatMap k) f = S l' fun y => S (k y) f := by
  induction l' with
  | nil => rfl
  | cons a r ih => rw [List.flatMap_cons, S_append, S_cons, ih]
theorem S_map {l' : List β} {k : β → α} : S (l'.map k) f = S l' fun y => f (k y) := by unfold S; rw [List.map_map]; rfl
theorem S_countP {p : α → Bool} : S l (fun x => I (p x = true)) = l.countP p := by
  induction l with
  | nil => rfl
  | cons a r ih =>
    rw [S_cons, ih, List.countP_cons]
    unfold I
    split <;> omega
theorem S_filter {p : α → Bool} : S (l.filter p) f = S l fun x => if p x = true then f x else 0 := by
  induction l with
  | nil => rfl
  | cons a r ih =>
    rw [List.filter_cons, S_cons]
    by_cases h : p a = true
    · rw [if_pos h, S_cons, ih, if_pos h]
    · rw [if_neg h, ih, if_neg h]; omega
theorem I_congr {p q : Prop} [Decidable p] [Decidable q] (h : p ↔ q) : I p = I q := by unfold I; by_cases hp : p <;> simp [hp, h.mp, mt h.mpr, h.symm] <;> simp_all
theorem S_one [DecidableEq α] {a : α} (n : l.Nodup) : S l (fun x => I (x = a)) = I (a ∈ l) := by
  induction l with
  | nil => rfl
  | cons b r ih =>
    obtain ⟨h1, h2⟩ := List.nodup_cons.mp n
    rw [S_cons, ih h2]
    unfold I
    by_cases e : b = a
    · subst e
      rw [if_pos rfl, if_neg h1, if_pos List.mem_cons_self]
    · by_cases hm : a ∈ r
      · rw [if_neg e, if_pos hm, if_pos (List.mem_cons_of_mem _ hm)]
      · rw [if_neg e, if_neg hm, if_neg (fun z => by rcases List.mem_cons.mp z with z | z; exact e z.symm; exact hm z)]
end
theorem count_S (l : List Int) (d : Int) : l.count d = S l fun x => I (x = d) := by
  rw [List.count_eq_countP, ← S_countP]
  exact S_congr fun x _ => I_congr (by simp)
/-! ### residues -/
theorem sub_mod_iff {n a b d : Int} (ha : 0 ≤ a ∧ a < n) (hd : 0 ≤ d ∧ d < n) : (a - b) % n = d ↔ a = (b + d) % n := by
  constructor
  · intro h
    have e : (b + d) % n = (b + (a - b)) % n := by rw [← h, Int.add_emod_emod]
    rw [e, show b + (a - b) = a by omega]
    exact (Int.emod_eq_of_lt ha.1 ha.2).symm
  · intro h
    rw [h, Int.emod_sub_emod, show b + d - b = d by omega]
    exact Int.emod_eq_of_lt hd.1 hd.2
end Bw

namespace Bw
open PySem PySem.Spec PyProof.Rows L2
theorem bd_at {B : Bd} {t : Int} (h : 0 ≤ t ∧ t < B.h.n) : B.steps.getD t.toNat 0 = B.at_ t := by unfold Bd.at_; rw [Int.emod_eq_of_lt h.1 h.2]
/-- how often hour h comes up at gate g, guard by guard -/
theorem walk_S {n h g : Int} {steps starts : List Int} : (starts.flatMap fun s => ((ring n).filter fun t => decide (steps.getD t.toNat 0 = g)).map fun t => (s + t) % n).count h
    = S starts fun s => S (ring n) fun t => if decide (steps.getD t.toNat 0 = g) = true then I ((s + t) % n = h) else 0 := by
  rw [count_S, S_flatMap]
  refine S_congr fun s _ => ?_
  rw [S_map, S_filter]
theorem row_walk {C : Cd} {g : Int} (n1 : 1 ≤ C.b.h.n) : C.row g = walkRow C.b.h.n C.b.steps C.starts g := by
  unfold Cd.row walkRow
  refine List.map_congr_left fun h hh => ?_
  have hr := mem_ring.mp hh
  rw [walk_S]
  congr 1
  rw [← List.countP_eq_length_filter, ← S_countP]
  refine S_congr fun s _ => ?_
  have r := emod_rng n1 (h - s)
  have e : (S (ring C.b.h.n) fun t => if decide (C.b.steps.getD t.toNat 0 = g) = true then I ((s + t) % C.b.h.n = h) else 0) = S (ring C.b.h.n) fun t => I (t = (h - s) % C.b.h.n) * I (C.b.at_ (h - s) = g) := S_congr fun t ht => by
    have tr := mem_ring.mp ht
    have k : (s + t) % C.b.h.n = h ↔ t = (h - s) % C.b.h.n := by
      constructor
      · intro e
        rw [← e, Int.emod_sub_emod, show s + t - s = t by omega]
        exact (Int.emod_eq_of_lt tr.1 tr.2).symm
      · intro e
        rw [e, Int.add_emod_emod, show s + (h - s) = h by omega]
        exact Int.emod_eq_of_lt hr.1 hr.2
    rw [I_congr k]
    by_cases et : t = (h - s) % C.b.h.n
    · have ea : C.b.steps.getD t.toNat 0 = C.b.at_ (h - s) := by rw [et]; rfl
      rw [ea]
      unfold I
      rw [if_pos et]
      by_cases eg : C.b.at_ (h - s) = g
      · rw [if_pos (decide_eq_true eg), if_pos eg]
      · rw [if_neg (by simpa using eg), if_neg eg]
    · unfold I
      rw [if_neg et]
      split <;> omega
  rw [e, S_mul, S_one (lt_nodup (ring_asc _))]
  unfold I
  rw [if_pos (mem_ring.mpr r)]
  simp
theorem meet_walk {C : Cd} {g : Int} (n1 : 1 ≤ C.b.h.n) : meetL C.b.h.n (C.b.lot g) (srt (C.starts.map fun m => (-m) % C.b.h.n)) = walkRow C.b.h.n C.b.steps C.starts g := by
  unfold meetL tally walkRow
  refine List.map_congr_left fun h hh => ?_
  rw [walk_S]
  congr 1
  unfold pairsD
  rw [count_S, S_flatMap]
  have e1 : (S (C.b.lot g) fun y => S ((srt (C.starts.map fun m => (-m) % C.b.h.n)).map fun b => (y - b) % C.b.h.n) fun x => I (x = h)) = S (C.b.lot g) fun y => S C.starts fun s => I ((s + y) % C.b.h.n = h) := S_congr fun y _ => by
    rw [S_map, S_perm (srt_perm _), S_map]
    refine S_congr fun s _ => I_congr ?_
    rw [Int.sub_emod_emod, show y - -s = s + y by omega]
  rw [e1, S_swap]
  refine S_congr fun s _ => ?_
  unfold Bd.lot
  rw [S_filter]
  refine S_congr fun t ht => ?_
  rw [bd_at (mem_ring.mp ht)]
theorem asc_ext : ∀ {l m : List Int}, l.Pairwise (· < ·) → m.Pairwise (· < ·) → (∀ x, x ∈ l ↔ x ∈ m) → l = m
  | [], [], _, _, _ => rfl
  | [], b :: s, _, _, h => by have := (h b).mpr List.mem_cons_self; cases this
  | a :: r, [], _, _, h => by have := (h a).mp List.mem_cons_self; cases this
  | a :: r, b :: s, hl, hm, h => by
    obtain ⟨l1, l2⟩ := List.pairwise_cons.mp hl
    obtain ⟨m1, m2⟩ := List.pairwise_cons.mp hm
    have hab : a = b := by
      have h1 := (h a).mp List.mem_cons_self
      have h2 := (h b).mpr List.mem_cons_self
      rcases List.mem_cons.mp h1 with e | h1
      · exact e
      · rcases List.mem_cons.mp h2 with e | h2
        · exact e.symm
        · have := m1 a h1
          have := l1 b h2
          omega
    subst hab
    rw [asc_ext l2 m2 fun x => ?_]
    constructor
    · intro hx
      rcases List.mem_cons.mp ((h x).mp (List.mem_cons_of_mem _ hx)) with e | k
      · have := l1 x hx; omega
      · exact k
    · intro hx
      rcases List.mem_cons.mp ((h x).mpr (List.mem_cons_of_mem _ hx)) with e | k
      · have := m1 x hx; omega
      · exact k
theorem mem_moved {n k x : Int} {ms : List Int} (ok : LotOk n ms) : x ∈ moved n k ms ↔ (0 ≤ x ∧ x < n) ∧ (x - k) % n ∈ ms := by
  unfold moved
  rw [mem_srt, List.mem_map]
  constructor
  · rintro ⟨m, hm, rfl⟩
    refine ⟨emod_rng ok.n1 _, ?_⟩
    rw [Int.emod_sub_emod, show m + k - k = m by omega, Int.emod_eq_of_lt (ok.rng m hm).1 (ok.rng m hm).2]
    exact hm
  · rintro ⟨hx, hm⟩
    refine ⟨_, hm, ?_⟩
    rw [Int.emod_add_emod, show x - k + k = x by omega]
    exact Int.emod_eq_of_lt hx.1 hx.2
theorem moved_ok' {n k : Int} {ms : List Int} (ok : LotOk n ms) : LotOk n (moved n k ms) :=
  moved_ok ok.n1 ok.n2 (fun r hr => by obtain ⟨m, _, rfl⟩ := List.mem_map.mp hr; exact emod_rng ok.n1 _) (move_nodup ok)
theorem filter_moved {n k : Int} {ms : List Int} (ok : LotOk n ms) : (ring n).filter (fun h => decide ((h - k) % n ∈ ms)) = moved n k ms :=
  asc_ext ((ring_asc n).sublist List.filter_sublist) (moved_ok' ok).asc fun x => by
    rw [mem_moved ok, List.mem_filter, mem_ring, decide_eq_true_eq]
theorem moved_moved {n k j : Int} {ms : List Int} (ok : LotOk n ms) : moved n j (moved n k ms) = moved n (k + j) ms :=
  asc_ext (moved_ok' (moved_ok' ok)).asc (moved_ok' ok).asc fun x => by
    rw [mem_moved (moved_ok' ok), mem_moved ok, mem_moved ok, Int.emod_sub_emod, show x - j - k = x - (k + j) by omega]
    have := emod_rng ok.n1 (x - j)
    constructor
    · rintro ⟨h, _, h2⟩; exact ⟨h, h2⟩
    · rintro ⟨h, h2⟩; exact ⟨h, this, h2⟩
theorem moved_rings {n k : Int} {ms : List Int} (ok : LotOk n ms) : moved n (n * k) ms = ms :=
  asc_ext (moved_ok' ok).asc ok.asc fun x => by
    rw [mem_moved ok, Int.sub_mul_emod_self_left]
    constructor
    · rintro ⟨h, h2⟩; rw [Int.emod_eq_of_lt h.1 h.2] at h2; exact h2
    · intro h; have r := ok.rng x h; exact ⟨r, by rw [Int.emod_eq_of_lt r.1 r.2]; exact h⟩
end Bw

namespace Bw
open PySem PySem.Spec PyProof.Rows L2
structure B13 (K : PySem.W.Frag) (H : Hp) (a top gl hs lS lM lp bt lt cr : Addr) (ns : List Int) (A : Hd) (steps starts : List Int) (x y t2 : Int) : Prop where
  ha : SqL K H a (ns.map V.int)
  htop : ∃ d0 d1, H top = some (.lst [V.int d0, V.int d1, V.int t2])
  hg : Dn H 2 (.ref gl) (gatesD A.names A.stakes)
  hA : HouseAt K H hs A
  n10 : A.n ≤ 10
  hS : H lS = some (.lst (steps.map V.int))
  hM : H lM = some (.lst (starts.map V.int))
  hp : H lp = some (.lst [V.int x, V.int y])
  x0 : 0 ≤ x
  x1 : x < 10 ^ 57
  y0 : 0 ≤ y
  y1 : y < 10 ^ 57
  hB : BeatAt K H bt ⟨A, steps⟩
  hL : LotAt K H lt A.n starts
  hC : CrewAt K H cr ⟨⟨A, steps⟩, starts⟩
theorem B13.ext {K : PySem.W.Frag} {H H' : Hp} {a top gl hs lS lM lp bt lt cr : Addr} {ns : List Int} {A : Hd} {steps starts : List Int} {x y t2 : Int} (h : B13 K H a top gl hs lS lM lp bt lt cr ns A steps starts x y t2) (z : Ext H H') : B13 K H' a top gl hs lS lM lp bt lt cr ns A steps starts x y t2 :=
  ⟨sqL_ext z h.ha, by obtain ⟨d0, d1, e⟩ := h.htop; exact ⟨d0, d1, z _ _ e⟩, h.hg.ext z, h.hA.ext z, h.n10, z _ _ h.hS, z _ _ h.hM, z _ _ h.hp, h.x0, h.x1, h.y0, h.y1, h.hB.ext z, h.hL.ext z, h.hC.ext z⟩
structure B23 (K : PySem.W.Frag) (H : Hp) (dw ot fw : Addr) (A : Hd) (steps starts changed fewer : List Int) (d3 d4 : Int) : Prop where
  hd : ∃ e0 e1 e2, H dw = some (.lst [V.int e0, V.int e1, V.int e2, V.int d3, V.int d4])
  b3 : 0 ≤ d3 ∧ d3 < 5
  b4 : 0 ≤ d4 ∧ d4 < 61
  hO : CrewAt K H ot ⟨⟨A, changed⟩, starts⟩
  hF : CrewAt K H fw ⟨⟨A, steps⟩, fewer⟩
  n1 : changed ≠ steps
  n2 : fewer ≠ starts
theorem B23.ext {K : PySem.W.Frag} {H H' : Hp} {dw ot fw : Addr} {A : Hd} {steps starts changed fewer : List Int} {d3 d4 : Int} (h : B23 K H dw ot fw A steps starts changed fewer d3 d4) (z : Ext H H') : B23 K H' dw ot fw A steps starts changed fewer d3 d4 :=
  ⟨by obtain ⟨e0, e1, e2, e⟩ := h.hd; exact ⟨e0, e1, e2, z _ _ e⟩, h.b3, h.b4, h.hO.ext z, h.hF.ext z, h.n1, h.n2⟩
structure B33 (K : PySem.W.Frag) (H : Hp) (tn : Addr) (A : Hd) (steps starts : List Int) (k rg : Int) : Prop where
  hT : CrewAt K H tn ⟨⟨A, steps⟩, moved A.n k starts⟩
  r1 : 1 ≤ rg
  r2 : rg ≤ 360
theorem use_eqCrew {K : PySem.W.Frag} (F : KFH K) {H : Hp} {Q : VK} {W : XK} {a b : Addr} {C D : Cd} (hC : CrewAt K H a C) (hD : CrewAt K H b D) (q : Q (.bl (decide (C = D))) H) :
    ∃ a' dx fs t, V.ref a = .ref a' ∧ H a' = some (.ins (He.ga K "Crew") dx fs) ∧ TyX K H (.ref b) t ∧ PySem.W.notFirst K (He.ga K "Crew") t = true ∧ sp_Crew_eq K [.ref a, .ref b] H Q W := by
  obtain ⟨_, _, _, e1, _, _⟩ := id hC
  obtain ⟨_, _, _, e2, _, _⟩ := id hD
  exact ⟨a, _, _, _, rfl, e1, insAll_ok F.crew e2, F.nfc, a, .ref b, C, rfl, hC, .inl ⟨b, D, rfl, hD, q⟩⟩
theorem use_eqCrewBeat {K : PySem.W.Frag} (F : KFH K) {H : Hp} {Q : VK} {W : XK} {a b : Addr} {C : Cd} {B : Bd} (hC : CrewAt K H a C) (hB : BeatAt K H b B) (q : Q (.bl false) H) :
    ∃ a' dx fs t, V.ref a = .ref a' ∧ H a' = some (.ins (He.ga K "Crew") dx fs) ∧ TyX K H (.ref b) t ∧ PySem.W.notFirst K (He.ga K "Crew") t = true ∧ sp_Crew_eq K [.ref a, .ref b] H Q W := by
  obtain ⟨_, _, _, e1, _, _⟩ := id hC
  obtain ⟨_, _, _, _, e2, _⟩ := id hB
  exact ⟨a, _, _, _, rfl, e1, insAll_ok F.beat e2, F.nfcb, a, .ref b, C, rfl, hC, .inr ⟨_, insAll_ok F.beat e2, F.uncb, q⟩⟩
end Bw

namespace Bw
open PySem PySem.Spec PyProof.Rows L2
def t_hours_checked (K : PySem.W.Frag) (E : XK) : TS :=
  (tIfS (tNot (tTest (tChain rLeI rLeI (tC (.int 1)) (tVar 0) (tVar 1)))) (tRse (wE E) (tMkE (He.ga K "BadNumber") ok2 (fs2 "name" "value") (tCons (tC (.str "hours")) (tCons (tVar 0) tNil)))) tNext)
def t_rings_checked (K : PySem.W.Frag) (E : XK) : TS :=
  (tIfS (tTest (tOp rNe (tFldI (He.ga K "Lot") "hours" (tVar 0)) (tFldI (He.ga K "Lot") "hours" (tVar 1)))) (tRse (wE E) (tMkP (He.ga K "OtherHours"))) tNext)
def t_is_name (K : PySem.W.Frag) (E : XK) : TS :=
  (tSeq (tIfS (tNot (tTest (tChain rLeI rLeI (tC (.int 1)) (tCB rLenStr (tCons (tVar 0) tNil)) (tC (.int 8))))) (tRet (tC (.bl false))) tNext)
  (tRet (tCB (rAll K) (tCons (tLc (iStr (tVar 0)) (gName 1) tYes (tOp rInS (tVar 1) (tC (.str "abcdefghijklmnopqrstuvwxyz"))) [1]) tNil))))
def t_name_checked (K : PySem.W.Frag) (E : XK) : TS :=
  (tIfS (tNot (tB (tC1 (sp_is_name K) (wE E) (tCons (tVar 0) tNil)))) (tRse (wE E) (tMkE (He.ga K "BadName") ok1 (fs1 "name") (tCons (tVar 0) tNil))) tNext)
def t_Lot_init (K : PySem.W.Frag) (E : XK) : TS :=
  (tSeq (tDrop (tC1 (sp_hours_checked K) (wE E) (tCons (tVar 1) (tCons (tConI (He.ga K "Lot") "MOST" (.int 360) (tVar 0)) tNil))))
  (tSeq (tAsg (tLc (iList K (tVar 2)) (gName 4) tYes (tOp rModN (tVar 4) (tVar 1)) [4]) (gName 3))
  (tSeq (tIfS (tTest (tOp rLtI (RZ.tLenSetI K (tVar 3)) (tCB (rLenQ K) (tCons (tVar 3) tNil)))) (tRse (wE E) (tMkE (He.ga K "RepeatedHour") ok1 (fs1 "hour") (tCons (tC1 (spF K) (wE E) (tCons (tVar 3) tNil)) tNil))) tNext)
  (tSeq (sFldI (He.ga K "Lot") "hours" (tVar 0) (tVar 1))
  (sFldI (He.ga K "Lot") "_members" (tVar 0) (tCB (rSortedI K) (tCons (tLc (iList K (tVar 3)) (gName 5) tYes (tCB rInt1 (tCons (tVar 5) tNil)) [5]) tNil)))))))
def t_Lot_members (K : PySem.W.Frag) (E : XK) : TS :=
  (tRet (tCB (rListOf K) (tCons (tFldI (He.ga K "Lot") "_members" (tVar 0)) tNil)))
def t_Lot_len (K : PySem.W.Frag) (E : XK) : TS :=
  (tRet (tCB (rLenQ K) (tCons (tFldI (He.ga K "Lot") "_members" (tVar 0)) tNil)))
def t_Lot_contains (K : PySem.W.Frag) (E : XK) : TS :=
  (tRet (tOp (rIn K false) (tOp rModN (tVar 1) (tFldI (He.ga K "Lot") "hours" (tVar 0))) (tFldI (He.ga K "Lot") "_members" (tVar 0))))
def t_Lot_eq (K : PySem.W.Frag) (E : XK) : TS :=
  (tRet (tAndV (tCB (rIsi K) (tCons (tVar 1) (tCons (tC (.ref (He.ga K "Lot"))) tNil))) (tAndV (tOp rEq (tFldI (He.ga K "Lot") "hours" (tVar 0)) (tFldI (He.ga K "Lot") "hours" (tVar 1))) (tOp (rEqD K) (tFldI (He.ga K "Lot") "_members" (tVar 0)) (tFldI (He.ga K "Lot") "_members" (tVar 1))))))
def t_Lot_lshift (K : PySem.W.Frag) (E : XK) : TS :=
  (tRet (tMk1 (He.ga K "Lot") (sp_Lot_init K) (wE E) (tCons (tFldI (He.ga K "Lot") "hours" (tVar 0)) (tCons (tLc (iList K (tFldI (He.ga K "Lot") "_members" (tVar 0))) (gName 2) tYes (tOp rAddI (tVar 2) (tVar 1)) [2]) tNil))))
def t_Lot_neg (K : PySem.W.Frag) (E : XK) : TS :=
  (tRet (tMk1 (He.ga K "Lot") (sp_Lot_init K) (wE E) (tCons (tFldI (He.ga K "Lot") "hours" (tVar 0)) (tCons (tLc (iList K (tFldI (He.ga K "Lot") "_members" (tVar 0))) (gName 1) tYes (tUn rNegI (tVar 1)) [1]) tNil))))
def t_meetings (K : PySem.W.Frag) (E : XK) : TS :=
  (tSeq (tDrop (tC1 (sp_rings_checked K) (wE E) (tCons (tVar 0) (tCons (tVar 1) tNil))))
  (tSeq (tAsg (tLc (iRng1 (tCons (tFldI (He.ga K "Lot") "hours" (tVar 0)) tNil)) (gName 6) tYes (tC (.int 0)) [6]) (gName 2))
  (tSeq (tFor (iOwn K (He.ga K "Lot") "_members" (tVar 0)) (gName 3) (tFor (iOwn K (He.ga K "Lot") "_members" (tVar 1)) (gName 4) (tSeq (tAsg (tOp rModN (tOp rSubI (tVar 3) (tVar 4)) (tFldI (He.ga K "Lot") "hours" (tVar 0))) (gName 5))
  (tAsg (tOp rAddI (tOp (rIxL K) (tVar 2) (tVar 5)) (tC (.int 1))) (gSub (tVar 2) (tVar 5) rSetL)))))
  (tRet (tVar 2)))))
def t_House_init (K : PySem.W.Frag) (E : XK) : TS :=
  (tSeq (tIfS (tNot (tTest (tChain rLeI rLeI (tC (.int 1)) (tVar 1) (tConI (He.ga K "House") "MOST_HOURS" (.int 24) (tVar 0))))) (tRse (wE E) (tMkE (He.ga K "BadNumber") ok2 (fs2 "name" "value") (tCons (tC (.str "hours")) (tCons (tVar 1) tNil)))) tNext)
  (tSeq (tIfS (tTest (tOp rEq (tCB (rLenQ K) (tCons (tVar 2) tNil)) (tC (.int 0)))) (tRse (wE E) (tMkE (He.ga K "BadNumber") ok2 (fs2 "name" "value") (tCons (tC (.str "gates")) (tCons (tC (.int 0)) tNil)))) tNext)
  (tSeq (tIfS (tTest (tOp rGtI (tCB (rLenQ K) (tCons (tVar 2) tNil)) (tConI (He.ga K "House") "MOST_GATES" (.int 4) (tVar 0)))) (tRse (wE E) (tMkE (He.ga K "TooMany") ok2 (fs2 "name" "most") (tCons (tC (.str "gates")) (tCons (tConI (He.ga K "House") "MOST_GATES" (.int 4) (tVar 0)) tNil)))) tNext)
  (tSeq (tAsg (tLst tNil) (gName 3))
  (tSeq (tAsg (tLst tNil) (gName 4))
  (tSeq (tFor (iList K (tVar 2)) (gTup K 2 (gCons (gName 5) (gCons (gName 6) gNil))) (tSeq (tDrop (tC1 (sp_name_checked K) (wE E) (tCons (tVar 5) tNil)))
  (tSeq (tIfS (tTest (tOp (rIn K false) (tVar 5) (tVar 3))) (tRse (wE E) (tMkE (He.ga K "RepeatedName") ok1 (fs1 "name") (tCons (tVar 5) tNil))) tNext)
  (tSeq (tIfS (tNot (tTest (tChain rLeI rLeI (tC (.int 0)) (tVar 6) (tConI (He.ga K "House") "MOST_STAKE" (.int 60) (tVar 0))))) (tRse (wE E) (tMkE (He.ga K "BadNumber") ok2 (fs2 "name" "value") (tCons (tC (.str "stake")) (tCons (tVar 6) tNil)))) tNext)
  (tSeq (tDrop (tBM K "list" rAppend (tVar 3) (tCons (tVar 5) tNil)))
  (tDrop (tBM K "list" rAppend (tVar 4) (tCons (tVar 6) tNil))))))))
  (tSeq (tIfS (tTest (tOp rGtI (tOp rMulW (tVar 1) (tCB (rLenQ K) (tCons (tVar 2) tNil))) (tConI (He.ga K "House") "MOST_CELLS" (.int 48) (tVar 0)))) (tRse (wE E) (tMkE (He.ga K "TooMany") ok2 (fs2 "name" "most") (tCons (tC (.str "cells")) (tCons (tConI (He.ga K "House") "MOST_CELLS" (.int 48) (tVar 0)) tNil)))) tNext)
  (tSeq (sFldI (He.ga K "House") "hours" (tVar 0) (tVar 1))
  (tSeq (sFldI (He.ga K "House") "names" (tVar 0) (tCB (rTupOf K) (tCons (tVar 3) tNil)))
  (sFldI (He.ga K "House") "stakes" (tVar 0) (tCB (rTupOf K) (tCons (tVar 4) tNil))))))))))))
def t_House_len (K : PySem.W.Frag) (E : XK) : TS :=
  (tRet (tCB (rLenQ K) (tCons (tFldI (He.ga K "House") "names" (tVar 0)) tNil)))
def t_House_eq (K : PySem.W.Frag) (E : XK) : TS :=
  (tRet (tAndV (tCB (rIsi K) (tCons (tVar 1) (tCons (tC (.ref (He.ga K "House"))) tNil))) (tAndV (tOp rEq (tFldI (He.ga K "House") "hours" (tVar 0)) (tFldI (He.ga K "House") "hours" (tVar 1))) (tAndV (tOp (rEqD K) (tFldI (He.ga K "House") "names" (tVar 0)) (tFldI (He.ga K "House") "names" (tVar 1))) (tOp (rEqD K) (tFldI (He.ga K "House") "stakes" (tVar 0)) (tFldI (He.ga K "House") "stakes" (tVar 1)))))))
def t_Beat_init (K : PySem.W.Frag) (E : XK) : TS :=
  (tSeq (tIfS (tTest (tOp rNe (tCB (rLenQ K) (tCons (tVar 2) tNil)) (tFldI (He.ga K "House") "hours" (tVar 1)))) (tRse (wE E) (tMkE (He.ga K "WrongLength") ok1 (fs1 "length") (tCons (tCB (rLenQ K) (tCons (tVar 2) tNil)) tNil))) tNext)
  (tSeq (tFor (iList K (tVar 2)) (gName 3) (tIfS (tNot (tTest (tChain rLeI rLtI (tUn rNegI (tC (.int 1))) (tVar 3) (tCB (rLenI (He.ga K "House") (sp_House_len K)) (tCons (tVar 1) tNil))))) (tRse (wE E) (tMkE (He.ga K "BadNumber") ok2 (fs2 "name" "value") (tCons (tC (.str "step")) (tCons (tVar 3) tNil)))) tNext))
  (tSeq (sFldI (He.ga K "Beat") "house" (tVar 0) (tVar 1))
  (sFldI (He.ga K "Beat") "steps" (tVar 0) (tCB (rTupOf K) (tCons (tVar 2) tNil))))))
def t_Beat_getitem (K : PySem.W.Frag) (E : XK) : TS :=
  (tRet (tOp (rIxT K) (tFldI (He.ga K "Beat") "steps" (tVar 0)) (tOp rModN (tVar 1) (tCB (rLenQ K) (tCons (tFldI (He.ga K "Beat") "steps" (tVar 0)) tNil)))))
def t_Beat_eq (K : PySem.W.Frag) (E : XK) : TS :=
  (tRet (tAndV (tCB (rIsi K) (tCons (tVar 1) (tCons (tC (.ref (He.ga K "Beat"))) tNil))) (tAndV (tEqI K (He.ga K "House") (sp_House_eq K) (wE E) (tFldI (He.ga K "Beat") "house" (tVar 0)) (tFldI (He.ga K "Beat") "house" (tVar 1))) (tOp (rEqD K) (tFldI (He.ga K "Beat") "steps" (tVar 0)) (tFldI (He.ga K "Beat") "steps" (tVar 1))))))
def t_Beat_lot (K : PySem.W.Frag) (E : XK) : TS :=
  (tSeq (tIfS (tNot (tTest (tChain rLeI rLtI (tUn rNegI (tC (.int 1))) (tVar 1) (tCB (rLenI (He.ga K "House") (sp_House_len K)) (tCons (tFldI (He.ga K "Beat") "house" (tVar 0)) tNil))))) (tRse (wE E) (tMkP (He.ga K "NoPlace"))) tNext)
  (tSeq (tAsg (tFldI (He.ga K "House") "hours" (tFldI (He.ga K "Beat") "house" (tVar 0))) (gName 2))
  (tRet (tMk1 (He.ga K "Lot") (sp_Lot_init K) (wE E) (tCons (tVar 2) (tCons (tLc (iRng1 (tCons (tVar 2) tNil)) (gName 3) (tTest (tOp rEq (tOp (rIxT K) (tFldI (He.ga K "Beat") "steps" (tVar 0)) (tVar 3)) (tVar 1))) (tVar 3) [3]) tNil))))))
def t_Crew_init (K : PySem.W.Frag) (E : XK) : TS :=
  (tSeq (tIfS (tTest (tOp rNe (tFldI (He.ga K "Lot") "hours" (tVar 2)) (tFldI (He.ga K "House") "hours" (tFldI (He.ga K "Beat") "house" (tVar 1))))) (tRse (wE E) (tMkP (He.ga K "OtherHours"))) tNext)
  (tSeq (sFldI (He.ga K "Crew") "beat" (tVar 0) (tVar 1))
  (sFldI (He.ga K "Crew") "starts" (tVar 0) (tVar 2))))
def t_Crew_len (K : PySem.W.Frag) (E : XK) : TS :=
  (tRet (tCB (rLenI (He.ga K "Lot") (sp_Lot_len K)) (tCons (tFldI (He.ga K "Crew") "starts" (tVar 0)) tNil)))
def t_Crew_lshift (K : PySem.W.Frag) (E : XK) : TS :=
  (tRet (tMk1 (He.ga K "Crew") (sp_Crew_init K) (wE E) (tCons (tFldI (He.ga K "Crew") "beat" (tVar 0)) (tCons (tBinN (He.ga K "Lot") (sp_Lot_lshift K) (wE E) (tFldI (He.ga K "Crew") "starts" (tVar 0)) (tVar 1)) tNil))))
def t_Crew_eq (K : PySem.W.Frag) (E : XK) : TS :=
  (tRet (tAndV (tCB (rIsi K) (tCons (tVar 1) (tCons (tC (.ref (He.ga K "Crew"))) tNil))) (tAndV (tEqI K (He.ga K "Beat") (sp_Beat_eq K) (wE E) (tFldI (He.ga K "Crew") "beat" (tVar 0)) (tFldI (He.ga K "Crew") "beat" (tVar 1))) (tEqI K (He.ga K "Lot") (sp_Lot_eq K) (wE E) (tFldI (He.ga K "Crew") "starts" (tVar 0)) (tFldI (He.ga K "Crew") "starts" (tVar 1))))))
def t_Crew_row (K : PySem.W.Frag) (E : XK) : TS :=
  (tSeq (tAsg (tFldI (He.ga K "Beat") "house" (tFldI (He.ga K "Crew") "beat" (tVar 0))) (gName 2))
  (tSeq (tIfS (tNot (tTest (tChain rLeI rLtI (tC (.int 0)) (tVar 1) (tCB (rLenI (He.ga K "House") (sp_House_len K)) (tCons (tVar 2) tNil))))) (tRse (wE E) (tMkP (He.ga K "NoPlace"))) tNext)
  (tSeq (tAsg (tLst tNil) (gName 3))
  (tSeq (tFor (iRng1 (tCons (tFldI (He.ga K "House") "hours" (tVar 2)) tNil)) (gName 4) (tDrop (tBM K "list" rAppend (tVar 3) (tCons (tCB (rLenQ K) (tCons (tLc (iOwn K (He.ga K "Lot") "_members" (tFldI (He.ga K "Crew") "starts" (tVar 0))) (gName 5) (tTest (tOp rEq (tIxI (He.ga K "Beat") (sp_Beat_getitem K) (tFldI (He.ga K "Crew") "beat" (tVar 0)) (tOp rSubI (tVar 4) (tVar 5))) (tVar 1))) (tVar 5) [5]) tNil)) tNil))))
  (tRet (tVar 3))))))
def t_Crew_working (K : PySem.W.Frag) (E : XK) : TS :=
  (tSeq (tIfS (tB (tInI (He.ga K "Lot") (sp_Lot_contains K) (wE E) true (tVar 1) (tFldI (He.ga K "Crew") "starts" (tVar 0)))) (tRse (wE E) (tMkP (He.ga K "NoPlace"))) tNext)
  (tSeq (tAsg (tFldI (He.ga K "House") "hours" (tFldI (He.ga K "Beat") "house" (tFldI (He.ga K "Crew") "beat" (tVar 0)))) (gName 2))
  (tRet (tMk1 (He.ga K "Lot") (sp_Lot_init K) (wE E) (tCons (tVar 2) (tCons (tLc (iRng1 (tCons (tVar 2) tNil)) (gName 3) (tTest (tOp rNe (tIxI (He.ga K "Beat") (sp_Beat_getitem K) (tFldI (He.ga K "Crew") "beat" (tVar 0)) (tOp rSubI (tVar 3) (tVar 1))) (tUn rNegI (tC (.int 1))))) (tVar 3) [3]) tNil))))))
def t_l_cell (K : PySem.W.Frag) (E : XK) : TS :=
  (tSeq (tIfS (tTest (tOp rLtI (tVar 1) (tCB (rLenQ K) (tCons (tVar 0) tNil)))) (tRet (tCB rAbs (tCons (tOp (rIxL K) (tVar 0) (tVar 1)) tNil))) tNext)
  (tRet (tC (.int 0))))
def t_l_draws (K : PySem.W.Frag) (E : XK) : TS :=
  (tSeq (tAsg (tLst tNil) (gName 3))
  (tSeq (tAsg (tOp rSubI (tVar 0) (tOp rPowI (tC (.int 10)) (tC (.int 18)))) (gName 4))
  (tSeq (tAsg (tOp rAddI (tVar 0) (tOp rMulW (tC (.int 7919)) (tVar 1))) (gName 5))
  (tSeq (tFor (iRng1 (tCons (tCB (rLenQ K) (tCons (tVar 2) tNil)) tNil)) (gName 6) (tIfS (tTest (tOp rGeI (tVar 4) (tC (.int 0)))) (tSeq (tDrop (tBM K "list" rAppend (tVar 3) (tCons (tOp rModN (tCB rInt1 (tCons (tVar 4) tNil)) (tOp (rIxL K) (tVar 2) (tVar 6))) tNil)))
  (tAsg (tOp rDivW (tVar 4) (tOp (rIxL K) (tVar 2) (tVar 6))) (gName 4))) (tSeq (tAsg (tOp rModN (tCB rInt1 (tCons (tOp rAddI (tOp rAddI (tOp rMulW (tVar 5) (tVar 5)) (tOp rMulW (tC (.int 3571)) (tOp rAddI (tVar 6) (tC (.int 1))))) (tC (.int 40692))) tNil)) (tC (.int 2147483399))) (gName 5))
  (tSeq (tAsg (tOp rModN (tCB rInt1 (tCons (tOp rAddI (tOp rMulW (tVar 5) (tVar 5)) (tOp rDivW (tVar 5) (tC (.int 97)))) tNil)) (tC (.int 2147483629))) (gName 5))
  (tDrop (tBM K "list" rAppend (tVar 3) (tCons (tOp rModN (tCB rInt1 (tCons (tOp rDivW (tVar 5) (tC (.int 8))) tNil)) (tOp (rIxL K) (tVar 2) (tVar 6))) tNil)))))))
  (tRet (tVar 3))))))
def t_l_two (K : PySem.W.Frag) (E : XK) : TS :=
  (tSeq (tAsg (tC (.int 1)) (gName 1))
  (tSeq (tFor (iRng1 (tCons (tVar 0) tNil)) (gName 2) (tAsg (tOp rMulW (tVar 1) (tC (.int 2))) (gName 1)))
  (tRet (tVar 1))))
def t_l_bits (K : PySem.W.Frag) (E : XK) : TS :=
  (tSeq (tAsg (tLst tNil) (gName 2))
  (tSeq (tFor (iRng1 (tCons (tVar 0) tNil)) (gName 3) (tSeq (tIfS (tTest (tOp rEq (tOp rModN (tCB rInt1 (tCons (tVar 1) tNil)) (tC (.int 2))) (tC (.int 1)))) (tDrop (tBM K "list" rAppend (tVar 2) (tCons (tVar 3) tNil))) tNext)
  (tAsg (tOp rDivW (tVar 1) (tC (.int 2))) (gName 1))))
  (tRet (tVar 2))))
def t_l_name (K : PySem.W.Frag) (E : XK) : TS :=
  (tSeq (tAsg (tC (.str "abcdefghijklmnopqrstuvwxyz")) (gName 1))
  (tSeq (tAsg (tC (.str "")) (gName 2))
  (tSeq (tFor (iRng1 (tCons (tOp rAddI (tC (.int 1)) (tOp rModN (tCB rInt1 (tCons (tVar 0) tNil)) (tC (.int 8)))) tNil)) (gName 3) (tSeq (tAsg (tOp rAddI (tOp rAddI (tOp rDivW (tVar 0) (tC (.int 8))) (tOp rMulW (tC (.int 31)) (tVar 3))) (tC (.int 5))) (gName 0))
  (tAsg (tOp rAddS (tVar 2) (tOp rIxS (tVar 1) (tOp rModN (tCB rInt1 (tCons (tVar 0) tNil)) (tC (.int 26))))) (gName 2))))
  (tRet (tVar 2)))))
def t_l_names (K : PySem.W.Frag) (E : XK) : TS :=
  (tSeq (tAsg (tC (.str "abcdefghijklmnopqrstuvwxyz")) (gName 1))
  (tSeq (tAsg (tLst tNil) (gName 2))
  (tSeq (tFor (iList K (tVar 0)) (gName 3) (tSeq (tAsg (tC1 (sp_l_name K) (wE E) (tCons (tVar 3) tNil)) (gName 4))
  (tSeq (tFor (iRng1 (tCons (tC (.int 8)) tNil)) (gName 5) (tIfS (tTest (tOp (rIn K false) (tVar 4) (tVar 2))) (tAsg (tOp rAddS (tSl rSlS (tVar 4) tNoPart (tPart (tUn rNegI (tC (.int 1))))) (tOp rIxS (tVar 1) (tOp rModN (tCB rInt1 (tCons (tOp rAddI (tBM K "str" rSIndex (tVar 1) (tCons (tOp rIxS (tVar 4) (tUn rNegI (tC (.int 1)))) tNil)) (tC (.int 1))) tNil)) (tC (.int 26))))) (gName 4)) tNext))
  (tDrop (tBM K "list" rAppend (tVar 2) (tCons (tVar 4) tNil))))))
  (tRet (tVar 2)))))
def t_l_gates (K : PySem.W.Frag) (E : XK) : TS :=
  (tSeq (tAsg (tC1 (sp_l_names K) (wE E) (tCons (tVar 0) tNil)) (gName 2))
  (tRet (tLc (iRng1 (tCons (tCB (rLenQ K) (tCons (tVar 2) tNil)) tNil)) (gName 3) tYes (tTup (tCons (tOp (rIxL K) (tVar 2) (tVar 3)) (tCons (tOp (rIxL K) (tVar 1) (tVar 3)) tNil))) [3])))
def t_l_is_int (K : PySem.W.Frag) (E : XK) : TS :=
  (tRet (tAndV (tCB (rIsi K) (tCons (tVar 0) (tCons (tC (.ty "int")) tNil))) (tNotV (tCB (rIsi K) (tCons (tVar 0) (tCons (tC (.ty "bool")) tNil))))))
def t_l_same (K : PySem.W.Frag) (sr : Sp) (E : XK) : TS :=
  (tSeq (tIfS (tTest (tOp rIsNo (tVar 1) (tC .non))) (tRet (tOp rIsNo (tVar 0) (tC .non))) tNext)
  (tSeq (tIfS (tTest (tOp rIsL (tVar 1) (tC (.bl true)))) (tRet (tOp rIsL (tVar 0) (tC (.bl true)))) tNext)
  (tSeq (tIfS (tTest (tOp rIsL (tVar 1) (tC (.bl false)))) (tRet (tOp rIsL (tVar 0) (tC (.bl false)))) tNext)
  (tSeq (tIfS (tB (tCB (rIsi K) (tCons (tVar 1) (tCons (tC (.ty "int")) tNil)))) (tRet (tAndV (tC1 (sp_l_is_int K) (wE E) (tCons (tVar 0) tNil)) (tOp rEq (tVar 0) (tVar 1)))) tNext)
  (tSeq (tIfS (tB (tCB (rIsi K) (tCons (tVar 1) (tCons (tC (.ty "str")) tNil)))) (tRet (tAndV (tCB (rIsi K) (tCons (tVar 0) (tCons (tC (.ty "str")) tNil))) (tOp rEq (tVar 0) (tVar 1)))) tNext)
  (tSeq (tIfS (tB (tCB (rIsi K) (tCons (tVar 1) (tCons (tC (.ty "tuple")) tNil)))) (tIfS (tOr (tNot (tB (tCB (rIsi K) (tCons (tVar 0) (tCons (tC (.ty "tuple")) tNil))))) (tTest (tOp rNe (tCB (rLenQ K) (tCons (tVar 0) tNil)) (tCB (rLenQ K) (tCons (tVar 1) tNil))))) (tRet (tC (.bl false))) tNext) (tIfS (tOr (tNot (tB (tCB (rIsi K) (tCons (tVar 0) (tCons (tC (.ty "list")) tNil))))) (tTest (tOp rNe (tCB (rLenQ K) (tCons (tVar 0) tNil)) (tCB (rLenQ K) (tCons (tVar 1) tNil))))) (tRet (tC (.bl false))) tNext))
  (tSeq (tFor (iRng1 (tCons (tCB (rLenQ K) (tCons (tVar 1) tNil)) tNil)) (gName 2) (tIfS (tNot (tB (tC1 sr (wE E) (tCons (fun σ H Q => (tOp (rIxL K) (tVar 0) (tVar 2)) σ H Q ∨ (tOp (rIxT K) (tVar 0) (tVar 2)) σ H Q) (tCons (fun σ H Q => (tOp (rIxL K) (tVar 1) (tVar 2)) σ H Q ∨ (tOp (rIxT K) (tVar 1) (tVar 2)) σ H Q) tNil))))) (tRet (tC (.bl false))) tNext))
  (tRet (tC (.bl true))))))))))
def t_l_number (K : PySem.W.Frag) (E : XK) : TS :=
  (tSeq (tAsg (tC1 (sp_l_drawsW K) (wE E) (tCons (tVar 0) (tCons (tVar 1) (tCons (tLst (tCons (tC (.int 2)) (tCons (tC (.int 2)) (tCons (tC (.int 60)) (tCons (tOp rPowI (tC (.int 10)) (tC (.int 59))) tNil))))) tNil)))) (gName 2))
  (tSeq (tAsg (tOp (rIxL K) (tLst (tCons (tOp (rIxL K) (tVar 2) (tC (.int 2))) (tCons (tOp (rIxL K) (tVar 2) (tC (.int 3))) tNil))) (tOp (rIxL K) (tVar 2) (tC (.int 1)))) (gName 3))
  (tRet (tOp (rIxL K) (tLst (tCons (tVar 3) (tCons (tOp rSubI (tC (.int 0)) (tVar 3)) tNil))) (tOp (rIxL K) (tVar 2) (tC (.int 0)))))))
def t_l_walked (K : PySem.W.Frag) (E : XK) : TS :=
  (tSeq (tAsg (tCB (rLenQ K) (tCons (tVar 0) tNil)) (gName 3))
  (tSeq (tAsg (tLst tNil) (gName 4))
  (tSeq (tFor (iRng1 (tCons (tVar 2) tNil)) (gName 5) (tDrop (tBM K "list" rAppend (tVar 4) (tCons (tLc (iRng1 (tCons (tVar 3) tNil)) (gName 9) tYes (tC (.int 0)) [9]) tNil))))
  (tSeq (tFor (iList K (tVar 1)) (gName 6) (tFor (iRng1 (tCons (tVar 3) tNil)) (gName 7) (tIfS (tTest (tOp rGeI (tOp (rIxL K) (tVar 0) (tVar 7)) (tC (.int 0)))) (tSeq (tAsg (tOp (rIxL K) (tVar 4) (tOp (rIxL K) (tVar 0) (tVar 7))) (gName 8))
  (tAsg (tOp rAddI (tOp (rIxL K) (tVar 8) (tOp rModN (tCB rInt1 (tCons (tOp rAddI (tVar 6) (tVar 7)) tNil)) (tVar 3))) (tC (.int 1))) (gSub (tVar 8) (tOp rModN (tCB rInt1 (tCons (tOp rAddI (tVar 6) (tVar 7)) tNil)) (tVar 3)) rSetL))) tNext)))
  (tRet (tVar 4))))))
def t_l_no_row (K : PySem.W.Frag) (E : XK) : TS :=
  (tSeq (tAsg (tC .non) (gName 2))
  (tSeq (tTry K (wE E) (fun W => (tDrop (tM1 (He.ga K "Crew") "row" (sp_Crew_row K) W (tVar 0) (tCons (tVar 1) tNil)))) [((.ref (He.ga K "NoPlace")), (some 3), fun a cls d => (tAsg (tTup (tCons (tCB (rIsXx K cls a d) (tCons (tVar 3) (tCons (tC (.ref (He.ga K "WatchError"))) tNil))) (tCons (tCB (rIsXx K cls a d) (tCons (tVar 3) (tCons (tC (.ty "ValueError")) tNil))) (tCons (tCB (rIsXx K cls a d) (tCons (tVar 3) (tCons (tC (.ref (He.ga K "OtherHours"))) tNil))) (tCons (tCB (rIsXx K cls a d) (tCons (tVar 3) (tCons (tC (.ref (He.ga K "BadNumber"))) tNil))) tNil))))) (gName 2)))])
  (tRet (tC1 (sp_l_same 2 K) (wE E) (tCons (tVar 2) (tCons (tTup (tCons (tC (.bl true)) (tCons (tC (.bl true)) (tCons (tC (.bl false)) (tCons (tC (.bl false)) tNil))))) tNil))))))
def t_l_works (K : PySem.W.Frag) (E : XK) : TS :=
  (tSeq (tAsg (tCB (rLenQ K) (tCons (tVar 1) tNil)) (gName 4))
  (tSeq (tAsg (tC .non) (gName 5))
  (tSeq (tAsg (tC .non) (gName 6))
  (tSeq (tTry K (wE E) (fun W => (tAsg (tM1 (He.ga K "Crew") "working" (sp_Crew_working K) W (tVar 0) (tCons (tVar 3) tNil)) (gName 5))) [((.ref (He.ga K "NoPlace")), (some 7), fun a cls d => (tAsg (tTup (tCons (tCB (rIsXx K cls a d) (tCons (tVar 7) (tCons (tC (.ref (He.ga K "WatchError"))) tNil))) (tCons (tCB (rIsXx K cls a d) (tCons (tVar 7) (tCons (tC (.ref (He.ga K "OtherHours"))) tNil))) (tCons (tCB (rIsXx K cls a d) (tCons (tVar 7) (tCons (tC (.ref (He.ga K "BadNumber"))) tNil))) tNil)))) (gName 6)))])
  (tSeq (tIfS (tTest (tOp (rIn K true) (tOp rModN (tCB rInt1 (tCons (tVar 3) tNil)) (tVar 4)) (tVar 2))) (tRet (tAndV (tOp rIsNo (tVar 5) (tC .non)) (tC1 (sp_l_same 2 K) (wE E) (tCons (tVar 6) (tCons (tTup (tCons (tC (.bl true)) (tCons (tC (.bl false)) (tCons (tC (.bl false)) tNil)))) tNil))))) tNext)
  (tSeq (tIfS (tOr (tTest (tOp rNotNo (tVar 6) (tC .non))) (tNot (tB (tC1 (sp_l_same 2 K) (wE E) (tCons (tFldI (He.ga K "Lot") "hours" (tVar 5)) (tCons (tVar 4) tNil)))))) (tRet (tC (.bl false))) tNext)
  (tRet (tC1 (sp_l_same 2 K) (wE E) (tCons (tProp (He.ga K "Lot") (sp_Lot_members K) [] E0 (tVar 5)) (tCons (tLc (iRng1 (tCons (tVar 4) tNil)) (gName 8) (tTest (tOp rGeI (tOp (rIxL K) (tVar 1) (tOp rModN (tCB rInt1 (tCons (tOp rSubI (tVar 8) (tVar 3)) tNil)) (tVar 4))) (tC (.int 0)))) (tVar 8) [8]) tNil))))))))))
def t_l_shows (K : PySem.W.Frag) (E : XK) : TS :=
  (tSeq (tAsg (tCB (rLenQ K) (tCons (tVar 2) tNil)) (gName 6))
  (tSeq (tAsg (tC1 (sp_l_walked K) (wE E) (tCons (tVar 2) (tCons (tVar 3) (tCons (tVar 4) tNil)))) (gName 7))
  (tSeq (tIfS (tOr (tNot (tB (tC1 (sp_l_same 2 K) (wE E) (tCons (tCB (rLenI (He.ga K "Crew") (sp_Crew_len K)) (tCons (tVar 0) tNil)) (tCons (tCB (rLenQ K) (tCons (tVar 3) tNil)) tNil))))) (tNot (tB (tC1 (sp_l_same 2 K) (wE E) (tCons (tFldI (He.ga K "Beat") "steps" (tFldI (He.ga K "Crew") "beat" (tVar 0))) (tCons (tCB (rTupOf K) (tCons (tVar 2) tNil)) tNil)))))) (tRet (tC (.bl false))) tNext)
  (tSeq (tIfS (tOr (tNot (tB (tC1 (sp_l_same 2 K) (wE E) (tCons (tFldI (He.ga K "Lot") "hours" (tFldI (He.ga K "Crew") "starts" (tVar 0))) (tCons (tVar 6) tNil))))) (tNot (tB (tC1 (sp_l_same 2 K) (wE E) (tCons (tProp (He.ga K "Lot") (sp_Lot_members K) [] E0 (tFldI (He.ga K "Crew") "starts" (tVar 0))) (tCons (tVar 3) tNil)))))) (tRet (tC (.bl false))) tNext)
  (tSeq (tIfS (tNot (tB (tC1 (sp_l_same 2 K) (wE E) (tCons (tEqI K (He.ga K "House") (sp_House_eq K) (wE E) (tFldI (He.ga K "Beat") "house" (tFldI (He.ga K "Crew") "beat" (tVar 0))) (tVar 1)) (tCons (tC (.bl true)) tNil))))) (tRet (tC (.bl false))) tNext)
  (tSeq (tFor (iRng1 (tCons (tVar 4) tNil)) (gName 8) (tSeq (tAsg (tM1 (He.ga K "Crew") "row" (sp_Crew_row K) (wE E) (tVar 0) (tCons (tVar 8) tNil)) (gName 9))
  (tSeq (tIfS (tOr (tNot (tB (tC1 (sp_l_same 2 K) (wE E) (tCons (tVar 9) (tCons (tOp (rIxL K) (tVar 7) (tVar 8)) tNil))))) (tNot (tB (tC1 (sp_l_same 2 K) (wE E) (tCons (tC1 (sp_meetings K) (wE E) (tCons (tM1 (He.ga K "Beat") "lot" (sp_Beat_lot K) (wE E) (tFldI (He.ga K "Crew") "beat" (tVar 0)) (tCons (tVar 8) tNil)) (tCons (tUnI (He.ga K "Lot") (sp_Lot_neg K) (wE E) (tFldI (He.ga K "Crew") "starts" (tVar 0))) tNil))) (tCons (tOp (rIxL K) (tVar 7) (tVar 8)) tNil)))))) (tRet (tC (.bl false))) tNext)
  (tSeq (tAsg (tC (.int 97)) (gSub (tVar 9) (tC (.int 0)) rSetL))
  (tSeq (tDrop (tBM K "list" rAppend (tVar 9) (tCons (tC (.int 1)) tNil)))
  (tIfS (tNot (tB (tC1 (sp_l_same 2 K) (wE E) (tCons (tM1 (He.ga K "Crew") "row" (sp_Crew_row K) (wE E) (tVar 0) (tCons (tVar 8) tNil)) (tCons (tOp (rIxL K) (tVar 7) (tVar 8)) tNil))))) (tRet (tC (.bl false))) tNext))))))
  (tSeq (tFor (iRng1 (tCons (tVar 6) tNil)) (gName 10) (tFor (iList K (tLst (tCons (tVar 10) (tCons (tOp rAddI (tVar 10) (tOp rMulW (tVar 6) (tOp (rIxL K) (tVar 5) (tC (.int 0))))) (tCons (tOp rSubI (tVar 10) (tOp rMulW (tVar 6) (tOp (rIxL K) (tVar 5) (tC (.int 1))))) tNil))))) (gName 11) (tIfS (tNot (tB (tC1 (sp_l_works K) (wE E) (tCons (tVar 0) (tCons (tVar 2) (tCons (tVar 3) (tCons (tVar 11) tNil))))))) (tRet (tC (.bl false))) tNext)))
  (tSeq (tFor (iList K (tLst (tCons (tUn rNegI (tC (.int 1))) (tCons (tVar 4) (tCons (tOp rAddI (tVar 4) (tOp (rIxL K) (tVar 5) (tC (.int 0)))) (tCons (tOp rSubI (tUn rNegI (tC (.int 2))) (tOp (rIxL K) (tVar 5) (tC (.int 1)))) tNil)))))) (gName 12) (tIfS (tNot (tB (tC1 (sp_l_no_row K) (wE E) (tCons (tVar 0) (tCons (tVar 12) tNil))))) (tRet (tC (.bl false))) tNext))
  (tRet (tC (.bl true)))))))))))
def t_l_other_ring (K : PySem.W.Frag) (E : XK) : TS :=
  (tSeq (tAsg (tC .non) (gName 2))
  (tSeq (tTry K (wE E) (fun W => (tDrop (tMk1 (He.ga K "Crew") (sp_Crew_init K) W (tCons (tVar 0) (tCons (tVar 1) tNil))))) [((.ref (He.ga K "OtherHours")), (some 3), fun a cls d => (tAsg (tTup (tCons (tCB (rIsXx K cls a d) (tCons (tVar 3) (tCons (tC (.ref (He.ga K "WatchError"))) tNil))) (tCons (tCB (rIsXx K cls a d) (tCons (tVar 3) (tCons (tC (.ty "ValueError")) tNil))) (tCons (tCB (rIsXx K cls a d) (tCons (tVar 3) (tCons (tC (.ref (He.ga K "OtherHouse"))) tNil))) (tCons (tCB (rIsXx K cls a d) (tCons (tVar 3) (tCons (tC (.ref (He.ga K "NoPlace"))) tNil))) tNil))))) (gName 2)))])
  (tRet (tC1 (sp_l_same 2 K) (wE E) (tCons (tVar 2) (tCons (tTup (tCons (tC (.bl true)) (tCons (tC (.bl true)) (tCons (tC (.bl false)) (tCons (tC (.bl false)) tNil))))) tNil))))))
def t_l_great (K : PySem.W.Frag) (E : XK) : TS :=
  (tSeq (tAsg (tMk1 (He.ga K "House") (sp_House_init K) (wE E) (tCons (tC (.int 24)) (tCons (tSl (rSlL K) (tVar 1) tNoPart (tPart (tC (.int 2)))) tNil))) (gName 2))
  (tSeq (tAsg (tCB (rLenQ K) (tCons (tSl (rSlL K) (tVar 1) tNoPart (tPart (tC (.int 2)))) tNil)) (gName 3))
  (tSeq (tAsg (tLc (iList K (tC1 (sp_l_drawsW K) (wE E) (tCons (tC1 (sp_l_cell K) (wE E) (tCons (tVar 0) (tCons (tC (.int 9)) tNil))) (tCons (tC (.int 10)) (tCons (tLc (iRng1 (tCons (tC (.int 24)) tNil)) (gName 9) tYes (tOp rAddI (tVar 3) (tC (.int 1))) [9]) tNil))))) (gName 10) tYes (tOp rSubI (tVar 10) (tC (.int 1))) [10]) (gName 4))
  (tSeq (tAsg (tC1 (sp_l_drawsW K) (wE E) (tCons (tC1 (sp_l_cell K) (wE E) (tCons (tVar 0) (tCons (tC (.int 10)) tNil))) (tCons (tC (.int 11)) (tCons (tLst (tCons (tC1 (sp_l_two K) (wE E) (tCons (tC (.int 24)) tNil)) (tCons (tC (.int 24)) tNil))) tNil)))) (gName 5))
  (tSeq (tAsg (tC1 (sp_l_bits K) (wE E) (tCons (tC (.int 24)) (tCons (tOp (rIxL K) (tVar 5) (tC (.int 0))) tNil))) (gName 6))
  (tSeq (tAsg (tMk1 (He.ga K "Crew") (sp_Crew_init K) (wE E) (tCons (tMk1 (He.ga K "Beat") (sp_Beat_init K) (wE E) (tCons (tVar 2) (tCons (tCB (rListOf K) (tCons (tVar 4) tNil)) tNil))) (tCons (tMk1 (He.ga K "Lot") (sp_Lot_init K) (wE E) (tCons (tC (.int 24)) (tCons (tCB (rListOf K) (tCons (tVar 6) tNil)) tNil))) tNil))) (gName 7))
  (tSeq (tAsg (tLc (iRng1 (tCons (tVar 3) tNil)) (gName 11) tYes (tM1 (He.ga K "Crew") "row" (sp_Crew_row K) w0 (tVar 7) (tCons (tVar 11) tNil)) [11]) (gName 8))
  (tRet (tAndV (tC1 (sp_l_same 2 K) (wE E) (tCons (tVar 8) (tCons (tC1 (sp_l_walked K) (wE E) (tCons (tVar 4) (tCons (tVar 6) (tCons (tVar 3) tNil)))) tNil))) (tC1 (sp_l_works K) (wE E) (tCons (tVar 7) (tCons (tVar 4) (tCons (tVar 6) (tCons (tOp (rIxL K) (tVar 5) (tC (.int 1))) tNil))))))))))))))
def t_l_unlike (K : PySem.W.Frag) (E : XK) : TS :=
  (tRet (tC1 (sp_l_same 2 K) (wE E) (tCons (tLc (iList K (tVar 1)) (gName 2) tYes (tNeI K (He.ga K "Crew") (sp_Crew_eq K) (tVar 0) (tVar 2)) [2]) (tCons (tOp rCat (tLst (tCons (tC (.bl false)) tNil)) (tLc (iList K (tSl (rSlL K) (tVar 1) (tPart (tC (.int 1))) tNoPart)) (gName 2) tYes (tC (.bl true)) [2])) tNil))))
def t_l_grown (K : PySem.W.Frag) (E : XK) : TS :=
  (tSeq (tAsg (tVar 0) (gName 3))
  (tSeq (tAug 3 (tVar 2) (tipI (He.ga K "Crew") (sp_Crew_lshift K)))
  (tRet (tAndV (tC1 (sp_l_same 2 K) (wE E) (tCons (tEqI K (He.ga K "Crew") (sp_Crew_eq K) (wE E) (tVar 3) (tVar 1)) (tCons (tC (.bl true)) tNil))) (tC1 (sp_l_same 2 K) (wE E) (tCons (tProp (He.ga K "Lot") (sp_Lot_members K) [] E0 (tFldI (He.ga K "Crew") "starts" (tVar 3))) (tCons (tProp (He.ga K "Lot") (sp_Lot_members K) [] E0 (tFldI (He.ga K "Crew") "starts" (tVar 1))) tNil)))))))
def t_law_29 (K : PySem.W.Frag) (E : XK) : TS :=
  (tSeq (tIfS (tAnd (tTest (tOp rNe (tVar 22) (tVar 3))) (tNot (tB (tC1 (sp_l_other_ring K) (wE E) (tCons (tVar 10) (tCons (tMk1 (He.ga K "Lot") (sp_Lot_init K) (wE E) (tCons (tVar 22) (tCons (tLc (iList K (tVar 8)) (gName 27) (tTest (tOp rLtI (tVar 27) (tVar 22))) (tVar 27) [27]) tNil))) tNil)))))) (tRet (tC (.bl false))) tNext)
  (tSeq (tAsg (tLc (iRng1 (tCons (tVar 2) tNil)) (gName 29) tYes (tTup (tCons (tOp (rIxT K) (tOp (rIxL K) (tVar 5) (tVar 29)) (tC (.int 0))) (tCons (tOp rModN (tCB rInt1 (tCons (tOp rAddI (tOp (rIxT K) (tOp (rIxL K) (tVar 5) (tVar 29)) (tC (.int 1))) (tC (.int 1))) tNil)) (tC (.int 61))) tNil))) [29]) (gName 23))
  (tSeq (tAsg (tMk1 (He.ga K "Crew") (sp_Crew_init K) (wE E) (tCons (tMk1 (He.ga K "Beat") (sp_Beat_init K) (wE E) (tCons (tMk1 (He.ga K "House") (sp_House_init K) (wE E) (tCons (tVar 3) (tCons (tCB (rListOf K) (tCons (tVar 5) tNil)) tNil))) (tCons (tCB (rListOf K) (tCons (tVar 7) tNil)) tNil))) (tCons (tMk1 (He.ga K "Lot") (sp_Lot_init K) (wE E) (tCons (tVar 3) (tCons (tCB (rListOf K) (tCons (tVar 8) tNil)) tNil))) tNil))) (gName 24))
  (tSeq (tAsg (tMk1 (He.ga K "Crew") (sp_Crew_init K) (wE E) (tCons (tMk1 (He.ga K "Beat") (sp_Beat_init K) (wE E) (tCons (tMk1 (He.ga K "House") (sp_House_init K) (wE E) (tCons (tVar 3) (tCons (tVar 23) tNil))) (tCons (tCB (rListOf K) (tCons (tVar 7) tNil)) tNil))) (tCons (tMk1 (He.ga K "Lot") (sp_Lot_init K) (wE E) (tCons (tVar 3) (tCons (tCB (rListOf K) (tCons (tVar 8) tNil)) tNil))) tNil))) (gName 25))
  (tSeq (tAsg (tLst (tCons (tEqI K (He.ga K "Crew") (sp_Crew_eq K) (wE E) (tVar 12) (tVar 24)) (tCons (tEqI K (He.ga K "Crew") (sp_Crew_eq K) (wE E) (tVar 24) (tVar 12)) (tCons (tEqI K (He.ga K "Crew") (sp_Crew_eq K) (wE E) (tBinN (He.ga K "Crew") (sp_Crew_lshift K) (wE E) (tVar 12) (tOp rMulW (tVar 3) (tOp (rIxL K) (tVar 9) (tC (.int 0))))) (tVar 12)) (tCons (tEqI K (He.ga K "Crew") (sp_Crew_eq K) (wE E) (tVar 12) (tVar 17)) (tCons (tEqI K (He.ga K "Crew") (sp_Crew_eq K) (wE E) (tVar 12) (tVar 18)) (tCons (tEqI K (He.ga K "Crew") (sp_Crew_eq K) (wE E) (tVar 12) (tVar 25)) (tCons (tEqI K (He.ga K "Crew") (sp_Crew_eq K) (wE E) (tVar 12) (tVar 10)) tNil)))))))) (gName 26))
  (tSeq (tIfS (tNot (tB (tC1 (sp_l_same 2 K) (wE E) (tCons (tVar 26) (tCons (tLst (tCons (tC (.bl true)) (tCons (tC (.bl true)) (tCons (tC (.bl true)) (tCons (tC (.bl false)) (tCons (tC (.bl false)) (tCons (tC (.bl false)) (tCons (tC (.bl false)) tNil)))))))) tNil))))) (tRet (tC (.bl false))) tNext)
  (tSeq (tIfS (tOr (tNot (tB (tC1 (sp_l_unlike K) (wE E) (tCons (tVar 12) (tCons (tLst (tCons (tVar 24) (tCons (tVar 17) (tCons (tVar 18) (tCons (tVar 25) (tCons (tVar 10) tNil)))))) tNil))))) (tNot (tB (tC1 (sp_l_grown K) (wE E) (tCons (tVar 12) (tCons (tVar 21) (tCons (tVar 19) tNil))))))) (tRet (tC (.bl false))) tNext)
  (tSeq (tIfS (tAnd (tTest (tOp rEq (tOp (rIxL K) (tVar 1) (tC (.int 2))) (tC (.int 3)))) (tNot (tB (tC1 (sp_l_great K) (wE E) (tCons (tVar 0) (tCons (tVar 5) tNil)))))) (tRet (tC (.bl false))) tNext)
  (tRet (tC1 (sp_l_shows K) (wE E) (tCons (tVar 12) (tCons (tVar 6) (tCons (tVar 7) (tCons (tVar 8) (tCons (tVar 2) (tCons (tVar 9) tNil))))))))))))))))
def t_law_22 (K : PySem.W.Frag) (E : XK) : TS :=
  (tSeq (tAsg (tC1 (sp_l_number K) (wE E) (tCons (tC1 (sp_l_cell K) (wE E) (tCons (tVar 0) (tCons (tC (.int 7)) tNil))) (tCons (tC (.int 8)) tNil))) (gName 19))
  (tSeq (tAsg (tC1 (sp_l_number K) (wE E) (tCons (tC1 (sp_l_cell K) (wE E) (tCons (tVar 0) (tCons (tC (.int 8)) tNil))) (tCons (tC (.int 9)) tNil))) (gName 20))
  (tSeq (tAsg (tBinN (He.ga K "Crew") (sp_Crew_lshift K) (wE E) (tVar 12) (tVar 19)) (gName 21))
  (tSeq (tIfS (tNot (tB (tC1 (sp_l_shows K) (wE E) (tCons (tVar 21) (tCons (tVar 6) (tCons (tVar 7) (tCons (tLc (iRng1 (tCons (tVar 3) tNil)) (gName 27) (tTest (tOp (rIn K false) (tOp rModN (tCB rInt1 (tCons (tOp rSubI (tVar 27) (tVar 19)) tNil)) (tVar 3)) (tVar 8))) (tVar 27) [27]) (tCons (tVar 2) (tCons (tVar 9) tNil))))))))) (tRet (tC (.bl false))) tNext)
  (tSeq (tIfS (tOr (tNot (tB (tC1 (sp_l_same 2 K) (wE E) (tCons (tEqI K (He.ga K "Crew") (sp_Crew_eq K) (wE E) (tBinN (He.ga K "Crew") (sp_Crew_lshift K) (wE E) (tVar 21) (tVar 20)) (tBinN (He.ga K "Crew") (sp_Crew_lshift K) (wE E) (tVar 12) (tOp rAddI (tVar 19) (tVar 20)))) (tCons (tC (.bl true)) tNil))))) (tNot (tB (tC1 (sp_l_same 2 K) (wE E) (tCons (tEqI K (He.ga K "Crew") (sp_Crew_eq K) (wE E) (tVar 21) (tMk1 (He.ga K "Crew") (sp_Crew_init K) (wE E) (tCons (tVar 10) (tCons (tBinN (He.ga K "Lot") (sp_Lot_lshift K) (wE E) (tVar 11) (tVar 19)) tNil)))) (tCons (tC (.bl true)) tNil)))))) (tRet (tC (.bl false))) tNext)
  (tSeq (tIfS (tNot (tB (tC1 (sp_l_same 2 K) (wE E) (tCons (tProp (He.ga K "Lot") (sp_Lot_members K) [] E0 (tFldI (He.ga K "Crew") "starts" (tBinN (He.ga K "Crew") (sp_Crew_lshift K) (wE E) (tVar 21) (tVar 20)))) (tCons (tLc (iRng1 (tCons (tVar 3) tNil)) (gName 27) (tTest (tOp (rIn K false) (tOp rModN (tCB rInt1 (tCons (tOp rSubI (tOp rSubI (tVar 27) (tVar 19)) (tVar 20)) tNil)) (tVar 3)) (tVar 8))) (tVar 27) [27]) tNil))))) (tRet (tC (.bl false))) tNext)
  (tSeq (tAsg (tOp (rIxL K) (tLst (tCons (tOp rAddI (tVar 3) (tC (.int 1))) (tCons (tOp rMulW (tC (.int 2)) (tVar 3)) (tCons (tCB rMax2 (tCons (tC (.int 1)) (tCons (tOp rSubI (tVar 3) (tC (.int 1))) tNil))) (tCons (tOp rAddI (tOp rAddI (tVar 3) (tC (.int 7))) (tOp (rIxL K) (tVar 13) (tC (.int 4)))) (tCons (tC (.int 360)) tNil)))))) (tOp (rIxL K) (tVar 13) (tC (.int 3)))) (gName 22))
  (t_law_29 K E))))))))
def t_law_12 (K : PySem.W.Frag) (E : XK) : TS :=
  (tSeq (tIfS (tNot (tB (tC1 (sp_l_shows K) (wE E) (tCons (tVar 12) (tCons (tVar 6) (tCons (tVar 7) (tCons (tVar 8) (tCons (tVar 2) (tCons (tVar 9) tNil))))))))) (tRet (tC (.bl false))) tNext)
  (tSeq (tAsg (tC1 (sp_l_drawsW K) (wE E) (tCons (tC1 (sp_l_cell K) (wE E) (tCons (tVar 0) (tCons (tC (.int 6)) tNil))) (tCons (tC (.int 7)) (tCons (tLst (tCons (tC (.int 10)) (tCons (tC (.int 10)) (tCons (tC (.int 4)) (tCons (tC (.int 5)) (tCons (tC (.int 61)) tNil)))))) tNil)))) (gName 13))
  (tSeq (tAsg (tOp rModN (tCB rInt1 (tCons (tOp (rIxL K) (tVar 13) (tC (.int 0))) tNil)) (tVar 3)) (gName 14))
  (tSeq (tAsg (tCB (rListOf K) (tCons (tVar 7) tNil)) (gName 15))
  (tSeq (tAsg (tOp rSubI (tOp rModN (tCB rInt1 (tCons (tOp rAddI (tOp rAddI (tOp (rIxL K) (tVar 7) (tVar 14)) (tC (.int 2))) (tOp rModN (tCB rInt1 (tCons (tOp (rIxL K) (tVar 13) (tC (.int 2))) tNil)) (tVar 2))) tNil)) (tOp rAddI (tVar 2) (tC (.int 1)))) (tC (.int 1))) (gSub (tVar 15) (tVar 14) rSetL))
  (tSeq (tAsg (tOp rModN (tCB rInt1 (tCons (tOp (rIxL K) (tVar 13) (tC (.int 1))) tNil)) (tVar 3)) (gName 14))
  (tSeq (tAsg (tLc (iRng1 (tCons (tVar 3) tNil)) (gName 27) (tTest (tOp rNe (tOp (rIn K false) (tVar 27) (tVar 8)) (tOp rEq (tVar 27) (tVar 14)))) (tVar 27) [27]) (gName 16))
  (tSeq (tAsg (tMk1 (He.ga K "Crew") (sp_Crew_init K) (wE E) (tCons (tMk1 (He.ga K "Beat") (sp_Beat_init K) (wE E) (tCons (tVar 6) (tCons (tCB (rListOf K) (tCons (tVar 15) tNil)) tNil))) (tCons (tVar 11) tNil))) (gName 17))
  (tSeq (tAsg (tMk1 (He.ga K "Crew") (sp_Crew_init K) (wE E) (tCons (tVar 10) (tCons (tMk1 (He.ga K "Lot") (sp_Lot_init K) (wE E) (tCons (tVar 3) (tCons (tCB (rListOf K) (tCons (tVar 16) tNil)) tNil))) tNil))) (gName 18))
  (tSeq (tIfS (tOr (tNot (tB (tC1 (sp_l_shows K) (wE E) (tCons (tVar 17) (tCons (tVar 6) (tCons (tVar 15) (tCons (tVar 8) (tCons (tVar 2) (tCons (tVar 9) tNil))))))))) (tNot (tB (tC1 (sp_l_shows K) (wE E) (tCons (tVar 18) (tCons (tVar 6) (tCons (tVar 7) (tCons (tVar 16) (tCons (tVar 2) (tCons (tVar 9) tNil)))))))))) (tRet (tC (.bl false))) tNext)
  (t_law_22 K E)))))))))))
def t_law (K : PySem.W.Frag) (E : XK) : TS :=
  (tSeq (tAsg (tC1 (sp_l_drawsW K) (wE E) (tCons (tC1 (sp_l_cell K) (wE E) (tCons (tVar 0) (tCons (tC (.int 0)) tNil))) (tCons (tC (.int 1)) (tCons (tLst (tCons (tC (.int 4)) (tCons (tC (.int 10)) (tCons (tC (.int 4)) tNil)))) tNil)))) (gName 1))
  (tSeq (tAsg (tOp rAddI (tC (.int 1)) (tOp (rIxL K) (tVar 1) (tC (.int 0)))) (gName 2))
  (tSeq (tAsg (tOp rAddI (tC (.int 1)) (tOp (rIxL K) (tVar 1) (tC (.int 1)))) (gName 3))
  (tSeq (tAsg (tC1 (sp_l_drawsW K) (wE E) (tCons (tC1 (sp_l_cell K) (wE E) (tCons (tVar 0) (tCons (tC (.int 1)) tNil))) (tCons (tC (.int 2)) (tCons (tLst (tCons (tOp rPowI (tC (.int 10)) (tC (.int 12))) (tCons (tOp rPowI (tC (.int 10)) (tC (.int 12))) (tCons (tOp rPowI (tC (.int 10)) (tC (.int 12))) (tCons (tOp rPowI (tC (.int 10)) (tC (.int 12))) tNil))))) tNil)))) (gName 4))
  (tSeq (tAsg (tC1 (sp_l_gates K) (wE E) (tCons (tSl (rSlL K) (tVar 4) tNoPart (tPart (tVar 2))) (tCons (tC1 (sp_l_drawsW K) (wE E) (tCons (tC1 (sp_l_cell K) (wE E) (tCons (tVar 0) (tCons (tC (.int 2)) tNil))) (tCons (tC (.int 3)) (tCons (tLst (tCons (tC (.int 61)) (tCons (tC (.int 61)) (tCons (tC (.int 61)) (tCons (tC (.int 61)) tNil))))) tNil)))) tNil))) (gName 5))
  (tSeq (tAsg (tMk1 (He.ga K "House") (sp_House_init K) (wE E) (tCons (tVar 3) (tCons (tCB (rListOf K) (tCons (tVar 5) tNil)) tNil))) (gName 6))
  (tSeq (tAsg (tLc (iList K (tC1 (sp_l_drawsW K) (wE E) (tCons (tC1 (sp_l_cell K) (wE E) (tCons (tVar 0) (tCons (tC (.int 3)) tNil))) (tCons (tC (.int 4)) (tCons (tLc (iRng1 (tCons (tVar 3) tNil)) (gName 27) tYes (tOp rAddI (tVar 2) (tC (.int 1))) [27]) tNil))))) (gName 28) tYes (tOp rSubI (tVar 28) (tC (.int 1))) [28]) (gName 7))
  (tSeq (tAsg (tC1 (sp_l_bits K) (wE E) (tCons (tVar 3) (tCons (tOp (rIxL K) (tC1 (sp_l_drawsW K) (wE E) (tCons (tC1 (sp_l_cell K) (wE E) (tCons (tVar 0) (tCons (tC (.int 4)) tNil))) (tCons (tC (.int 5)) (tCons (tLst (tCons (tC1 (sp_l_two K) (wE E) (tCons (tVar 3) tNil)) tNil)) tNil)))) (tC (.int 0))) tNil))) (gName 8))
  (tSeq (tAsg (tC1 (sp_l_drawsW K) (wE E) (tCons (tC1 (sp_l_cell K) (wE E) (tCons (tVar 0) (tCons (tC (.int 5)) tNil))) (tCons (tC (.int 6)) (tCons (tLst (tCons (tOp rPowI (tC (.int 10)) (tC (.int 57))) (tCons (tOp rPowI (tC (.int 10)) (tC (.int 57))) tNil))) tNil)))) (gName 9))
  (tSeq (tAsg (tMk1 (He.ga K "Beat") (sp_Beat_init K) (wE E) (tCons (tVar 6) (tCons (tCB (rListOf K) (tCons (tVar 7) tNil)) tNil))) (gName 10))
  (tSeq (tAsg (tMk1 (He.ga K "Lot") (sp_Lot_init K) (wE E) (tCons (tVar 3) (tCons (tCB (rListOf K) (tCons (tVar 8) tNil)) tNil))) (gName 11))
  (tSeq (tAsg (tMk1 (He.ga K "Crew") (sp_Crew_init K) (wE E) (tCons (tVar 10) (tCons (tVar 11) tNil))) (gName 12))
  (t_law_12 K E)))))))))))))
end Bw

namespace Bw
open PySem PySem.Spec PyProof.Rows L2
local macro_rules
  | `(tactic| bv_omega) => `(tactic| simp only [L2.start, tSeq, tIfS, tNot, tTest, tChain, tOp, tUn, tC, tVar, rI0, rI, rU, tRet, tAsg, gName, tNext, tRetN, tDrop, tB, tAnd, tOr, tIf, tAndV, tOrV, tNotV, tCB, tC1, tNil, tCons, tFldI, tConI, tYes, tPar, tRse, tMkP, tMkE, wE, WE, tBinI, tBinN, tUnI, tMk1, tM1, tRefI, tTup, tLst, tSl, tNoPart, tPart,
      rIxL, rIxT, rIxS, rLenQ, rLenStr, rAbs, rMin2, rMax2, rListOf, rIsNo, rNotNo, rIsL, rAddS, rCat, rRep, rSetL, rAppend, rExtend, tBM, gSub, gTup, gCons, gNil, iList, iTup, iRng1, iRng2, rEq, rNe,
      List.map_cons, List.map_nil, List.length_cons, List.length_nil, List.replicate_succ, List.replicate_zero, List.cons_append, List.nil_append, List.append_nil, List.set_cons_zero, List.set_cons_succ, List.getElem?_cons_zero, List.getElem?_cons_succ, Nat.reduceAdd, Nat.reduceSub,
      Option.some.injEq, exists_eq_left', V.int.injEq, V.bl.injEq, V.ref.injEq, V.str.injEq, List.cons.injEq, and_true, true_and, exists_and_left, Bool.not_true, Bool.not_false, Bool.false_eq_true, if_false, if_true, reduceIte, decide_eq_true_eq, Bool.not_eq_true', decide_eq_false_iff_not, HO.ins.injEq, HO.lst.injEq, HO.tup.injEq, lot_h, lot_m, L2.wipe, rInt1_int])
local macro_rules | `(tactic| k_extra "ext1") => `(tactic| first | (with_reducible assumption) | ((with_reducible refine' ext_new ?n); (case n => (with_reducible assumption))))
local macro_rules | `(tactic| k_extra "hp") => `(tactic| first | (with_reducible assumption) | (with_reducible exact upd_same) | ((with_reducible refine' Ext.ap ?x ?h); (case x => k_extra "ext1"); (case h => k_extra "hp")) | ((with_reducible refine' up_ne ?x ?h); (case x => first | assumption | exact Ne.symm (by assumption)); (case h => k_extra "hp")))
local macro_rules | `(tactic| k_extra "ext") => `(tactic| first | (with_reducible assumption) | (with_reducible exact Ext.refl _) | ((with_reducible refine' Ext.of ?x ?h); (case x => k_extra "ext1"); (case h => k_extra "ext")))
local macro_rules | `(tactic| k_extra "sq") => `(tactic| first | (with_reducible assumption) | ((with_reducible refine' sqL_of ?h); (case h => k_extra "hp")) | ((with_reducible refine' sqT_of ?h); (case h => k_extra "hp")) | ((with_reducible refine' sqL_ext ?x ?h); (case x => k_extra "ext1"); (case h => k_extra "sq")) | ((with_reducible refine' sqT_ext ?x ?h); (case x => k_extra "ext1"); (case h => k_extra "sq")))
local macro_rules | `(tactic| k_extra "per") => `(tactic| first | (with_reducible assumption) | ((with_reducible refine' LotAt.exs ?x ?h); (case x => k_extra "ext1"); (case h => k_extra "per")) | ((with_reducible refine' HouseAt.exs ?x ?h); (case x => k_extra "ext1"); (case h => k_extra "per")) | ((with_reducible refine' BeatAt.exs ?x ?h); (case x => k_extra "ext1"); (case h => k_extra "per")) | ((with_reducible refine' CrewAt.exs ?x ?h); (case x => k_extra "ext1"); (case h => k_extra "per")) | ((with_reducible refine' Dn.exs ?x ?h); (case x => k_extra "ext1"); (case h => k_extra "per")) | (k_extra "sq") | (k_extra "hp") | (k_extra "ext"))
local macro_rules | `(tactic| k_extra "step") => `(tactic| first
  | ((with_reducible refine' w_var (e := ?e) ?_); (case e => with_unfolding_all exact rfl))
  | ((with_reducible refine' w_nameE (e := ?e) ?_); (case e => ((try simp only [List.set_cons_zero, List.set_cons_succ]); exact rfl)))
  | ((with_reducible refine' w_suite (e := ?e) ?_); (case e => ((try simp only [List.set_cons_zero, List.set_cons_succ]); exact rfl)))
  | ((with_reducible refine' w_clr (e := ?e) ?_); (case e => ((try simp only [List.set_cons_zero, List.set_cons_succ]); exact rfl)))
  | (with_reducible refine w_c ?_)
  | (with_reducible refine w_seq ?_)
  | (with_reducible refine w_asg ?_)
  | (with_reducible refine w_cons ?_)
  | (with_reducible refine w_nil ?_)
  | (with_reducible refine w_op ?_)
  | (with_reducible refine w_c1 ?_)
  | (with_reducible refine w_rI0 ?_)
  | (with_reducible refine w_fldI ?_)
  | (with_reducible refine w_cB ?_)
  | (with_reducible refine w_ret ?_)
  | (with_reducible refine w_drop ?_)
  | (with_reducible refine w_next ?_)
  | (with_reducible refine w_ifS ?_)
  | (with_reducible refine w_test ?_)
  | (with_reducible refine w_b ?_)
  | (with_reducible refine w_bl ?_)
  | (with_reducible refine w_not ?_)
  | (with_reducible refine w_un ?_)
  | (with_reducible refine w_rU ?_)
  | ((with_reducible refine' w_fldR (e := ?e) (l := ?l) ?_); (case e => k_extra "hp"); (case l => with_unfolding_all exact rfl))
  | ((with_reducible refine' w_insR (e := ?e) ?_); (case e => k_extra "hp"))
  | ((with_reducible refine' w_lkn (e := ?e) ?_); (case e => with_unfolding_all exact rfl))
  | ((with_reducible refine' w_lenL (s := ?s) ?_); (case s => k_extra "sq"))
  | ((with_reducible refine' w_lenT (s := ?s) ?_); (case s => k_extra "sq"))
  | (with_reducible refine w_rEqI ?_)
  | (with_reducible refine w_rNeI ?_)
  | (with_reducible refine w_int1 ?_)
  | (with_reducible refine w_prop ?_)
  | (with_reducible refine w_m1 ?_)
  | (with_reducible refine w_lst ?_)
  | (with_reducible refine w_tup ?_)
  | (with_reducible refine w_iL ?_)
  | (with_reducible refine w_rng1 ?_)
  | (with_reducible refine w_for ?_)
  | (with_reducible refine w_lc ?_)
  | (with_reducible refine w_gSub ?_)
  | (with_reducible refine w_bm ?_)
  | (with_reducible refine w_and ?_)
  | (with_reducible refine w_or ?_)
  | (with_reducible refine w_if ?_)
  | (with_reducible refine w_andV ?_)
  | (with_reducible refine w_orV ?_)
  | (with_reducible refine w_notV ?_)
  | (with_reducible refine w_yes ?_)
  | (with_reducible refine w_retN ?_)
  | (with_reducible refine w_rEqS ?_)
  | (with_reducible refine w_rNeS ?_)
  | (with_reducible refine w_rEqB ?_)
  | (with_reducible refine w_rNeB ?_)
  | (with_reducible refine w_isNoN ?_)
  | (with_reducible refine w_isNoR ?_)
  | (with_reducible refine w_isNoI ?_)
  | (with_reducible refine w_notNoN ?_)
  | (with_reducible refine w_notNoR ?_)
  | (with_reducible refine w_notNoI ?_)
  | (with_reducible refine w_isL ?_)
  | (with_reducible refine w_chain ?_)
  | (with_reducible refine w_abs ?_)
  | (with_reducible refine w_min2 ?_)
  | (with_reducible refine w_max2 ?_)
  | (with_reducible refine w_mk1 ?_)
  | (with_reducible refine w_unI ?_)
  | (with_reducible refine w_binN ?_)
  | (with_reducible refine w_binI ?_)
  | (with_reducible refine w_exI ?_)
  | (with_reducible refine w_inO ?_)
  | (with_reducible refine w_eqI ?_)
  | (with_reducible refine w_ixI ?_)
  | (with_reducible refine w_conI ?_)
  | (with_reducible refine w_sl ?_)
  | (with_reducible refine w_noPart ?_)
  | (with_reducible refine w_part ?_)
  | (with_reducible refine w_exP ?_)
  | (with_reducible refine w_exB ?_)
  | (with_reducible refine w_sFldI ?_)
  | (with_reducible refine ite_tt ?_)
  | (with_reducible refine ite_ff ?_)
  | (with_reducible refine ite_ntt ?_)
  | (with_reducible refine ite_nff ?_)
  | (with_reducible refine w_rse ?_)
  | (with_reducible refine w_mkP ?_)
  | (with_reducible refine w_mkE ?_)
  | (with_reducible refine w_iT ?_)
  | (with_reducible refine w_rng2 ?_)
  | (with_reducible refine w_iOwn ?_)
  | (with_reducible refine w_gCons ?_)
  | (with_reducible refine w_gNil ?_)
  | (with_reducible refine w_iStr ?_)
  | (with_reducible refine w_strR ?_)
  | (with_reducible refine w_try ?_)
  | (with_reducible refine w_neI ?_)
  | (with_reducible refine w_suiteN ?_)
  | (with_reducible refine w_clrR ?_)
  | ((with_reducible refine' w_tupR (l := ?l) ?_); (case l => with_unfolding_all exact rfl); intro _ _)
  | ((with_reducible refine' w_lstR (l := ?l) ?_); (case l => with_unfolding_all exact rfl); intro _ _)
  | ((with_reducible refine' w_ixL (s := ?s) (e := ?e) ?_); (case s => k_extra "sq"); (case e => with_unfolding_all exact rfl))
  | ((with_reducible refine' w_ixT (s := ?s) (e := ?e) ?_); (case s => k_extra "sq"); (case e => with_unfolding_all exact rfl))
  | ((with_reducible refine' w_listOfL (s := ?s) ?_); (case s => k_extra "sq"); intro _ _)
  | ((with_reducible refine' w_listOfT (s := ?s) ?_); (case s => k_extra "sq"); intro _ _)
  | ((with_reducible refine' w_slL (s := ?s) ?_); (case s => k_extra "sq"); intro _ _)
  | ((with_reducible refine' w_tyL (s := ?s) ?_); (case s => k_extra "sq"))
  | ((with_reducible refine' w_modN (hj := ?hj) ?_); (case hj => first | (with_reducible assumption) | omega))
  | ((with_reducible refine' w_mulW (hi := ?hi) (hj := ?hj) ?_); (case hi => first | (with_reducible assumption) | omega); (case hj => first | (with_reducible assumption) | omega))
  | ((with_reducible refine' w_divW (hj := ?hj) (hj2 := ?hj2) ?_); (case hj => first | (with_reducible assumption) | omega); (case hj2 => first | (with_reducible assumption) | omega))
  | ((with_reducible refine' ite_yes (hp := ?hp) ?_); (case hp => first | (with_reducible assumption) | omega))
  | ((with_reducible refine' ite_no (hp := ?hp) ?_); (case hp => first | (with_reducible assumption) | omega))
  | ((with_reducible refine' ite_nyes (hp := ?hp) ?_); (case hp => first | (with_reducible assumption) | omega))
  | ((with_reducible refine' ite_nno (hp := ?hp) ?_); (case hp => first | (with_reducible assumption) | omega))
  | ((with_reducible refine' w_itR (s := ?s) ?_); (case s => k_extra "sq"))
  | ((with_reducible refine' w_itTR (s := ?s) ?_); (case s => k_extra "sq"))
  | ((with_reducible refine' w_iOwnR (e := ?e) (s := ?s) ?_); (case e => with_unfolding_all exact rfl); (case s => k_extra "sq"))
  | ((with_reducible refine' w_rngR (h1 := ?h1) (h2 := ?h2) ?_); (case h1 => first | (with_reducible assumption) | omega); (case h2 => first | (with_reducible assumption) | omega))
  | ((with_reducible refine' w_rng2R (h1 := ?h1) ?_); (case h1 => first | (with_reducible assumption) | omega))
  | ((with_reducible refine' w_flen (e := ?e) ?_); (case e => with_unfolding_all exact rfl))
  | ((with_reducible refine' w_gTup (s := ?s) (l := ?l) ?_); (case s => k_extra "sq"); (case l => with_unfolding_all exact rfl))
  | ((with_reducible refine' w_tupOf (s := ?s) ?_); (case s => k_extra "sq"); intro _ _)
  | ((with_reducible refine' w_lenHouse (h := ?h) ?_); (case h => k_extra "per"))
  | ((with_reducible refine' w_lenLot (h := ?h) ?_); (case h => k_extra "per"))
  | ((with_reducible refine' w_lenCrew (h := ?h) ?_); (case h => k_extra "per"))
  | ((with_reducible refine' w_pow (hc := ?hc) (e := ?e) ?_); (case hc => exact ⟨by decide, by decide, by decide⟩); (case e => (simp only [Int.reduceToNat]; exact rfl)))
  | ((with_reducible refine' w_tupOfT (s := ?s) ?_); (case s => k_extra "sq")))
local macro_rules | `(tactic| k_extra "go") => `(tactic| repeat k_extra "step")
local macro_rules | `(tactic| k_extra "st") => `(tactic| simp only [L2.start, List.map_cons, List.map_nil, List.length_cons, List.length_nil, Nat.reduceAdd, Nat.reduceSub, List.replicate_succ, List.replicate_zero, List.cons_append, List.nil_append, List.append_nil])
theorem pure_House_len {K : PySem.W.Frag} (F : KFH K) (vs : List V) (H : Hp) (Q : VK) (E : XK) (h : sp_House_len K vs H Q E) : t_House_len K E { nx := fun _ H' => Q .non H', rt := Q } (start ["self"] vs) H := by
  obtain ⟨a, A, rfl, ⟨ok, dx, na, st, h1, h2, h3⟩, q⟩ := h
  k_extra "st"; unfold t_House_len; k_extra "go"
  rw [List.length_map]
  exact q
theorem pure_Beat_getitem {K : PySem.W.Frag} (F : KFH K) (vs : List V) (H : Hp) (Q : VK) (E : XK) (h : sp_Beat_getitem K vs H Q E) : t_Beat_getitem K E { nx := fun _ H' => Q .non H', rt := Q } (start ["self", "at"] vs) H := by
  obtain ⟨a, t, B, rfl, ⟨ok, dx, hh, st, h1, h2, h3⟩, q⟩ := h
  have n1 := h2.1.n1
  have l1 := ok.len
  k_extra "st"; unfold t_Beat_getitem; k_extra "go"
  rw [List.length_map, l1]
  have r := emod_rng n1 t
  k_extra "go"
  refine w_ixT (by k_extra "sq") (atT_int r.1 (by omega)) ?_
  exact q
theorem pure_Crew_init {K : PySem.W.Frag} (F : KFH K) (vs : List V) (H : Hp) (Q : VK) (E : XK) (h : sp_Crew_init K vs H Q E) : t_Crew_init K E { nx := fun _ H' => Q .non H', rt := Q } (start ["self", "beat", "starts"] vs) H := by
  obtain ⟨a, dx, b, l, n, B, ms, rfl, e, ⟨ok, dx', hh, st, h1, ⟨ok2, dx2, na, sk, g1, g2, g3⟩, h3⟩, ⟨lk, dl, lm, l1, l2⟩, ne1, ne2, q⟩ := h
  k_extra "st"; unfold t_Crew_init; k_extra "go"
  by_cases hn : n = B.h.n
  · rw [if_pos hn] at q
    k_extra "go"
    refine q _ (fun b o nb e => by rw [upd_ne nb, upd_ne nb]; exact e) ?_
    rw [upd_same]
    rfl
  · rw [if_neg hn] at q
    k_extra "go"
    exact q _ (Ext.refl _)
theorem pure_Crew_len {K : PySem.W.Frag} (F : KFH K) (vs : List V) (H : Hp) (Q : VK) (E : XK) (h : sp_Crew_len K vs H Q E) : t_Crew_len K E { nx := fun _ H' => Q .non H', rt := Q } (start ["self"] vs) H := by
  obtain ⟨a, C, rfl, ⟨dx, b, l, h1, h2, L⟩, q⟩ := h
  obtain ⟨ok, dl, lm, l1, l2⟩ := id L
  have := ok.len
  k_extra "st"; unfold t_Crew_len; k_extra "go"
  exact q
theorem pure_Crew_lshift {K : PySem.W.Frag} (F : KFH K) (vs : List V) (H : Hp) (Q : VK) (E : XK) (h : sp_Crew_lshift K vs H Q E) : t_Crew_lshift K E { nx := fun _ H' => Q .non H', rt := Q } (start ["self", "other"] vs) H := by
  obtain ⟨a, k, C, rfl, ⟨dx, b, l, h1, B, L⟩, q⟩ := h
  obtain ⟨ok, dl, lm, l1, l2⟩ := id L
  k_extra "st"; unfold t_Crew_lshift; k_extra "go"
  refine ⟨l, C.b.h.n, k, C.starts, rfl, L, fun H' m x1 M => ?_⟩
  k_extra "go"
  exact made_crew (by k_extra "per") M fun H2 a2 x2 A => q _ _ (by k_extra "ext") A
theorem pure_House_eq {K : PySem.W.Frag} (F : KFH K) (vs : List V) (H : Hp) (Q : VK) (E : XK) (h : sp_House_eq K vs H Q E) : t_House_eq K E { nx := fun _ H' => Q .non H', rt := Q } (start ["self", "other"] vs) H := by
  obtain ⟨a, y, A, rfl, ⟨ok, dx, na, st, h1, h2, h3⟩, q⟩ := h
  k_extra "st"; unfold t_House_eq; k_extra "go"
  rcases q with ⟨b, B, rfl, ⟨ok', dx', na', st', g1, g2, g3⟩, q⟩ | ⟨t, ty, k, q⟩
  · refine w_isiC (insAll_ok F.house g1) kit_self ?_
    k_extra "go"
    refine ite_two (fun e => ?_) fun e => ?_
    · k_extra "go"
      refine w_eqTS (by k_extra "sq") (by k_extra "sq") (fun x hx => name_ok (ok.nm x hx)) (fun x hx => name_ok (ok'.nm x hx)) ?_
      k_extra "go"
      refine ite_two (fun e2 => ?_) fun e2 => ?_
      · k_extra "go"
        refine w_eqTI (by k_extra "sq") (by k_extra "sq") ?_
        rw [show decide (A.stakes = B.stakes) = decide (A = B) from decide_eq_decide.mpr ⟨fun h => by cases A; cases B; dsimp only at e e2 h; rw [e, e2, h], fun h => by rw [h]⟩]
        exact q
      · rw [show decide (A = B) = false from decide_eq_false fun h => e2 (by rw [h])] at q
        exact q
    · rw [show decide (A = B) = false from decide_eq_false fun h => e (by rw [h])] at q
      exact q
  · refine w_isiC ty k ?_
    k_extra "go"
    exact q
theorem pure_Beat_eq {K : PySem.W.Frag} (F : KFH K) (vs : List V) (H : Hp) (Q : VK) (E : XK) (h : sp_Beat_eq K vs H Q E) : t_Beat_eq K E { nx := fun _ H' => Q .non H', rt := Q } (start ["self", "other"] vs) H := by
  obtain ⟨a, y, A, rfl, ⟨ok, dx, hh, st, h1, h2, h3⟩, q⟩ := h
  k_extra "st"; unfold t_Beat_eq; k_extra "go"
  rcases q with ⟨b, B, rfl, ⟨ok', dx', hh', st', g1, g2, g3⟩, q⟩ | ⟨t, ty, k, q⟩
  · refine w_isiC (insAll_ok F.beat g1) kit_self ?_
    k_extra "go"
    obtain ⟨_, dh, _, _, e1, _⟩ := id h2
    obtain ⟨_, dh', _, _, e1', _⟩ := id g2
    refine ⟨_, _, _, _, rfl, e1, insAll_ok F.house e1', F.nfh, hh, .ref hh', A.h, rfl, h2, .inl ⟨hh', B.h, rfl, g2, ?_⟩⟩
    k_extra "go"
    refine ite_two (fun e => ?_) fun e => ?_
    · k_extra "go"
      refine w_eqTI (by k_extra "sq") (by k_extra "sq") ?_
      rw [show decide (A.steps = B.steps) = decide (A = B) from decide_eq_decide.mpr ⟨fun h => by cases A; cases B; dsimp only at e h; rw [e, h], fun h => by rw [h]⟩]
      exact q
    · rw [show decide (A = B) = false from decide_eq_false fun h => e (by rw [h])] at q
      exact q
  · refine w_isiC ty k ?_
    k_extra "go"
    exact q
theorem pure_Lot_contains {K : PySem.W.Frag} (F : KFH K) (vs : List V) (H : Hp) (Q : VK) (E : XK) (h : sp_Lot_contains K vs H Q E) : t_Lot_contains K E { nx := fun _ H' => Q .non H', rt := Q } (start ["self", "number"] vs) H := by
  obtain ⟨a, n, m, ms, rfl, ⟨ok, dx, lm, l1, l2⟩, q⟩ := h
  have n1 := ok.n1
  k_extra "st"; unfold t_Lot_contains; k_extra "go"
  exact w_inI (.inl (by k_extra "sq")) q
theorem pure_Lot_eq {K : PySem.W.Frag} (F : KFH K) (vs : List V) (H : Hp) (Q : VK) (E : XK) (h : sp_Lot_eq K vs H Q E) : t_Lot_eq K E { nx := fun _ H' => Q .non H', rt := Q } (start ["self", "other"] vs) H := by
  obtain ⟨a, b, n, n', ms, ms', rfl, ⟨ok, dx, lm, l1, l2⟩, ⟨ok', dx', lm', l1', l2'⟩, q⟩ := h
  k_extra "st"; unfold t_Lot_eq; k_extra "go"
  refine w_isiC (insAll_ok F.lot l1') kit_self ?_
  k_extra "go"
  refine ite_two (fun e => ?_) fun e => ?_
  · k_extra "go"
    refine w_eqLI (by k_extra "sq") (by k_extra "sq") ?_
    rw [show decide (ms = ms') = decide (n = n' ∧ ms = ms') from decide_eq_decide.mpr ⟨fun h => ⟨e, h⟩, fun h => h.2⟩]
    exact q
  · rw [show decide (n = n' ∧ ms = ms') = false from decide_eq_false fun h => e h.1] at q
    exact q
theorem pure_Crew_eq {K : PySem.W.Frag} (F : KFH K) (vs : List V) (H : Hp) (Q : VK) (E : XK) (h : sp_Crew_eq K vs H Q E) : t_Crew_eq K E { nx := fun _ H' => Q .non H', rt := Q } (start ["self", "other"] vs) H := by
  obtain ⟨a, y, A, rfl, ⟨dx, b, l, h1, h2, h3⟩, q⟩ := h
  k_extra "st"; unfold t_Crew_eq; k_extra "go"
  rcases q with ⟨c, B, rfl, ⟨dx', b', l', g1, g2, g3⟩, q⟩ | ⟨t, ty, k, q⟩
  · refine w_isiC (insAll_ok F.crew g1) kit_self ?_
    k_extra "go"
    obtain ⟨_, dh, _, _, e1, _⟩ := id h2
    obtain ⟨_, dh', _, _, e1', _⟩ := id g2
    refine ⟨_, _, _, _, rfl, e1, insAll_ok F.beat e1', F.nfb, b, .ref b', A.b, rfl, h2, .inl ⟨b', B.b, rfl, g2, ?_⟩⟩
    k_extra "go"
    refine ite_two (fun e => ?_) fun e => ?_
    · k_extra "go"
      obtain ⟨_, _, _, f1, _⟩ := id h3
      obtain ⟨_, _, _, f1', _⟩ := id g3
      refine ⟨_, _, _, _, rfl, f1, insAll_ok F.lot f1', F.nfl, l, l', _, _, _, _, rfl, h3, g3, ?_⟩
      rw [show decide (A.b.h.n = B.b.h.n ∧ A.starts = B.starts) = decide (A = B) from decide_eq_decide.mpr ⟨fun h => by cases A; cases B; dsimp only at e h; rw [e, h.2], fun h => by rw [h]; exact ⟨rfl, rfl⟩⟩]
      exact q
    · rw [show decide (A = B) = false from decide_eq_false fun h => e (by rw [h])] at q
      exact q
  · refine w_isiC ty k ?_
    k_extra "go"
    exact q
theorem pure_Beat_lot {K : PySem.W.Frag} (F : KFH K) (vs : List V) (H : Hp) (Q : VK) (E : XK) (h : sp_Beat_lot K vs H Q E) : t_Beat_lot K E { nx := fun _ H' => Q .non H', rt := Q } (start ["self", "gate", "hours", "hour"] vs) H := by
  obtain ⟨a, g, B, rfl, ⟨ok, dx, hh, st, h1, h2, h3⟩, q⟩ := h
  obtain ⟨ok2, dx2, na, sk, g1, g2, g3⟩ := id h2
  have n1 := ok2.n1
  have n2 := ok2.n2
  have l1 := ok.len
  have l4 := ok2.g2
  k_extra "st"; unfold t_Beat_lot; k_extra "go"
  refine ite_two (fun e1 => ?_) fun e1 => ?_
  · k_extra "go"
    by_cases e2 : g < B.h.names.length
    · rw [if_pos ⟨e1, e2⟩] at q
      k_extra "go"
      refine fun D hD => lcF (xs := rngV 0 B.h.n.toNat) (fI fun i => if B.at_ i = g then some i else none) hD (fun _ _ => src_rng) (by rw [rngV_len, sizeLine_eq]; omega) ?_ ?_
      · intro x hx H' e R N hR hN
        rw [rng_ring] at hx
        obtain ⟨i, hi, rfl⟩ := mem_mapI hx
        have hi' := mem_ring.mp hi
        k_extra "go"
        refine w_ixT (by k_extra "sq") (atT_int hi'.1 (by omega)) ?_
        k_extra "go"
        have ei : B.steps.getD i.toNat 0 = B.at_ i := by unfold Bd.at_; rw [Int.emod_eq_of_lt hi'.1 hi'.2]
        rw [ei]
        refine ite_two (fun e => ?_) fun e => ?_
        · k_extra "go"
          exact hR _ (fI_hit (if_pos e))
        · exact hN (fI_miss (if_neg e))
      · rw [rng_ring, fm_fI, fm_if]
        k_extra "go"
        have rg : ∀ m ∈ B.lot g, 0 ≤ m ∧ m < B.h.n := fun m hm => mem_ring.mp (List.mem_filter.mp hm).1
        have asc : (B.lot g).Pairwise (· < ·) := (ring_asc _).sublist List.filter_sublist
        have em : (B.lot g).map (fun m => m % B.h.n) = B.lot g := mod_id rg
        have ln := asc_len _ 0 _ asc rg
        refine made_lot (ms := B.lot g) (sqL_of upd_same) n1 (by omega) (by omega) (by rw [em]; exact lt_nodup asc) fun H' b x1 L => q H' b ((ext_new hD).trans x1) ?_
        rw [em, srt_of_le (lt_le asc)] at L
        exact L
    · rw [if_neg (fun z => e2 z.2)] at q
      k_extra "go"
      exact q _ (Ext.refl _)
  · rw [if_neg (fun z => e1 z.1)] at q
    k_extra "go"
    exact q _ (Ext.refl _)
theorem pure_Crew_row {K : PySem.W.Frag} (F : KFH K) (vs : List V) (H : Hp) (Q : VK) (E : XK) (h : sp_Crew_row K vs H Q E) : t_Crew_row K E { nx := fun _ H' => Q .non H', rt := Q } (start ["self", "gate", "house", "counts", "hour", "start"] vs) H := by
  obtain ⟨a, g, C, rfl, ⟨dc, b, l, c1, hB, L⟩, q⟩ := h
  obtain ⟨ok, dx, hh, st, h1, h2, h3⟩ := id hB
  obtain ⟨ok2, dx2, na, sk, g1, g2, g3⟩ := id h2
  obtain ⟨okl, dl, lm, m1, m2⟩ := id L
  have n1 := ok2.n1
  have n2 := ok2.n2
  have l1 := ok.len
  have l4 := ok2.g2
  have l5 := okl.len
  k_extra "st"; unfold t_Crew_row; k_extra "go"
  refine ite_two (fun e1 => ?_) fun e1 => ?_
  · k_extra "go"
    by_cases e2 : g < C.b.h.names.length
    · rw [if_pos ⟨e1, e2⟩] at q
      k_extra "go"
      rename_i p hp
      let cnt : Int → Int := fun h => (((C.starts.filter fun s => decide (C.b.at_ (h - s) = g)).length : Nat) : Int)
      refine forS (xs := rngV 0 C.b.h.n.toNat) (fun i σ H' => (∃ v w, σ = [some (.ref a), some (.int g), some (.ref hh), some (.ref p), v, w]) ∧ Ext H H' ∧ H' p = some (.lst (((ring C.b.h.n).take i).map fun h => V.int (cnt h)))) ⟨⟨_, _, rfl⟩, ext_new hp, by rw [upd_same]; rfl⟩ (fun _ _ _ _ _ => src_rng) ?_ ?_
      · rintro i x σ H' e ⟨⟨v, w, rfl⟩, x1, hp1⟩
        rw [rng_ring] at e
        obtain ⟨h, eh, rfl⟩ : ∃ h, (ring C.b.h.n)[i]? = some h ∧ x = .int h := by
          rw [List.getElem?_map] at e
          cases eh : (ring C.b.h.n)[i]? with
          | none => rw [eh] at e; cases e
          | some h => rw [eh] at e; cases e; exact ⟨h, rfl, rfl⟩
        k_extra "go"
        refine fun D hD => lcF (xs := C.starts.map V.int) (fI fun s => if C.b.at_ (h - s) = g then some s else none) hD (fun H2 x2 => src_list (sqL_of (x2 _ _ (x1 _ _ m2)))) (by rw [List.length_map, sizeLine_eq]; omega) ?_ ?_
        · intro x hx H2 x2 R N hR hN
          obtain ⟨s, hs, rfl⟩ := mem_mapI hx
          k_extra "go"
          refine ⟨b, h - s, C.b, rfl, by k_extra "per", ?_⟩
          k_extra "go"
          refine ite_two (fun e => ?_) fun e => ?_
          · k_extra "go"
            exact hR _ (fI_hit (if_pos e))
          · exact hN (fI_miss (if_neg e))
        · rw [fm_fI, fm_if]
          have pD : p ≠ D := ne_of_none hp1 hD
          k_extra "go"
          have lt : ((ring C.b.h.n).take i).length = i := by
            have := (List.getElem?_eq_some_iff.mp eh).1
            rw [List.length_take]; omega
          have il := (List.getElem?_eq_some_iff.mp eh).1
          rw [ring_len] at il
          refine w_append (by k_extra "hp") (by rw [List.length_map, lt, sizeLine_eq]; omega) ?_
          k_extra "go"
          refine ⟨⟨_, _, rfl⟩, ?_, ?_⟩
          · exact fun c o ec => by rw [upd_ne (ne_of_none ec hp), upd_ne (ne_of_none (x1 _ _ ec) hD)]; exact x1 _ _ ec
          · rw [upd_same, List.take_add_one, eh, List.map_append, List.length_map]
            rfl
      · rintro σ H' ⟨⟨v, w, rfl⟩, x1, hp1⟩
        k_extra "go"
        refine q H' p x1 hp ?_
        rw [hp1, rngV_len, show (ring C.b.h.n).take C.b.h.n.toNat = ring C.b.h.n from List.take_of_length_le (by rw [ring_len]; omega)]
        unfold Cd.row
        rw [List.map_map]
        rfl
    · rw [if_neg (fun z => e2 z.2)] at q
      k_extra "go"
      exact q _ (Ext.refl _)
  · rw [if_neg (fun z => e1 z.1)] at q
    k_extra "go"
    exact q _ (Ext.refl _)
theorem pure_Crew_working {K : PySem.W.Frag} (F : KFH K) (vs : List V) (H : Hp) (Q : VK) (E : XK) (h : sp_Crew_working K vs H Q E) : t_Crew_working K E { nx := fun _ H' => Q .non H', rt := Q } (start ["self", "start", "hours", "hour"] vs) H := by
  obtain ⟨a, s, C, rfl, ⟨dc, b, l, c1, hB, L⟩, q⟩ := h
  obtain ⟨ok, dx, hh, st, h1, h2, h3⟩ := id hB
  obtain ⟨ok2, dx2, na, sk, g1, g2, g3⟩ := id h2
  obtain ⟨okl, dl, lm, m1, m2⟩ := id L
  have n1 := ok2.n1
  have n2 := ok2.n2
  k_extra "st"; unfold t_Crew_working; k_extra "go"
  refine ⟨l, C.b.h.n, s, C.starts, rfl, L, _, rfl, ?_⟩
  by_cases hm : s % C.b.h.n ∈ C.starts
  · rw [if_pos hm] at q
    rw [decide_eq_true hm]
    k_extra "go"
    refine iteF_of rfl ?_
    k_extra "go"
    refine fun D hD => lcF (xs := rngV 0 C.b.h.n.toNat) (fI fun h => if C.b.at_ (h - s) ≠ -1 then some h else none) hD (fun _ _ => src_rng) (by rw [rngV_len, sizeLine_eq]; omega) ?_ ?_
    · intro x hx H' e R N hR hN
      rw [rng_ring] at hx
      obtain ⟨i, hi, rfl⟩ := mem_mapI hx
      k_extra "go"
      refine ⟨b, i - s, C.b, rfl, by k_extra "per", ?_⟩
      k_extra "go"
      refine ite_ntwo (fun e => ?_) fun e => ?_
      · k_extra "go"
        exact hR _ (fI_hit (if_pos e))
      · exact hN (fI_miss (if_neg (fun z => z e)))
    · rw [rng_ring, fm_fI, fm_if]
      k_extra "go"
      have rg : ∀ m ∈ C.works s, 0 ≤ m ∧ m < C.b.h.n := fun m hm => mem_ring.mp (List.mem_filter.mp hm).1
      have asc : (C.works s).Pairwise (· < ·) := (ring_asc _).sublist List.filter_sublist
      have em : (C.works s).map (fun m => m % C.b.h.n) = C.works s := mod_id rg
      have ln := asc_len _ 0 _ asc rg
      refine made_lot (ms := C.works s) (sqL_of upd_same) n1 (by omega) (by omega) (by rw [em]; exact lt_nodup asc) fun H' b x1 L => q H' b ((ext_new hD).trans x1) ?_
      rw [em, srt_of_le (lt_le asc)] at L
      exact L
  · rw [if_neg hm] at q
    rw [decide_eq_false hm]
    k_extra "go"
    refine iteT_of rfl ?_
    k_extra "go"
    exact q _ (Ext.refl _)
theorem pure_is_name {K : PySem.W.Frag} (F : KFH K) (vs : List V) (H : Hp) (Q : VK) (E : XK) (h : sp_is_name K vs H Q E) : t_is_name K E { nx := fun _ H' => Q .non H', rt := Q } (start ["text", "letter"] vs) H := by
  obtain ⟨x, rfl, ok, q⟩ := h
  have l1 := ok.l1
  have l2 := ok.l2
  k_extra "st"; unfold t_is_name; k_extra "go"
  refine w_lenStr (by rw [sizeLine_eq]; omega) ?_
  k_extra "go"
  refine fun D hD => lcF (xs := signsV x) (fun _ => some (.bl true)) hD (fun _ _ => src_str) (by unfold signsV; rw [List.length_map, sizeLine_eq]; have : x.cps.toList.length = x.length := rfl; omega) ?_ ?_
  · intro y hy H' e R N hR hN
    obtain ⟨c, hc, rfl⟩ := List.mem_map.mp hy
    k_extra "go"
    refine w_rInS ?_
    rw [decide_eq_true (letters_ok (ok.az c hc))]
    exact hR _ rfl
  · k_extra "go"
    refine w_rAll (bs := (signsV x).map fun _ => true) (sqL_of (by rw [upd_same]; congr 2; induction signsV x with | nil => rfl | cons a r ih => rw [List.filterMap_cons, ih]; rfl)) ?_
    rw [show ((signsV x).map fun _ => true).all id = true by simp]
    exact q _ (ext_new hD)
theorem pure_name_checked {K : PySem.W.Frag} (F : KFH K) (vs : List V) (H : Hp) (Q : VK) (E : XK) (h : sp_name_checked K vs H Q E) : t_name_checked K E { nx := fun _ H' => Q .non H', rt := Q } (start ["name"] vs) H := by
  obtain ⟨x, rfl, ok, q⟩ := h
  k_extra "st"; unfold t_name_checked; k_extra "go"
  refine ⟨x, rfl, ok, fun H' x1 => ?_⟩
  k_extra "go"
  exact q _ x1
theorem pure_Beat_init {K : PySem.W.Frag} (F : KFH K) (vs : List V) (H : Hp) (Q : VK) (E : XK) (h : sp_Beat_init K vs H Q E) : t_Beat_init K E { nx := fun _ H' => Q .non H', rt := Q } (start ["self", "house", "steps", "place"] vs) H := by
  obtain ⟨a, dx, hh, l, B, rfl, e, ok, h2, h3, q⟩ := h
  obtain ⟨ok2, dx2, na, sk, g1, g2, g3⟩ := id h2
  have l1 := ok.len
  have l4 := ok2.g2
  have n2 := ok2.n2
  k_extra "st"; unfold t_Beat_init; k_extra "go"
  rw [List.length_map]
  k_extra "go"
  refine forS (xs := B.steps.map V.int) (fun i σ H' => H' = H ∧ ∃ v, σ = [some (.ref a), some (.ref hh), some (.ref l), v]) ⟨rfl, _, rfl⟩ (fun i σ H' _ p => by rw [p.1]; exact src_list (sqL_of h3)) ?_ ?_
  · rintro i x σ H' ei ⟨rfl, v, rfl⟩
    obtain ⟨m, hm, rfl⟩ := mem_mapI (List.mem_of_getElem? ei)
    have r := ok.rng m hm
    k_extra "go"
    exact ⟨rfl, _, rfl⟩
  · rintro σ H' ⟨rfl, v, rfl⟩
    have hl := ne_ins0 e h3
    k_extra "go"
    rename_i t ht
    have ta : t ≠ a := fun z => by rw [z, upd_same] at ht; cases ht
    have hk : ∀ (v : HO) b o, b ≠ a → H' b = some o → (upd (upd (upd H' a (.ins (He.ga K "Beat") dx (putF "house" (.ref hh) []))) t (.tup (B.steps.map V.int))) a v) b = some o := fun v b o nb eb => by
      have nt : b ≠ t := fun z => by rw [← z, upd_ne nb, eb] at ht; cases ht
      rw [upd_ne nb, upd_ne nt, upd_ne nb]
      exact eb
    refine q _ (hk _) ⟨ok, dx, hh, t, upd_same, h2.kept e (hk _), ?_⟩
    rw [upd_ne ta, upd_same]
theorem pure_House_init {K : PySem.W.Frag} (F : KFH K) (vs : List V) (H : Hp) (Q : VK) (E : XK) (h : sp_House_init K vs H Q E) : t_House_init K E { nx := fun _ H' => Q .non H', rt := Q } (start ["self", "hours", "gates", "names", "stakes", "name", "stake"] vs) H := by
  obtain ⟨a, dx, l, A, rfl, e, ok, hl, nla, q⟩ := h
  obtain ⟨n1, n2, g1, g2, len, cells, nm, nd, st⟩ := id ok
  have hx : ∃ xs ds, H l = some (.lst xs) ∧ DnAll H 1 xs ds ∧ ds = (A.names.zip A.stakes).map fun p => .tuple [.str p.1, .int p.2] := by
    unfold gatesD at hl
    cases hl with
    | lst h _ r => exact ⟨_, _, h, r, rfl⟩
  obtain ⟨xs, ds, hxs, hd, eds⟩ := hx
  have lx : xs.length = A.names.length := by rw [dn_len hd, eds, List.length_map, List.length_zip]; omega
  k_extra "st"; unfold t_House_init; k_extra "go"
  rename_i pn hpn ps hps
  have eps : pn ≠ ps := fun z => by rw [← z, upd_same] at hps; cases hps
  refine forS (xs := xs) (fun i σ H' => (∃ v w, σ = [some (.ref a), some (.int A.n), some (.ref l), some (.ref pn), some (.ref ps), v, w]) ∧ Ext H H' ∧ H' pn = some (.lst ((A.names.take i).map V.str)) ∧ H' ps = some (.lst ((A.stakes.take i).map V.int)))
    ⟨⟨_, _, rfl⟩, ext_set (ext_new hpn) (fr_of (ext_new hpn) hps), by rw [upd_ne eps, upd_same]; rfl, by rw [upd_same]; rfl⟩ (fun i σ H' _ p => src_list (sqL_of (p.2.1 _ _ hxs))) ?_ ?_
  · rintro i x σ H' ei ⟨⟨v, w, rfl⟩, x1, e1, e2⟩
    obtain ⟨p, ep, dp⟩ := dn_get hd ei
    have il := (List.getElem?_eq_some_iff.mp ei).1
    have in1 : i < A.names.length := by omega
    have is1 : i < A.stakes.length := by omega
    have gn : A.names[i]? = some A.names[i] := List.getElem?_eq_getElem in1
    have gs : A.stakes[i]? = some A.stakes[i] := List.getElem?_eq_getElem is1
    have ez : (A.names.zip A.stakes)[i]? = some (A.names[i], A.stakes[i]) := by rw [List.getElem?_zip_eq_some]; exact ⟨gn, gs⟩
    rw [eds, List.getElem?_map, ez] at ep
    cases ep
    cases dp with
    | @tup _ c ys _ hc _ r =>
      cases r with
      | cons d1 r => cases r with
        | cons d2 r => cases r; cases d1; cases d2
                       have hn := nm _ (List.getElem_mem in1)
                       have hs := st _ (List.getElem_mem is1)
                       k_extra "go"
                       refine ⟨_, rfl, hn, fun H2 x2 => ?_⟩
                       have f1 := x2 _ _ e1
                       have f2 := x2 _ _ e2
                       k_extra "go"
                       refine w_inS (.inl (by k_extra "sq")) ?_
                       have hni : A.names[i] ∉ A.names.take i := fun hm => by
                         have n2 := nd.sublist (List.take_sublist (i + 1) A.names)
                         rw [List.take_add_one, gn] at n2
                         exact (List.nodup_append.mp n2).2.2 _ hm _ (List.mem_singleton.mpr rfl) rfl
                       rw [decide_eq_false hni]
                       k_extra "go"
                       refine w_append (by k_extra "hp") (by rw [List.length_map, List.length_take, sizeLine_eq]; omega) ?_
                       have f3 : (upd H2 pn (.lst ((A.names.take i).map V.str ++ [.str A.names[i]]))) ps = some (.lst ((A.stakes.take i).map V.int)) := by rw [upd_ne (Ne.symm eps)]; exact f2
                       k_extra "go"
                       refine w_append (by k_extra "hp") (by rw [List.length_map, List.length_take, sizeLine_eq]; omega) ?_
                       k_extra "go"
                       refine ⟨⟨_, _, rfl⟩, fun b o eb => ?_, ?_, ?_⟩
                       · rw [upd_ne (ne_of_none eb (fr_of (ext_new hpn) hps)), upd_ne (ne_of_none eb hpn)]
                         exact x2 _ _ (x1 _ _ eb)
                       · rw [upd_ne eps, upd_same, List.take_add_one, gn, List.map_append]
                         rfl
                       · rw [upd_same, List.take_add_one, gs, List.map_append]
                         rfl
  · rintro σ H' ⟨⟨v, w, rfl⟩, x1, e1, e2⟩
    rw [lx, List.take_of_length_le (Nat.le_refl _)] at e1
    rw [lx, List.take_of_length_le (by omega)] at e2
    have cl : ¬ 48 < A.n * (xs.length : Int) := by rw [lx]; omega
    have xe := x1 _ _ e
    have npn : pn ≠ a := fun z => by rw [z, e] at hpn; cases hpn
    have nps : ps ≠ a := fun z => by rw [z, upd_ne (Ne.symm npn), e] at hps; cases hps
    k_extra "go"
    rename_i tn htn ts hts
    have tna : tn ≠ a := fun z => by rw [z, upd_same] at htn; cases htn
    have tsa : ts ≠ a := fun z => by rw [z, upd_same] at hts; cases hts
    have tst : tn ≠ ts := fun z => by rw [← z, upd_ne tna, upd_same] at hts; cases hts
    have hk : ∀ (u : HO) b o, b ≠ a → H b = some o → (upd (upd (upd (upd (upd H' a (.ins (He.ga K "House") dx (putF "hours" (.int A.n) []))) tn (.tup (A.names.map V.str))) a (.ins (He.ga K "House") dx (putF "names" (.ref tn) (putF "hours" (.int A.n) [])))) ts (.tup (A.stakes.map V.int))) a u) b = some o := fun u b o nb eb => by
      have e3 := x1 _ _ eb
      have n1 : b ≠ tn := fun z => by rw [← z, upd_ne nb, e3] at htn; cases htn
      have n2 : b ≠ ts := fun z => by rw [← z, upd_ne nb, upd_ne n1, upd_ne nb, e3] at hts; cases hts
      rw [upd_ne nb, upd_ne n2, upd_ne nb, upd_ne n1, upd_ne nb]
      exact e3
    refine q _ (hk _) ⟨ok, dx, tn, ts, upd_same, ?_, ?_⟩
    · rw [upd_ne tna, upd_ne tst, upd_ne tna, upd_same]
    · rw [upd_ne tsa, upd_same]
theorem pure_l_draws {K : PySem.W.Frag} (F : KFH K) (vs : List V) (H : Hp) (Q : VK) (E : XK) (h : sp_l_drawsW K vs H Q E) : t_l_draws K E { nx := fun _ H' => Q .non H', rt := Q } (start ["cell", "salt", "menu", "found", "rest", "mixed", "k"] vs) H := by
  obtain ⟨c, s, a, ms, rfl, c0, s0, s1, hS, hlen, hm, h⟩ := h
  refine ⟨Nat.zero_le _, fun p hp => ?_⟩
  refine ⟨_, rfl, _, _, rfl, rfl, ⟨by decide, by decide, by decide⟩, _, _, rfl, rfl, ?_⟩
  refine ⟨_, rfl, _, rfl, _, _, rfl, rfl, cmulW (by decide) (by omega), _, _, rfl, rfl, ?_⟩
  have x0 : Ext H (upd H p (.lst [])) := ext_new hp
  refine ⟨_, rfl, a, _, rfl, .inl (sqL_ext x0 hS), (ms.length : Nat), by rw [List.length_map] <;> rfl, by omega, by omega, forS (xs := rngV 0 (ms.length : Int).toNat) (fun i σ H' => i ≤ ms.length ∧ ∃ (rest mixed : Int) (v : Option V) (ws : List Int), σ = [some (.int c), some (.int s), some (.ref a), some (.ref p), some (.int rest), some (.int mixed), v] ∧ Ext H H' ∧ H' p = some (.lst (ws.map V.int)) ∧ ws.length = i ∧
      (∀ (k : Nat) (w m : Int), ws[k]? = some w → ms[k]? = some m → 0 ≤ w ∧ w < m) ∧ (rest < 0 → 0 ≤ mixed ∧ mixed < 2 ^ 100)) ?_ (fun _ _ _ _ _ => src_rng) ?_ ?_⟩
  · refine ⟨Nat.zero_le _, _, _, _, [], rfl, x0, upd_same, rfl, fun k w m h => by simp at h, fun hr => ?_⟩
    have : c < 10 ^ 18 := by have : c - 10 ^ (Int.toNat 18) < 0 := hr; have e : (10 : Int) ^ (Int.toNat 18) = 10 ^ 18 := rfl; omega
    constructor <;> omega
  · rintro i x σ H' e ⟨hi, rest, mixed, v, ws, rfl, x1, hp1, hw, hb, hr⟩
    rw [rngV_get] at e
    by_cases hi' : i < (ms.length : Int).toNat
    · rw [if_pos hi'] at e
      cases e
      have hi2 : i < ms.length := by omega
      have gm : ms[i]? = some ms[i] := List.getElem?_eq_getElem _
      have bm := hm _ (List.getElem_mem hi2)
      have at1 : atI (ms.map V.int) (0 + (i : Int)) = some (.int ms[i]) := atI_nat (k := i) (by omega) (map_get gm)
      have nw : ∀ (w : Int), 0 ≤ w → w < ms[i] → ∀ (k : Nat) (w' m : Int), (ws ++ [w])[k]? = some w' → ms[k]? = some m → 0 ≤ w' ∧ w' < m := fun w w0 w1 k w' m h1 h2 => by
        by_cases hk : k < ws.length
        · rw [List.getElem?_append_left hk] at h1
          exact hb k w' m h1 h2
        · rw [List.getElem?_append_right (by omega)] at h1
          have hk2 : k = i := by
            have := (List.getElem?_eq_some_iff.mp h1).1
            simp at this
            omega
          subst hk2
          rw [hw, Nat.sub_self] at h1
          cases h1
          rw [gm] at h2
          cases h2
          exact ⟨w0, w1⟩
      bv_omega
      by_cases hrest : 0 ≤ rest
      · rw [if_pos hrest]
        refine ⟨tyL hp1, _, sqL_ext x1 hS, _, at1, _, rfl, by omega, _, hp1, by rw [List.length_map, sizeLine_eq]; omega, _, sqL_ext (ext_set x1 hp) hS, _, at1, _, rfl, (wide_div (b := 200) (by omega) (by omega) (by decide) (by decide)), hi2, ?_⟩
        rw [fmod_pos bm.1]
        refine ⟨_, _, _, ⟨rfl, rfl, rfl⟩, ext_set x1 hp, ws ++ [rest % ms[i]], by rw [upd_same, List.map_append]; rfl, by rw [List.length_append, hw]; rfl, nw _ (emod_rng bm.1 _).1 (emod_rng bm.1 _).2, fun h => ?_⟩
        have := Int.ediv_nonneg hrest (show 0 ≤ ms[i] by omega)
        omega
      · rw [if_neg hrest]
        have hx := hr (by omega)
        have h2 : ∀ z : Int, z.fmod 2147483399 = z % 2147483399 := fun z => fmod_pos (by decide) z
        have h3 : ∀ z : Int, z.fmod 2147483629 = z % 2147483629 := fun z => fmod_pos (by decide) z
        refine ⟨cmulW (by omega) (by omega), cmulW (by decide) (by omega), by decide, ?_⟩
        rw [h2]
        have b2 := emod_rng (n := 2147483399) (by decide) (mixed * mixed + 3571 * (0 + (i : Int) + 1) + 40692)
        refine ⟨cmulW (by omega) (by omega), ⟨by decide, by decide⟩, by decide, ?_⟩
        rw [h3]
        refine ⟨tyL hp1, ⟨by decide, by decide⟩, _, sqL_ext x1 hS, _, at1, _, rfl, by omega, _, hp1, by rw [List.length_map, sizeLine_eq]; omega, hi2, ?_⟩
        rw [fmod_pos bm.1]
        generalize hz : ((mixed * mixed + 3571 * (0 + (i : Int) + 1) + 40692) % 2147483399 * ((mixed * mixed + 3571 * (0 + (i : Int) + 1) + 40692) % 2147483399) + (mixed * mixed + 3571 * (0 + (i : Int) + 1) + 40692) % 2147483399 / 97) % 2147483629 = z
        have b3 : 0 ≤ z ∧ z < 2147483629 := by rw [← hz]; exact emod_rng (by decide) _
        refine ⟨_, _, _, ⟨rfl, rfl, rfl⟩, ext_set x1 hp, ws ++ [(z / 8) % ms[i]], by rw [upd_same, List.map_append]; rfl, by rw [List.length_append, hw]; rfl, nw _ (emod_rng bm.1 _).1 (emod_rng bm.1 _).2, fun _ => ⟨b3.1, by omega⟩⟩
    · rw [if_neg hi'] at e
      cases e
  · rintro σ H' ⟨hi, rest, mixed, v, ws, rfl, x1, hp1, hw, hb, hr⟩
    rw [rngV_len] at hw
    exact ⟨_, rfl, h H' p ws x1 hp hp1 (by omega) fun i m d h1 h2 => hb i d m h2 h1⟩
theorem pure_l_two {K : PySem.W.Frag} (F : KFH K) (vs : List V) (H : Hp) (Q : VK) (E : XK) (h : sp_l_two K vs H Q E) : t_l_two K E { nx := fun _ H' => Q .non H', rt := Q } (start ["n", "power", "k"] vs) H := by
  obtain ⟨n, rfl, n0, n1, q⟩ := h
  k_extra "st"; unfold t_l_two; k_extra "go"
  refine forS (xs := rngV 0 n.toNat) (fun i σ H' => H' = H ∧ ∃ v, σ = [some (.int n), some (.int (2 ^ i)), v]) ⟨rfl, _, rfl⟩ (fun _ _ _ _ _ => src_rng) ?_ ?_
  · rintro i x σ H' e ⟨rfl, v, rfl⟩
    rw [rngV_get] at e
    by_cases hi : i < n.toNat
    · rw [if_pos hi] at e
      cases e
      have hp : (2 : Int) ^ i < 2 ^ 61 := by
        have := Nat.pow_lt_pow_right (a := 2) (by decide) (show i < 61 by omega)
        exact_mod_cast this
      have hp0 : (0 : Int) < 2 ^ i := Int.pow_pos (by decide)
      k_extra "go"
      exact ⟨rfl, _, by rw [Int.pow_succ]⟩
    · rw [if_neg hi] at e; cases e
  · rintro σ H' ⟨rfl, v, rfl⟩
    rw [rngV_len]
    k_extra "go"
    exact q
theorem pure_l_name {K : PySem.W.Frag} (F : KFH K) (vs : List V) (H : Hp) (Q : VK) (E : XK) (h : sp_l_name K vs H Q E) : t_l_name K E { nx := fun _ H' => Q .non H', rt := Q } (start ["number", "letters", "word", "k"] vs) H := by
  obtain ⟨n, rfl, n0, n1, q⟩ := h
  have r8 := emod_rng (n := 8) (by decide) n
  k_extra "st"; unfold t_l_name; k_extra "go"
  refine forS (xs := rngV 0 (1 + n % 8).toNat) (fun i σ H' => H' = H ∧ ∃ (m : Int) (z : Str) (v : Option V), σ = [some (.int m), some (.str "abcdefghijklmnopqrstuvwxyz"), some (.str z), v] ∧ 0 ≤ m ∧ m < 2 ^ 64 ∧ z.length = i ∧ ∀ c ∈ z.cps.toList, 97 ≤ c ∧ c < 123) ⟨rfl, n, "", _, rfl, n0, n1, rfl, fun c hc => by cases hc⟩ (fun _ _ _ _ _ => src_rng) ?_ ?_
  · rintro i x σ H' e ⟨rfl, m, z, v, rfl, m0, m1, zl, za⟩
    rw [rngV_get] at e
    by_cases hi : i < (1 + n % 8).toNat
    · rw [if_pos hi] at e
      cases e
      k_extra "go"
      have r26 := emod_rng (n := 26) (by decide) (m / 8 + 31 * (0 + (i : Int)) + 5)
      refine w_ixS (by decide) (letters_at r26) ?_
      k_extra "go"
      refine w_addS (by rw [zl, sizeLine_eq]; show i + 1 ≤ _; omega) ?_
      k_extra "go"
      refine ⟨rfl, _, _, _, rfl, by omega, by omega, by rw [str_push_len, zl], fun c hc => ?_⟩
      rw [str_push] at hc
      rcases List.mem_append.mp hc with hc | hc
      · exact za c hc
      · rw [List.mem_singleton.mp hc]
        omega
    · rw [if_neg hi] at e; cases e
  · rintro σ H' ⟨rfl, m, z, v, rfl, m0, m1, zl, za⟩
    rw [rngV_len] at zl
    k_extra "go"
    exact q z ⟨by omega, by omega, za⟩
theorem pure_l_number {K : PySem.W.Frag} (F : KFH K) (vs : List V) (H : Hp) (Q : VK) (E : XK) (h : sp_l_number K vs H Q E) : t_l_number K E { nx := fun _ H' => Q .non H', rt := Q } (start ["cell", "salt", "draws", "size"] vs) H := by
  obtain ⟨c, s, rfl, c0, s0, s1, q⟩ := h
  k_extra "st"; unfold t_l_number; k_extra "go"
  refine use_draws [2, 2, 60, 10 ^ 59] c0 s0 s1 (sqL_of upd_same) (by decide) (by decide) fun H1 p ds x1 hp h1 hd => ?_
  obtain ⟨d0, _, rfl, b0, hd⟩ := inM_cons hd
  obtain ⟨d1, _, rfl, b1, hd⟩ := inM_cons hd
  obtain ⟨d2, _, rfl, b2, hd⟩ := inM_cons hd
  obtain ⟨d3, _, rfl, b3, hd⟩ := inM_cons hd
  obtain rfl := inM_nil hd
  k_extra "go"
  rename_i m hm l hl
  have e1 : ∃ s : Int, atI [V.int d2, V.int d3] d1 = some (.int s) ∧ 0 ≤ s ∧ s < 10 ^ 59 := by
    rcases (show d1 = 0 ∨ d1 = 1 by omega) with rfl | rfl
    · exact ⟨d2, rfl, b2.1, by omega⟩
    · exact ⟨d3, rfl, b3⟩
  obtain ⟨sz, e1, z0, z1⟩ := e1
  refine w_ixL (by k_extra "sq") e1 ?_
  k_extra "go"
  rename_i l2 hl2
  have e2 : ∃ s : Int, atI [V.int sz, V.int (0 - sz)] d0 = some (.int s) ∧ s.natAbs < 2 ^ 200 := by
    rcases (show d0 = 0 ∨ d0 = 1 by omega) with rfl | rfl
    · exact ⟨sz, rfl, by omega⟩
    · exact ⟨0 - sz, rfl, by omega⟩
  obtain ⟨r, e2, r1⟩ := e2
  refine w_ixL (by k_extra "sq") e2 ?_
  exact q _ r (by k_extra "ext") r1
theorem nodup_sub_len {α : Type} [DecidableEq α] : ∀ {l m : List α}, l.Nodup → (∀ x ∈ l, x ∈ m) → l.length ≤ m.length
  | [], _, _, _ => Nat.zero_le _
  | a :: r, m, h, q => by
    obtain ⟨h1, h2⟩ := List.nodup_cons.mp h
    have ha := q a List.mem_cons_self
    have := nodup_sub_len (l := r) (m := m.erase a) h2 fun x hx => (List.mem_erase_of_ne (fun z => h1 (by rw [← z]; exact hx))).mpr (q x (List.mem_cons_of_mem _ hx))
    rw [List.length_erase_of_mem ha] at this
    have := List.length_pos_of_mem ha
    rw [List.length_cons]
    omega
theorem str_ext {a b : Str} (h : a.cps.toList = b.cps.toList) : a = b := by
  obtain ⟨a⟩ := a
  obtain ⟨b⟩ := b
  exact congrArg Str.mk (Array.toList_inj.mp h)
/-- the word with its last letter t letters on -/
def varN (b : List Nat) (c t : Nat) : Str := ⟨(b ++ [97 + (c + t) % 26]).toArray⟩
theorem varN_ok {b : List Nat} {c t : Nat} (hl : b.length ≤ 7) (hb : ∀ x ∈ b, 97 ≤ x ∧ x < 123) : NameOk (varN b c t) := by
  refine ⟨?_, ?_, ?_⟩
  · show 1 ≤ (b ++ [97 + (c + t) % 26]).length
    rw [List.length_append]; simp
  · show (b ++ [97 + (c + t) % 26]).length ≤ 8
    rw [List.length_append]; simp; exact hl
  · intro x hx
    have hx : x ∈ b ++ [97 + (c + t) % 26] := hx
    rcases List.mem_append.mp hx with hx | hx
    · exact hb x hx
    · rw [List.mem_singleton.mp hx]; omega
theorem varN_inj {b : List Nat} {c s t : Nat} (hs : s < 8) (ht : t < 8) (e : varN b c s = varN b c t) : s = t := by
  have e2 : (varN b c s).cps.toList = (varN b c t).cps.toList := by rw [e]
  have e3 : b ++ [97 + (c + s) % 26] = b ++ [97 + (c + t) % 26] := e2
  have e4 := List.append_cancel_left e3
  have := List.head_eq_of_cons_eq e4
  omega
theorem name_split {x : Str} (h : NameOk x) : ∃ (b : List Nat) (c : Nat), x = varN b c 0 ∧ c < 26 ∧ b.length ≤ 7 ∧ ∀ y ∈ b, 97 ≤ y ∧ y < 123 := by
  have hne : x.cps.toList ≠ [] := fun z => by
    have := h.l1
    rw [str_len, z] at this
    simp at this
  have ha := h.az _ (List.getLast_mem hne)
  refine ⟨x.cps.toList.dropLast, x.cps.toList.getLast hne - 97, str_ext ?_, by omega, ?_, fun y hy => h.az y (List.dropLast_subset _ hy)⟩
  · show x.cps.toList = x.cps.toList.dropLast ++ [97 + (x.cps.toList.getLast hne - 97 + 0) % 26]
    rw [show 97 + (x.cps.toList.getLast hne - 97 + 0) % 26 = x.cps.toList.getLast hne by omega, List.dropLast_concat_getLast]
  · have := h.l2
    rw [str_len] at this
    rw [List.length_dropLast]
    omega
theorem cut_last {b : List Nat} {c t : Nat} : (cutS (varN b c t) none (some (-1))).cps.toList = b := by
  show ((b ++ [97 + (c + t) % 26]).drop _).take _ = b
  have hl : (varN b c t).length = b.length + 1 := by show (b ++ [_]).length = _; rw [List.length_append]; rfl
  rw [hl]
  have e0 : HT.sIx (b.length + 1) 0 none = 0 := rfl
  have e1 : HT.sIx (b.length + 1) (b.length + 1) (some (-1)) = b.length := by
    show (if (-1 : Int) < 0 then ((-1 : Int) + ((b.length + 1 : Nat) : Int)).toNat else min (-1 : Int).toNat (b.length + 1)) = b.length
    rw [if_pos (by decide)]
    omega
  rw [e0, e1, List.drop_zero, Nat.sub_zero, List.take_left']
  rfl
theorem at_last {b : List Nat} {c t : Nat} : atI (varN b c t).cps.toList (-1) = some (97 + (c + t) % 26) := by
  show atI (b ++ [97 + (c + t) % 26]) (-1) = _
  unfold atI
  have e : ixN (b ++ [97 + (c + t) % 26]).length (-1) = some b.length := by
    unfold ixN
    rw [List.length_append, if_neg (by decide), if_pos (by simp; omega)]
    congr 1
    simp
    omega
  rw [e]
  show (b ++ [97 + (c + t) % 26])[b.length]? = _
  simp
theorem next_word {b : List Nat} {c t : Nat} : cutS (varN b c t) none (some (-1)) ++ (⟨#[(c + t + 1) % 26 + 97]⟩ : Str) = varN b c (t + 1) := by
  apply str_ext
  rw [str_push, cut_last]
  show b ++ [(c + t + 1) % 26 + 97] = b ++ [97 + (c + (t + 1)) % 26]
  rw [Nat.add_comm, Nat.add_assoc]
theorem pure_l_names {K : PySem.W.Frag} (F : KFH K) (vs : List V) (H : Hp) (Q : VK) (E : XK) (h : sp_l_names K vs H Q E) : t_l_names K E { nx := fun _ H' => Q .non H', rt := Q } (start ["numbers", "letters", "names", "number", "word", "turn"] vs) H := by
  obtain ⟨a, ns, rfl, ha, nl, nb, q⟩ := h
  k_extra "st"; unfold t_l_names; k_extra "go"
  rename_i p hp
  refine forS (xs := ns.map V.int) (fun i σ H' => ∃ (xs : List Str) (v w u : Option V), σ = [some (.ref a), some (.str "abcdefghijklmnopqrstuvwxyz"), some (.ref p), v, w, u] ∧ Ext H H' ∧ H' p = some (.lst (xs.map V.str)) ∧ xs.length = i ∧ xs.Nodup ∧ ∀ x ∈ xs, NameOk x)
    ⟨[], _, _, _, rfl, ext_new hp, by rw [upd_same]; rfl, rfl, .nil, fun x hx => by cases hx⟩ (fun i σ H' _ p => by obtain ⟨_, _, _, _, _, x1, _⟩ := p; exact src_list (sqL_ext x1 ha)) ?_ ?_
  · rintro i x σ H' e ⟨xs, v, w, u, rfl, x1, hp1, xl, nd, ok⟩
    obtain ⟨n, hn, rfl⟩ := mem_mapI (List.mem_of_getElem? e)
    have il := (List.getElem?_eq_some_iff.mp e).1
    rw [List.length_map] at il
    k_extra "go"
    refine ⟨n, rfl, (nb n hn).1, (nb n hn).2, fun z0 ok0 => ?_⟩
    obtain ⟨b, c, rfl, c26, bl, bz⟩ := name_split ok0
    k_extra "go"
    refine forS (xs := rngV 0 8) (fun t σ H2 => H2 = H' ∧ ∃ (z : Str) (u : Option V), σ = [some (.ref a), some (.str "abcdefghijklmnopqrstuvwxyz"), some (.ref p), some (.int n), some (.str z), u] ∧ NameOk z ∧ (z ∉ xs ∨ (z = varN b c t ∧ ∀ s, s < t → varN b c s ∈ xs)))
      ⟨rfl, _, _, rfl, ok0, .inr ⟨rfl, fun s hs => by omega⟩⟩ (fun _ _ _ _ _ => src_rng) ?_ ?_
    · rintro t y σ H2 et ⟨rfl, z, u, rfl, okz, hz⟩
      rw [rngV_get] at et
      by_cases ht : t < 8
      · rw [if_pos ht] at et
        cases et
        k_extra "go"
        refine w_inS (.inl (by k_extra "sq")) ?_
        by_cases hm : z ∈ xs
        · rw [decide_eq_true hm]
          obtain ⟨rfl, hs⟩ := hz.resolve_left fun k => k hm
          have zl := okz.l2
          k_extra "go"
          refine ⟨_, rfl, by rw [sizeLine_eq]; omega, ?_⟩
          k_extra "go"
          refine ⟨rfl, ?_⟩
          k_extra "go"
          refine w_ixS (by rw [sizeLine_eq]; omega) at_last ?_
          k_extra "go"
          obtain ⟨r, hr⟩ := letters_occ (c := (c + t) % 26) (Nat.mod_lt _ (by decide))
          refine ⟨_, ⟨#[(c + t) % 26 + 97]⟩, _, r, rfl, by rw [Nat.add_comm], hr, ?_⟩
          k_extra "go"
          have ri : (0 : Int) ≤ ((((c + t) % 26 : Nat) : Int) + 1) % 26 ∧ ((((c + t) % 26 : Nat) : Int) + 1) % 26 < 26 := emod_rng (by decide) _
          refine w_ixS (by decide) (letters_at ri) ?_
          have ei : (((((c + t) % 26 : Nat) : Int) + 1) % 26).toNat = (c + t + 1) % 26 := by omega
          rw [ei]
          k_extra "go"
          refine w_addS ?_ ?_
          · rw [str_len, cut_last, sizeLine_eq]
            show b.length + 1 ≤ _
            omega
          · rw [next_word]
            k_extra "go"
            refine ⟨rfl, _, _, rfl, varN_ok bl bz, ?_⟩
            by_cases hm2 : varN b c (t + 1) ∈ xs
            · refine .inr ⟨rfl, fun s hs' => ?_⟩
              by_cases e : s = t
              · rw [e]; exact hm
              · exact hs s (by omega)
            · exact .inl hm2
        · rw [decide_eq_false hm]
          k_extra "go"
          exact ⟨rfl, z, _, rfl, okz, .inl hm⟩
      · rw [if_neg ht] at et; cases et
    · rintro σ H2 ⟨rfl, z, u, rfl, okz, hz⟩
      rw [rngV_len] at hz
      have hz : z ∉ xs := by
        rcases hz with hz | ⟨_, hs⟩
        · exact hz
        · have := nodup_sub_len (l := (List.range 8).map (varN b c)) (m := xs) (nodup_map_on List.nodup_range fun x hx y hy e => varN_inj (List.mem_range.mp hx) (List.mem_range.mp hy) e) fun x hx => by
            obtain ⟨s, hs', rfl⟩ := List.mem_map.mp hx
            exact hs s (List.mem_range.mp hs')
          rw [List.length_map, List.length_range] at this
          omega
      k_extra "go"
      refine w_append (by k_extra "hp") (by rw [List.length_map, sizeLine_eq]; omega) ?_
      k_extra "go"
      refine ⟨xs ++ [z], _, _, _, rfl, ext_set x1 hp, by rw [upd_same, List.map_append]; rfl, by rw [List.length_append, xl]; rfl, ?_, ?_⟩
      · refine List.nodup_append.mpr ⟨nd, by simp, fun x hx y hy e => ?_⟩
        rw [List.mem_singleton.mp hy] at e
        exact hz (by rw [← e]; exact hx)
      · intro x hx
        rcases List.mem_append.mp hx with hx | hx
        · exact ok x hx
        · rw [List.mem_singleton.mp hx]; exact okz
  · rintro σ H' ⟨xs, v, w, u, rfl, x1, hp1, xl, nd, ok⟩
    rw [List.length_map] at xl
    k_extra "go"
    exact q H' p xs x1 hp1 xl nd ok
theorem pure_l_gates {K : PySem.W.Frag} (F : KFH K) (vs : List V) (H : Hp) (Q : VK) (E : XK) (h : sp_l_gates K vs H Q E) : t_l_gates K E { nx := fun _ H' => Q .non H', rt := Q } (start ["numbers", "stakes", "names", "k"] vs) H := by
  obtain ⟨a, b, ns, ss, rfl, ha, hb, nl, sl, nb, q⟩ := h
  k_extra "st"; unfold t_l_gates; k_extra "go"
  refine ⟨a, ns, rfl, ha, nl, nb, fun H1 p xs x1 h1 xl nd ok => ?_⟩
  k_extra "go"
  rw [List.length_map]
  k_extra "go"
  have hz : ∀ i : Nat, i < xs.length → (xs.zip (ss.take ns.length))[i]? = some (xs.getD i "", ss.getD i 0) := fun i hi => by
    rw [List.getElem?_zip_eq_some, List.getElem?_take, if_pos (by omega), List.getD_eq_getElem?_getD, List.getD_eq_getElem?_getD, List.getElem?_eq_getElem hi, List.getElem?_eq_getElem (by omega)]
    exact ⟨rfl, rfl⟩
  refine fun D hD => lcD (d := 1) (xs := rngV 0 xs.length) (fun v => match v with | .int i => .tuple [.str (xs.getD i.toNat ""), .int (ss.getD i.toNat 0)] | _ => .none) hD (fun _ _ => src_rng) (by rw [rngV_len]; omega) ?_ ?_
  · intro x hx H2 x2 ⟨acc, hacc⟩ R hR
    obtain ⟨i, hi, rfl⟩ := List.mem_map.mp hx
    have hi := List.mem_range.mp hi
    k_extra "go"
    refine w_ixL (by k_extra "sq") (atI_nat (k := i) (by omega) (show (xs.map V.str)[i]? = some (.str (xs.getD i "")) by rw [List.getElem?_map, List.getElem?_eq_getElem hi, List.getD_eq_getElem?_getD, List.getElem?_eq_getElem hi]; rfl)) ?_
    k_extra "go"
    refine w_ixL (sqL_ext x2 (sqL_ext x1 hb)) (atI_nat (k := i) (by omega) (map_get (show ss[i]? = some (ss.getD i 0) by rw [List.getElem?_eq_getElem (by omega), List.getD_eq_getElem?_getD, List.getElem?_eq_getElem (by omega)]; rfl))) ?_
    k_extra "go"
    rename_i t ht
    refine hR _ _ (ext_new ht) (.tup (wo_at (Ne.symm (ne_of_none hacc ht)) upd_same) (Nat.le_of_ble_eq_true rfl) ?_)
    show DnAll _ 0 _ [.str (xs.getD (0 + (i : Int)).toNat ""), .int (ss.getD (0 + (i : Int)).toNat 0)]
    rw [show (0 + (i : Int)).toNat = i by omega]
    exact .cons (.str _ _) (.cons (.int _ _) (.nil _))
  · intro H2 x2 hd
    refine q H2 (.ref D) xs (x1.trans x2) ?_ xl nd ok
    unfold gatesD
    have e : (rngV 0 xs.length).map (fun v => match v with | .int i => PyData.tuple [.str (xs.getD i.toNat ""), .int (ss.getD i.toNat 0)] | _ => .none) = (xs.zip (ss.take ns.length)).map fun p => .tuple [.str p.1, .int p.2] := by
      refine List.ext_getElem? fun i => ?_
      rw [List.getElem?_map, List.getElem?_map, rngV_get]
      by_cases hi : i < xs.length
      · rw [if_pos hi, hz i hi]
        show some (PyData.tuple [.str (xs.getD (0 + (i : Int)).toNat ""), .int (ss.getD (0 + (i : Int)).toNat 0)]) = _
        rw [show (0 + (i : Int)).toNat = i by omega]
        rfl
      · rw [if_neg hi, List.getElem?_eq_none (by rw [List.length_zip]; omega)]
        rfl
    rw [← e]
    exact hd
theorem pure_l_no_row {K : PySem.W.Frag} (F : KFH K) (vs : List V) (H : Hp) (Q : VK) (E : XK) (h : sp_l_no_row K vs H Q E) : t_l_no_row K E { nx := fun _ H' => Q .non H', rt := Q } (start ["crew", "gate", "told", "e"] vs) H := by
  obtain ⟨a, g, C, rfl, hC, ng, q⟩ := h
  obtain ⟨dc, b, l, c1, hB, L⟩ := id hC
  k_extra "st"; unfold t_l_no_row; k_extra "go"
  refine ⟨a, g, C, rfl, hC, ?_⟩
  rw [if_neg ng]
  refine fun H1 x1 => wH_yes F.npx fun e he => ?_
  k_extra "go"
  refine w_isX F.npc no_xd (F.npk (b := true) (by decide)) ?_
  k_extra "go"
  refine w_isXT F.npc no_xd F.npv ?_
  k_extra "go"
  refine w_isX F.npc no_xd (F.npk (b := false) (by decide)) ?_
  k_extra "go"
  refine w_isX F.npc no_xd (F.npk (b := false) (by decide)) ?_
  k_extra "go"
  rename_i t ht u hu
  exact use_same (.tuple ([true, true, false, false].map PyData.bool)) (.tup (ext_new hu _ _ upd_same) (Nat.le_of_ble_eq_true rfl) (dn_bools [true, true, false, false])) (.tup upd_same (Nat.le_of_ble_eq_true rfl) (dn_bools [true, true, false, false])) (q _ (by k_extra "ext"))
theorem pure_l_other_ring {K : PySem.W.Frag} (F : KFH K) (vs : List V) (H : Hp) (Q : VK) (E : XK) (h : sp_l_other_ring K vs H Q E) : t_l_other_ring K E { nx := fun _ H' => Q .non H', rt := Q } (start ["beat", "starts", "told", "e"] vs) H := by
  obtain ⟨b, l, n, B, ms, rfl, hB, L, ne, q⟩ := h
  k_extra "st"; unfold t_l_other_ring; k_extra "go"
  refine made_crew_bad hB L ne fun H1 x1 => wH_yes ((F.kf.ex (x := "OtherHours") (y := "OtherHours") (by decide) (by decide)).trans (by decide)) fun e he => ?_
  have kc := F.kf.kc (x := "OtherHours") (by decide)
  k_extra "go"
  refine w_isX kc no_xd (F.ohk (b := true) (by decide)) ?_
  k_extra "go"
  refine w_isXT kc no_xd (F.kf.kv (x := "OtherHours") (by decide)) ?_
  k_extra "go"
  refine w_isX kc no_xd (F.ohk (b := false) (by decide)) ?_
  k_extra "go"
  refine w_isX kc no_xd (F.ohk (b := false) (by decide)) ?_
  k_extra "go"
  rename_i t ht u hu
  exact use_same (.tuple ([true, true, false, false].map PyData.bool)) (.tup (ext_new hu _ _ upd_same) (Nat.le_of_ble_eq_true rfl) (dn_bools [true, true, false, false])) (.tup upd_same (Nat.le_of_ble_eq_true rfl) (dn_bools [true, true, false, false])) (q _ (by k_extra "ext"))
theorem pure_l_grown {K : PySem.W.Frag} (F : KFH K) (vs : List V) (H : Hp) (Q : VK) (E : XK) (h : sp_l_grown K vs H Q E) : t_l_grown K E { nx := fun _ H' => Q .non H', rt := Q } (start ["crew", "turned", "k", "grown"] vs) H := by
  obtain ⟨a, b, k, C, rfl, hC, hD, q⟩ := h
  obtain ⟨dc, cb, l, c1, hB, L⟩ := id hC
  obtain ⟨dd, db, dl, d1, hB', L'⟩ := id hD
  k_extra "st"; unfold t_l_grown; k_extra "go"
  refine ⟨_, rfl, ?_⟩
  k_extra "go"
  refine ⟨a, dc, _, k, rfl, c1, rfl, a, k, C, rfl, hC, fun H1 g x1 G => ?_⟩
  obtain ⟨dg, gb, gl, g1, hBg, Lg⟩ := id G
  k_extra "go"
  refine ⟨g, _, _, _, rfl, g1, insAll_ok F.crew (x1 _ _ d1), F.nfc, g, .ref b, _, rfl, G, .inl ⟨b, _, rfl, hD.ext x1, ?_⟩⟩
  k_extra "go"
  refine use_same (.bool true) (by rw [decide_eq_true rfl]; exact .bl _ _) (.bl _ _) ?_
  k_extra "go"
  obtain ⟨okl, dxl, lml, i1, i2⟩ := id Lg
  obtain ⟨_, dxm, lmm, j1, j2⟩ := id L'
  have ln : (moved C.b.h.n k C.starts).length ≤ 360 := okl.len
  k_extra "go"
  refine ⟨gl, _, _, rfl, Lg, fun H2 p x2 hp => ?_⟩
  k_extra "go"
  refine ⟨dl, _, _, rfl, by k_extra "per", fun H3 p2 x3 hp2 => ?_⟩
  k_extra "go"
  exact use_same (.list ((moved C.b.h.n k C.starts).map PyData.int)) (dn_ints_at (by k_extra "hp") (by omega)) (dn_ints_at hp2 (by omega)) (q _ (by k_extra "ext"))
theorem pure_l_unlike {K : PySem.W.Frag} (F : KFH K) (vs : List V) (H : Hp) (Q : VK) (E : XK) (h : sp_l_unlike K vs H Q E) : t_l_unlike K E { nx := fun _ H' => Q .non H', rt := Q } (start ["crew", "others", "other"] vs) H := by
  obtain ⟨a, b, l, C, ys, rfl, hC, hl, hb, yl, hy, q⟩ := h
  obtain ⟨dc, cb, cl, c1, hB, L⟩ := id hC
  obtain ⟨dd, db, dl, d1, _, _⟩ := id hb
  k_extra "st"; unfold t_l_unlike; k_extra "go"
  let tv : Nat → V := fun j => .bl (!decide (j = 0))
  have hat : ∀ (i : Nat) (x : V), (V.ref b :: ys)[i]? = some x → (i = 0 ∧ x = .ref b) ∨ (i ≠ 0 ∧ Unl K H C x) := fun i x e => by
    cases i with
    | zero => cases e; exact .inl ⟨rfl, rfl⟩
    | succ j => exact .inr ⟨by omega, hy x (List.mem_of_getElem? e)⟩
  refine fun D hD => lcS (xs := V.ref b :: ys) (fun i H' => H' = upd H D (.lst ((List.range i).map tv))) rfl (fun i H' _ e => by rw [e]; exact src_list (sqL_of (ext_new hD _ _ hl))) ?_ ?_
  · rintro i x H' e rfl
    have il := (List.getElem?_eq_some_iff.mp e).1
    rw [List.length_cons] at il
    have x0 : Ext H (upd H D (.lst ((List.range i).map tv))) := ext_new hD
    have c1' := x0 _ _ c1
    have fin : ∀ r : Bool, (V.bl (!r)) = tv i → ∀ P : VK, P (tv i) (upd H D (.lst ((List.range i).map tv))) → P (V.bl (!r)) (upd H D (.lst ((List.range i).map tv))) := fun r er P p => by rw [er]; exact p
    have done : ∃ acc, (upd H D (.lst ((List.range i).map tv))) D = some (.lst acc) ∧ acc.length < sizeLine ∧ upd (upd H D (.lst ((List.range i).map tv))) D (.lst (acc ++ [tv i])) = upd H D (.lst ((List.range (i + 1)).map tv)) :=
      ⟨_, upd_same, by rw [List.length_map, List.length_range, sizeLine_eq]; omega, by rw [upd_upd, List.range_succ, List.map_append]; rfl⟩
    k_extra "go"
    refine ⟨rfl, ?_⟩
    k_extra "go"
    rcases hat i x e with ⟨rfl, rfl⟩ | ⟨hi, hu⟩
    · refine ⟨a, dc, _, _, rfl, c1', insAll_ok F.crew (x0 _ _ d1), F.nfc, a, .ref b, C, rfl, hC.ext x0, .inl ⟨b, C, rfl, hb.ext x0, _, rfl, ?_⟩⟩
      rw [decide_eq_true rfl]
      exact done
    · have ti : tv i = .bl true := by show V.bl (!decide (i = 0)) = _; rw [decide_eq_false hi]; rfl
      rcases hu with ⟨c, D', rfl, hD', ne⟩ | ⟨c, B, rfl, hB'⟩
      · obtain ⟨_, _, _, f1, _, _⟩ := id hD'
        refine ⟨a, dc, _, _, rfl, c1', insAll_ok F.crew (x0 _ _ f1), F.nfc, a, .ref c, C, rfl, hC.ext x0, .inl ⟨c, D', rfl, hD'.ext x0, _, rfl, ?_⟩⟩
        rw [decide_eq_false (Ne.symm ne)]
        show ∃ acc, _ ∧ _ ∧ upd _ D (.lst (acc ++ [V.bl true])) = _
        rw [← ti]
        exact done
      · obtain ⟨_, _, _, _, f1, _, _⟩ := id hB'
        refine ⟨a, dc, _, _, rfl, c1', insAll_ok F.beat (x0 _ _ f1), F.nfcb, a, .ref c, C, rfl, hC.ext x0, .inr ⟨_, insAll_ok F.beat (x0 _ _ f1), F.uncb, _, rfl, ?_⟩⟩
        show ∃ acc, _ ∧ _ ∧ upd _ D (.lst (acc ++ [V.bl true])) = _
        rw [← ti]
        exact done
  · rintro H' rfl
    have x0 : Ext H (upd H D (.lst ((List.range (V.ref b :: ys).length).map tv))) := ext_new hD
    have hl0 := x0 _ _ hl
    generalize hHD : upd H D (.lst ((List.range (V.ref b :: ys).length).map tv)) = HD at *
    have hDD : HD D = some (.lst ((List.range (V.ref b :: ys).length).map tv)) := by rw [← hHD, upd_same]
    k_extra "go"
    rename_i p hp s hs
    refine fun T hT => lcF (xs := cutV (V.ref b :: ys) (some 1) none) (fun _ => some (.bl true)) hT (fun H2 x2 => src_list (sqL_of (x2 _ _ upd_same))) (by have := cutV_length (V.ref b :: ys) (some 1) none; rw [List.length_cons] at this; rw [sizeLine_eq]; omega) ?_ ?_
    · intro x hx H2 x2 R N hR hN
      k_extra "go"
      exact hR _ rfl
    · have ec : cutV (V.ref b :: ys) (some 1) none = ys := by
        show ((V.ref b :: ys).drop (HT.sIx (ys.length + 1) 0 (some 1))).take (HT.sIx (ys.length + 1) (ys.length + 1) none - HT.sIx (ys.length + 1) 0 (some 1)) = ys
        rw [show HT.sIx (ys.length + 1) 0 (some 1) = 1 from by show min 1 (ys.length + 1) = 1; omega]
        show ys.take (ys.length + 1 - 1) = ys
        rw [Nat.add_sub_cancel, List.take_length]
      rw [ec] at hT ⊢
      have e1 : (List.filterMap (fun _ => some (V.bl true)) ys) = ys.map fun _ => V.bl true := by
        clear yl hy hl hat hl0 hDD hHD x0 ec hs hT
        induction ys with
        | nil => rfl
        | cons a r ih => rw [List.filterMap_cons, ih]; rfl
      rw [e1]
      have et : (List.range (V.ref b :: ys).length).map tv = ([false] ++ ys.map fun _ => true).map V.bl := by
        rw [List.length_cons, List.range_succ_eq_map, List.map_cons, List.map_map]
        show V.bl false :: _ = V.bl false :: (ys.map fun _ => true).map V.bl
        rw [List.map_map]
        congr 1
        refine List.ext_getElem? fun j => ?_
        rw [List.getElem?_map, List.getElem?_map]
        by_cases hj : j < ys.length
        · rw [List.getElem?_range hj, List.getElem?_eq_getElem hj]
          rfl
        · rw [List.getElem?_eq_none (by rw [List.length_range]; omega), List.getElem?_eq_none (by omega)]
          rfl
      have pT : p ≠ T := fun z => by rw [← z] at hT; rw [ext_new hs _ _ upd_same] at hT; cases hT
      refine w_cat (xs := [V.bl false]) (ys := ys.map fun _ => V.bl true) ?_ upd_same (by rw [List.length_map, sizeLine_eq]; simp; omega) fun q1 hq1 => ?_
      · rw [upd_ne pT]; exact ext_new hs _ _ upd_same
      · k_extra "go"
        have hD9 := hDD
        rw [et] at hD9
        have ln : (([false] ++ ys.map fun _ => true).map V.bl).length ≤ 200000 := by rw [List.length_map, List.length_append, List.length_map]; simp; omega
        have e9 : ([V.bl false] ++ ys.map fun _ => V.bl true) = ([false] ++ ys.map fun _ => true).map V.bl := by rw [List.map_append, List.map_map]; rfl
        refine use_same (.list (([false] ++ ys.map fun _ => true).map PyData.bool)) (.lst (by k_extra "hp") ln (dn_bools _)) (.lst (by rw [upd_same, e9]) ln (dn_bools _)) (q _ (by k_extra "ext"))
/-- rows that are being counted -/
structure RW (H0 H : Hp) (r : Addr) (ps : List Addr) (n : Int) (Z : Nat → List Int) : Prop where
  ext : Ext H0 H
  at_ : H r = some (.lst (ps.map V.ref))
  fr : H0 r = none
  fp : ∀ p ∈ ps, H0 p = none
  nd : ps.Nodup
  nr : r ∉ ps
  row : ∀ (g : Nat) (p : Addr), ps[g]? = some p → ∃ cs : List Int, H p = some (.lst (cs.map V.int)) ∧ CntRep n (Z g) cs
theorem RW.push {H0 H : Hp} {r D : Addr} {ps : List Addr} {n : Int} (h : RW H0 H r ps n fun _ => []) (hD : H D = none) :
    RW H0 (upd (upd H D (.lst ((List.replicate n.toNat (0 : Int)).map V.int))) r (.lst (ps.map V.ref ++ [.ref D]))) r (ps ++ [D]) n fun _ => [] := by
  have rD : r ≠ D := ne_of_none h.at_ hD
  have pD : ∀ p ∈ ps, p ≠ D := fun p hp => by
    obtain ⟨g, hg, e⟩ := List.getElem_of_mem hp
    obtain ⟨cs, hc, _⟩ := h.row g p (by rw [List.getElem?_eq_getElem hg, e])
    exact ne_of_none hc hD
  refine ⟨fun b o e => ?_, by rw [upd_same, List.map_append]; rfl, h.fr, fun p hp => ?_, ?_, fun hm => ?_, fun g p e => ?_⟩
  · rw [upd_ne (ne_of_none e h.fr), upd_ne (ne_of_none (h.ext _ _ e) hD)]
    exact h.ext _ _ e
  · rcases List.mem_append.mp hp with hp | hp
    · exact h.fp p hp
    · rw [List.mem_singleton.mp hp]; exact fr_of h.ext hD
  · exact List.nodup_append.mpr ⟨h.nd, by simp, fun x hx y hy e => pD x hx (by rw [e, List.mem_singleton.mp hy])⟩
  · rcases List.mem_append.mp hm with hm | hm
    · exact h.nr hm
    · exact rD (List.mem_singleton.mp hm)
  · by_cases hg : g < ps.length
    · rw [List.getElem?_append_left hg] at e
      obtain ⟨cs, hc, k⟩ := h.row g p e
      have hp := List.mem_of_getElem? e
      refine ⟨cs, ?_, k⟩
      rw [upd_ne (fun z => h.nr (by rw [← z]; exact hp)), upd_ne (pD p hp)]
      exact hc
    · rw [List.getElem?_append_right (by omega)] at e
      have e1 : g - ps.length = 0 := by
        have := (List.getElem?_eq_some_iff.mp e).1
        simp at this
        omega
      rw [e1] at e
      cases e
      exact ⟨_, by rw [upd_ne (Ne.symm rD), upd_same], CntRep.zero n⟩
theorem RW.count {H0 H : Hp} {r p : Addr} {ps : List Addr} {n w : Int} {Z Z' : Nat → List Int} {g : Nat} {cs : List Int} (h : RW H0 H r ps n Z) (e : ps[g]? = some p) (hc : H p = some (.lst (cs.map V.int))) (k : CntRep n (Z g) cs) (w0 : 0 ≤ w) (w1 : w < n)
    (hz : Z' g = Z g ++ [w]) (hz' : ∀ g', g' ≠ g → Z' g' = Z g') : RW H0 (upd H p (.lst ((cs.set w.toNat ((((Z g).count ((w.toNat : Nat) : Int) : Nat) : Int) + 1)).map V.int))) r ps n Z' := by
  have hp := List.mem_of_getElem? e
  refine ⟨fun b o eb => ?_, by rw [upd_ne (fun z => h.nr (by rw [z]; exact hp))]; exact h.at_, h.fr, h.fp, h.nd, h.nr, fun g' p' e' => ?_⟩
  · rw [upd_ne (ne_of_none eb (h.fp p hp))]; exact h.ext _ _ eb
  · by_cases eg : g' = g
    · subst eg
      rw [e] at e'
      cases e'
      exact ⟨_, upd_same, by rw [hz]; exact k.step w0 w1⟩
    · have np : p' ≠ p := fun z => by
        subst z
        have h1 := (List.getElem?_eq_some_iff.mp e)
        have h2 := (List.getElem?_eq_some_iff.mp e')
        exact eg ((List.getElem_inj (h₀ := h2.1) (h₁ := h1.1) h.nd).mp (h2.2.trans h1.2.symm))
      rw [upd_ne np, hz' g' eg]
      exact h.row g' p' e'
/-- what is met at gate g, so far -/
def metAt (n : Int) (steps : List Int) (g : Int) (s : Int) (ts : List Int) : List Int := (ts.filter fun t => decide (steps.getD t.toNat 0 = g)).map fun t => (s + t) % n
theorem pure_l_walked {K : PySem.W.Frag} (F : KFH K) (vs : List V) (H : Hp) (Q : VK) (E : XK) (h : sp_l_walked K vs H Q E) : t_l_walked K E { nx := fun _ H' => Q .non H', rt := Q } (start ["steps", "starts", "count", "n", "rows", "g", "s", "t", "row", "h"] vs) H := by
  obtain ⟨a, b, n, c, steps, starts, rfl, ha, hb, sl, n1, n2, c0, c4, rg, tl, q⟩ := h
  k_extra "st"; unfold t_l_walked; k_extra "go"
  rw [List.length_map, sl]
  rename_i r hr
  refine forS (xs := rngV 0 c.toNat) (fun i σ H' => ∃ (ps : List Addr) (v u w x y : Option V), σ = [some (.ref a), some (.ref b), some (.int c), some (.int n), some (.ref r), v, u, w, x, y] ∧ ps.length = i ∧ RW H H' r ps n fun _ => []) ⟨[], _, _, _, _, _, rfl, rfl, ⟨ext_new hr, (by rw [upd_same]; rfl), hr, fun p hp => (by cases hp), List.Pairwise.nil, fun hp => (by cases hp), fun g p e => (by simp at e)⟩⟩ (fun _ _ _ _ _ => src_rng) ?_ ?_
  · rintro i x σ H' e ⟨ps, v, u, w, x', y, rfl, pl, R⟩
    have e1 := R.at_
    have il := (List.getElem?_eq_some_iff.mp e).1
    rw [rngV_len] at il
    k_extra "go"
    refine fun D hD => lcF (xs := rngV 0 n.toNat) (fun _ => some (.int 0)) hD (fun _ _ => src_rng) (by rw [rngV_len, sizeLine_eq]; omega) ?_ ?_
    · intro x hx H2 x2 R N hR hN
      k_extra "go"
      exact hR _ rfl
    · have e0 : (rngV 0 n.toNat).filterMap (fun _ => some (V.int 0)) = (List.replicate n.toNat (0 : Int)).map V.int := by
        rw [List.map_replicate]
        unfold rngV
        induction n.toNat with
        | zero => rfl
        | succ k ih => rw [List.range_succ, List.map_append, List.filterMap_append, ih, List.replicate_succ']; rfl
      rw [e0]
      have rD := ne_of_none e1 hD
      k_extra "go"
      refine w_append (by k_extra "hp") (by rw [List.length_map, pl, sizeLine_eq]; omega) ?_
      k_extra "go"
      exact ⟨ps ++ [D], _, _, _, _, _, rfl, by rw [List.length_append, pl]; rfl, R.push hD⟩
  · rintro σ H' ⟨ps, v, u, w, x, y, rfl, pl, R⟩
    rw [rngV_len] at pl
    have hb' := R.ext _ _ hb
    k_extra "go"
    let Zs : Nat → Nat → List Int := fun i g => (starts.take i).flatMap fun s => metAt n steps g s (ring n)
    refine forS (xs := starts.map V.int) (fun i σ H2 => ∃ (v u w x y : Option V), σ = [some (.ref a), some (.ref b), some (.int c), some (.int n), some (.ref r), v, u, w, x, y] ∧ RW H H2 r ps n (Zs i)) ⟨_, _, _, _, _, rfl, R⟩ (fun i σ H2 _ p => by obtain ⟨_, _, _, _, _, _, R⟩ := p; exact src_list (sqL_of (R.ext _ _ hb))) ?_ ?_
    · rintro i x1 σ H2 e ⟨v, u, w, x, y, rfl, R2⟩
      obtain ⟨s, es, rfl⟩ : ∃ s, starts[i]? = some s ∧ x1 = .int s := by
        rw [List.getElem?_map] at e
        cases es : starts[i]? with
        | none => rw [es] at e; cases e
        | some s => rw [es] at e; cases e; exact ⟨s, rfl, rfl⟩
      k_extra "go"
      let Zt : Nat → Nat → List Int := fun j g => Zs i g ++ metAt n steps g s ((ring n).take j)
      refine forS (xs := rngV 0 n.toNat) (fun j σ H3 => ∃ (v w x y : Option V), σ = [some (.ref a), some (.ref b), some (.int c), some (.int n), some (.ref r), v, some (.int s), w, x, y] ∧ RW H H3 r ps n (Zt j)) ⟨_, _, _, _, rfl, by
        have : Zt 0 = Zs i := funext fun g => List.append_nil _
        rw [this]; exact R2⟩ (fun _ _ _ _ _ => src_rng) ?_ ?_
      · rintro j x2 σ H3 ej ⟨v, w, x, y, rfl, R3⟩
        rw [rng_ring] at ej
        obtain ⟨t, et, rfl⟩ : ∃ t, (ring n)[j]? = some t ∧ x2 = .int t := by
          rw [List.getElem?_map] at ej
          cases et : (ring n)[j]? with
          | none => rw [et] at ej; cases ej
          | some t => rw [et] at ej; cases ej; exact ⟨t, rfl, rfl⟩
        have ht := mem_ring.mp (List.mem_of_getElem? et)
        have tk : (ring n).take (j + 1) = (ring n).take j ++ [t] := by rw [List.take_add_one, et]; rfl
        have a3 := R3.ext _ _ ha
        have hst : steps.getD t.toNat 0 ∈ steps := by
          rw [List.getD_eq_getElem?_getD, List.getElem?_eq_getElem (by omega)]
          exact List.getElem_mem _
        have rs := rg _ hst
        have at1 : atI (steps.map V.int) t = some (.int (steps.getD t.toNat 0)) := atT_int ht.1 (by omega)
        k_extra "go"
        refine w_ixL (by k_extra "sq") at1 ?_
        k_extra "go"
        refine ite_two (fun e0 => ?_) fun e0 => ?_
        · have r3 := R3.at_
          obtain ⟨g, eg⟩ : ∃ g : Nat, steps.getD t.toNat 0 = (g : Int) := ⟨(steps.getD t.toNat 0).toNat, by omega⟩
          have gl : g < ps.length := by omega
          have gp : ps[g]? = some ps[g] := List.getElem?_eq_getElem gl
          obtain ⟨cs, hc, k⟩ := R3.row g _ gp
          have w9 := emod_rng n1 (s + t)
          k_extra "go"
          refine w_ixL (by k_extra "sq") at1 ?_
          refine w_ixL (by k_extra "sq") (by rw [eg]; exact atI_nat (k := g) rfl (show (ps.map V.ref)[g]? = some (.ref ps[g]) by rw [List.getElem?_map, gp]; rfl)) ?_
          k_extra "go"
          refine w_ixL (by k_extra "sq") (atI_nat (k := ((s + t) % n).toNat) (by omega) (map_get (k.at_ ((s + t) % n).toNat (by omega)))) ?_
          k_extra "go"
          refine w_setL (by k_extra "hp") (j := ((s + t) % n).toNat) ?_ ?_
          · unfold ixN
            rw [if_pos w9.1, if_pos (by rw [List.length_map, k.len]; omega)]
          · k_extra "go"
            refine ⟨_, _, _, _, rfl, ?_⟩
            have := R3.count gp hc k w9.1 w9.2 (Z' := Zt (j + 1)) ?_ ?_
            · rw [List.map_set] at this
              exact this
            · show Zs i g ++ metAt n steps g s ((ring n).take (j + 1)) = (Zs i g ++ metAt n steps g s ((ring n).take j)) ++ [(s + t) % n]
              rw [tk, List.append_assoc]
              congr 1
              unfold metAt
              rw [List.filter_append, List.map_append]
              congr 1
              rw [List.filter_cons, if_pos (by rw [eg]; simp)]
              rfl
            · intro g' hg'
              show Zs i g' ++ metAt n steps g' s ((ring n).take (j + 1)) = Zs i g' ++ metAt n steps g' s ((ring n).take j)
              rw [tk]
              congr 1
              unfold metAt
              rw [List.filter_append, List.map_append, List.filter_cons, if_neg (by rw [eg]; simp; omega)]
              simp
        · k_extra "go"
          refine ⟨_, _, _, _, rfl, ?_⟩
          have : Zt (j + 1) = Zt j := funext fun g => by
            show Zs i g ++ metAt n steps g s ((ring n).take (j + 1)) = Zs i g ++ metAt n steps g s ((ring n).take j)
            rw [tk]
            congr 1
            unfold metAt
            rw [List.filter_append, List.map_append, List.filter_cons, if_neg (fun z => by have := of_decide_eq_true z; omega)]
            simp
          rw [this]
          exact R3
      · rintro σ H3 ⟨v, w, x, y, rfl, R3⟩
        rw [rngV_len] at R3
        refine ⟨_, _, _, _, _, rfl, ?_⟩
        have : Zs (i + 1) = Zt n.toNat := funext fun g => by
          show ((starts.take (i + 1)).flatMap fun s => metAt n steps g s (ring n)) = ((starts.take i).flatMap fun s => metAt n steps g s (ring n)) ++ metAt n steps g s ((ring n).take n.toNat)
          have lr : (ring n).take n.toNat = ring n := List.take_of_length_le (by rw [ring_len]; exact Nat.le_refl _)
          rw [List.take_add_one, es, List.flatMap_append, lr]
          simp
        rw [this]
        exact R3
    · rintro σ H2 ⟨v, u, w, x, y, rfl, R2⟩
      rw [List.length_map] at R2
      k_extra "go"
      refine q H2 (.ref r) R2.ext ?_
      unfold rowsD
      refine .lst R2.at_ (by rw [List.length_map]; omega) (dn_of ?_ fun g v p e1 e2 => ?_)
      · rw [List.length_map, List.length_map]
        unfold walkRows
        rw [List.length_map, ring_len, pl]
      · rw [List.getElem?_map] at e1 e2
        cases ep : ps[g]? with
        | none => rw [ep] at e1; cases e1
        | some p0 =>
          rw [ep] at e1
          cases e1
          obtain ⟨cs, hc, k⟩ := R2.row g p0 ep
          have gl := (List.getElem?_eq_some_iff.mp ep).1
          have er : (walkRows n steps starts c)[g]? = some cs := by
            unfold walkRows
            rw [List.getElem?_map, ring_at (by omega), k.tally]
            show some (walkRow n steps starts g) = some (tally n ((starts.take starts.length).flatMap fun s => metAt n steps g s (ring n)))
            rw [List.take_length]
            rfl
          rw [er] at e2
          cases e2
          refine .lst hc (by rw [List.length_map, k.len]; omega) (dnInts _ _ _)
theorem beat_at_ring {B : Bd} (ok : BeatOk B) {t : Int} (n1 : 1 ≤ B.h.n) : B.at_ t ∈ B.steps := by
  have r := emod_rng n1 t
  have l1 := ok.len
  unfold Bd.at_
  rw [List.getD_eq_getElem?_getD, List.getElem?_eq_getElem (by omega)]
  exact List.getElem_mem _
theorem pure_l_works {K : PySem.W.Frag} (F : KFH K) (vs : List V) (H : Hp) (Q : VK) (E : XK) (h : sp_l_works K vs H Q E) : t_l_works K E { nx := fun _ H' => Q .non H', rt := Q } (start ["crew", "steps", "starts", "start", "n", "lot", "told", "e", "h"] vs) H := by
  obtain ⟨a, l, m, s, C, rfl, hC, hl, hm, q⟩ := h
  obtain ⟨dc, cb, cl, c1, hB, L⟩ := id hC
  obtain ⟨ok, dx, hh, st, h1, h2, h3⟩ := id hB
  obtain ⟨ok2, dx2, na, sk, g1, g2, g3⟩ := id h2
  have n1 := ok2.n1
  have n2 := ok2.n2
  have l1 := ok.len
  k_extra "st"; unfold t_l_works; k_extra "go"
  rw [List.length_map, l1]
  refine ⟨a, s, C, rfl, hC, ?_⟩
  by_cases hs : s % C.b.h.n ∈ C.starts
  · rw [if_pos hs]
    intro H1 p x1 hp
    obtain ⟨okp, dp, lp, p1, p2⟩ := id hp
    k_extra "go"
    refine w_notInI (.inl (by k_extra "sq")) ?_
    rw [decide_eq_true hs]
    k_extra "go"
    refine use_same (.int C.b.h.n) (.int _ _) (.int _ _) ?_
    k_extra "go"
    refine ⟨p, _, _, rfl, hp, fun H2 u x2 hu => ?_⟩
    k_extra "go"
    refine fun D hD => lcF (xs := rngV 0 C.b.h.n.toNat) (fI fun h => if 0 ≤ C.b.at_ (h - s) then some h else none) hD (fun _ _ => src_rng) (by rw [rngV_len, sizeLine_eq]; omega) ?_ ?_
    · intro x hx H3 x3 R N hR hN
      rw [rng_ring] at hx
      obtain ⟨i, hi, rfl⟩ := mem_mapI hx
      have r := emod_rng n1 (i - s)
      k_extra "go"
      refine w_ixL (by k_extra "sq") (atT_int r.1 (by omega)) ?_
      k_extra "go"
      refine ite_two (fun e => ?_) fun e => ?_
      · k_extra "go"
        exact hR _ (fI_hit (if_pos e))
      · exact hN (fI_miss (if_neg e))
    · rw [rng_ring, fm_fI, fm_if]
      k_extra "go"
      have ew : (ring C.b.h.n).filter (fun h => decide (0 ≤ C.b.at_ (h - s))) = C.works s := by
        unfold Cd.works
        refine congrArg (fun p => (ring C.b.h.n).filter p) (funext fun h => ?_)
        have := ok.rng _ (beat_at_ring ok (t := h - s) n1)
        exact decide_eq_decide.mpr ⟨fun z => by omega, fun z => by omega⟩
      rw [ew]
      have ln := okp.len
      exact use_same (.list ((C.works s).map PyData.int)) (dn_ints_at (by k_extra "hp") (by omega)) (dn_ints_at upd_same (by omega)) (q _ (by k_extra "ext"))
  · rw [if_neg hs]
    refine fun H1 x1 => wH_yes F.npx fun e he => ?_
    k_extra "go"
    refine w_isX F.npc no_xd (F.npk (b := true) (by decide)) ?_
    k_extra "go"
    refine w_isX F.npc no_xd (F.npk (b := false) (by decide)) ?_
    k_extra "go"
    refine w_isX F.npc no_xd (F.npk (b := false) (by decide)) ?_
    k_extra "go"
    rename_i t ht
    refine w_notInI (.inl (by k_extra "sq")) ?_
    rw [decide_eq_false hs]
    k_extra "go"
    rename_i u hu
    exact use_same (.tuple ([true, false, false].map PyData.bool)) (.tup (ext_new hu _ _ upd_same) (Nat.le_of_ble_eq_true rfl) (dn_bools [true, false, false])) (.tup upd_same (Nat.le_of_ble_eq_true rfl) (dn_bools [true, false, false])) (q _ (by k_extra "ext"))
theorem pure_l_shows {K : PySem.W.Frag} (F : KFH K) (vs : List V) (H : Hp) (Q : VK) (E : XK) (h : sp_l_shows K vs H Q E) : t_l_shows K E { nx := fun _ H' => Q .non H', rt := Q } (start ["crew", "house", "steps", "starts", "count", "laps", "n", "rows", "g", "row", "h", "start", "gate"] vs) H := by
  obtain ⟨a, hs, l, m, p, C, x, y, rfl, hC, hH, hl, hm, hp, x0, x1, y0, y1, q⟩ := h
  obtain ⟨dc, cb, cl, c1, hB, L⟩ := id hC
  obtain ⟨ok, dx, hh, st, b1, b2, b3⟩ := id hB
  obtain ⟨ok2, dx2, na, sk, g1, g2, g3⟩ := id b2
  obtain ⟨ok3, dx3, na3, sk3, i1, i2, i3⟩ := id hH
  obtain ⟨okl, dl, lm, l1, l2⟩ := id L
  have n1 := ok2.n1
  have n2 := ok2.n2
  have ln := ok.len
  have sl := okl.len
  have nl1 := ok2.g1
  have nl2 := ok2.g2
  have sl24 := asc_len _ 0 _ okl.asc okl.rng
  k_extra "st"; unfold t_l_shows; k_extra "go"
  rw [List.length_map, ln]
  refine ⟨l, m, C.b.h.n, C.b.h.names.length, C.b.steps, C.starts, rfl, hl, hm, ln, n1, n2, by omega, by omega, ok.rng, by omega, fun H1 rv z1 hrv => ?_⟩
  unfold rowsD at hrv
  obtain ⟨r, rs, rfl, hr, hrs⟩ := dn_list_at hrv
  have nth : ∀ g : Nat, g < C.b.h.names.length → ∃ v, rs[g]? = some v ∧ Dn H1 2 v (.list ((C.row g).map PyData.int)) := fun g hg => by
    refine dn_nth hrs.up (k := g) ?_
    rw [List.getElem?_map]
    unfold walkRows
    rw [List.getElem?_map, ring_at (by omega), row_walk n1]
    rfl
  k_extra "go"
  refine use_same (.int C.starts.length) (.int _ _) (by rw [List.length_map]; exact .int _ _) ?_
  k_extra "go"
  rename_i t ht
  refine use_same (.tuple (C.b.steps.map PyData.int)) (.tup (by k_extra "hp") (by rw [List.length_map]; omega) (dnInts _ _ _)) (.tup upd_same (by rw [List.length_map]; omega) (dnInts _ _ _)) ?_
  k_extra "go"
  refine use_same (.int C.b.h.n) (.int _ _) (.int _ _) ?_
  k_extra "go"
  refine ⟨cl, _, _, rfl, by k_extra "per", fun H2 u z2 hu => ?_⟩
  k_extra "go"
  refine use_same (.list (C.starts.map PyData.int)) (dn_ints_at hu (by omega)) (dn_ints_at (by k_extra "hp") (by omega)) ?_
  k_extra "go"
  refine ⟨hh, _, _, _, rfl, by k_extra "hp", insAll_ok F.house (show H2 hs = _ by k_extra "hp"), F.nfh, hh, .ref hs, C.b.h, rfl, by k_extra "per", .inl ⟨hs, C.b.h, rfl, by k_extra "per", ?_⟩⟩
  rw [decide_eq_true rfl]
  k_extra "go"
  refine use_same (.bool true) (.bl _ _) (.bl _ _) ?_
  k_extra "go"
  have z4 : Ext H1 H2 := by k_extra "ext"
  have z3 : Ext H H2 := z1.trans z4
  clear ht hu
  refine forS (xs := rngV 0 C.b.h.names.length) (fun i σ H' => Ext H2 H' ∧ ∃ v w, σ = [some (.ref a), some (.ref hs), some (.ref l), some (.ref m), some (.int C.b.h.names.length), some (.ref p), some (.int C.b.h.n), some (.ref r), v, w, none, none, none]) ⟨Ext.refl _, _, _, rfl⟩ (fun _ _ _ _ _ => src_rng) ?_ ?_
  · rintro i x σ H3 e ⟨z5, v, w, rfl⟩
    rw [rngV_get] at e
    by_cases hi : i < C.b.h.names.length
    · rw [if_pos hi] at e
      cases e
      obtain ⟨rv, er, dr⟩ := nth i hi
      have z6 : Ext H H3 := z3.trans z5
      have z7 : Ext H1 H3 := z4.trans z5
      have hC3 := hC.ext z6
      have c3 := z6 _ _ c1
      have hr3 := z7 _ _ hr
      have dr3 := dr.ext z7
      have ati : ∀ k : Int, k = i → atI rs k = some rv := fun k hk => atI_nat hk er
      have rl : (C.row (0 + (i : Int))).length ≤ 24 := by unfold Cd.row; rw [List.length_map, ring_len]; omega
      have rl1 : 1 ≤ (C.row (0 + (i : Int))).length := by unfold Cd.row; rw [List.length_map, ring_len]; omega
      rw [show (i : Int) = 0 + (i : Int) by omega] at dr3
      have pg : (0 : Int) ≤ 0 + (i : Int) ∧ 0 + (i : Int) < C.b.h.names.length := by omega
      have pg2 : (-1 : Int) ≤ 0 + (i : Int) ∧ 0 + (i : Int) < C.b.h.names.length := by omega
      k_extra "go"
      refine ⟨a, _, C, rfl, hC3, ?_⟩
      rw [if_pos pg]
      intro H4 p4 z8 n4 h4
      k_extra "go"
      refine w_ixL (by k_extra "sq") (ati _ (by omega)) ?_
      k_extra "go"
      refine use_same _ (dn_ints_at h4 (by omega)) (by k_extra "per") ?_
      k_extra "go"
      have b4 := z8 _ _ (z6 _ _ b1)
      k_extra "go"
      refine ⟨cb, _, C.b, rfl, by k_extra "per", ?_⟩
      rw [if_pos pg2]
      intro H5 lb z9 LB
      k_extra "go"
      refine ⟨cl, _, _, rfl, by k_extra "per", fun H6 nb z10 NB => ?_⟩
      k_extra "go"
      refine ⟨lb, nb, _, _, _, rfl, by k_extra "per", by k_extra "per", fun H7 q7 z11 h7 => ?_⟩
      k_extra "go"
      refine w_ixL (by k_extra "sq") (ati _ (by omega)) ?_
      k_extra "go"
      rw [meet_walk n1, ← row_walk n1] at h7
      refine use_same _ (dn_ints_at h7 (by omega)) (by k_extra "per") ?_
      k_extra "go"
      refine w_setL (by k_extra "hp") (j := 0) (by unfold ixN; rw [if_pos (by decide), if_pos (by rw [List.length_map]; omega)]; rfl) ?_
      k_extra "go"
      refine w_append upd_same (by rw [List.length_set, List.length_map, sizeLine_eq]; omega) ?_
      rw [upd_upd]
      have z12 : Ext H3 H7 := by k_extra "ext"
      have z13 : Ext H3 (upd H7 p4 (.lst (((C.row (0 + (i : Int))).map V.int).set 0 (.int 97) ++ [.int 1]))) := ext_set z12 n4
      generalize (upd H7 p4 (.lst (((C.row (0 + (i : Int))).map V.int).set 0 (.int 97) ++ [.int 1]))) = H8 at *
      clear z8 z9 z10 z11 z12
      k_extra "go"
      refine ⟨a, _, C, rfl, by k_extra "per", ?_⟩
      rw [if_pos pg]
      intro H9 p9 z14 n9 h9
      k_extra "go"
      refine w_ixL (by k_extra "sq") (ati _ (by omega)) ?_
      k_extra "go"
      refine use_same _ (dn_ints_at h9 (by omega)) (by k_extra "per") ?_
      k_extra "go"
      exact ⟨by k_extra "ext", _, _, rfl⟩
    · rw [if_neg hi] at e; cases e
  · rintro σ H3 ⟨z5, v, w, rfl⟩
    have z6 : Ext H H3 := z3.trans z5
    k_extra "go"
    have big : ∀ z : Int, 0 ≤ z → z < 2 ^ 200 → True := fun _ _ _ => trivial
    refine forS (xs := rngV 0 C.b.h.n.toNat) (fun i σ H' => Ext H3 H' ∧ ∃ v' w', σ = [some (.ref a), some (.ref hs), some (.ref l), some (.ref m), some (.int C.b.h.names.length), some (.ref p), some (.int C.b.h.n), some (.ref r), v, w, v', w', none]) ⟨Ext.refl _, _, _, rfl⟩ (fun _ _ _ _ _ => src_rng) ?_ ?_
    · rintro i x9 σ H4 e ⟨z7, v', w', rfl⟩
      rw [rngV_get] at e
      by_cases hi : i < C.b.h.n.toNat
      · rw [if_pos hi] at e
        cases e
        have hp4 := z7 _ _ (z6 _ _ hp)
        k_extra "go"
        rename_i t ht
        generalize ht4 : (upd H4 t (.lst [V.int (0 + (i : Int)), V.int (0 + (i : Int) + C.b.h.n * x), V.int (0 + (i : Int) - C.b.h.n * y)])) = H5
        have z8 : Ext H4 H5 := by rw [← ht4]; exact ext_new ht
        have h5 : H5 t = some (.lst ([0 + (i : Int), 0 + (i : Int) + C.b.h.n * x, 0 + (i : Int) - C.b.h.n * y].map V.int)) := by rw [← ht4, upd_same]; rfl
        refine forS (xs := [0 + (i : Int), 0 + (i : Int) + C.b.h.n * x, 0 + (i : Int) - C.b.h.n * y].map V.int) (fun j σ H' => Ext H5 H' ∧ ∃ w', σ = [some (.ref a), some (.ref hs), some (.ref l), some (.ref m), some (.int C.b.h.names.length), some (.ref p), some (.int C.b.h.n), some (.ref r), v, w, some (.int (0 + (i : Int))), w', none]) ⟨Ext.refl _, _, rfl⟩ (fun j σ H' _ q => src_list (sqL_of (q.1 _ _ h5))) ?_ ?_
        · rintro j x8 σ H6 ej ⟨z9, w', rfl⟩
          obtain ⟨s, hs', rfl⟩ := mem_mapI (List.mem_of_getElem? ej)
          have z10 : Ext H H6 := ((z6.trans z7).trans z8).trans z9
          k_extra "go"
          refine ⟨a, l, m, s, C, rfl, hC.ext z10, z10 _ _ hl, z10 _ _ hm, fun H7 z11 => ?_⟩
          k_extra "go"
          exact ⟨z9.trans z11, _, rfl⟩
        · rintro σ H6 ⟨z9, w', rfl⟩
          exact ⟨(z7.trans z8).trans z9, _, _, rfl⟩
      · rw [if_neg hi] at e; cases e
    · rintro σ H4 ⟨z7, v', w', rfl⟩
      have hp4 := z7 _ _ (z6 _ _ hp)
      k_extra "go"
      rename_i t ht
      have h5 : (upd H4 t (.lst [V.int (-1), V.int C.b.h.names.length, V.int (C.b.h.names.length + x), V.int (-2 - y)])) t = some (.lst ([-1, (C.b.h.names.length : Int), C.b.h.names.length + x, -2 - y].map V.int)) := by rw [upd_same]; rfl
      generalize ht4 : (upd H4 t (.lst [V.int (-1), V.int C.b.h.names.length, V.int (C.b.h.names.length + x), V.int (-2 - y)])) = H5 at *
      have z8 : Ext H4 H5 := by rw [← ht4]; exact ext_new ht
      refine forS (xs := [-1, (C.b.h.names.length : Int), C.b.h.names.length + x, -2 - y].map V.int) (fun j σ H' => Ext H5 H' ∧ ∃ u', σ = [some (.ref a), some (.ref hs), some (.ref l), some (.ref m), some (.int C.b.h.names.length), some (.ref p), some (.int C.b.h.n), some (.ref r), v, w, v', w', u']) ⟨Ext.refl _, _, rfl⟩ (fun j σ H' _ q => src_list (sqL_of (q.1 _ _ h5))) ?_ ?_
      · rintro j x8 σ H6 ej ⟨z9, u', rfl⟩
        obtain ⟨s, hs', rfl⟩ := mem_mapI (List.mem_of_getElem? ej)
        have z10 : Ext H H6 := ((z6.trans z7).trans z8).trans z9
        k_extra "go"
        refine ⟨a, s, C, rfl, hC.ext z10, ?_, fun H7 z11 => ?_⟩
        · simp only [List.mem_cons, List.not_mem_nil, or_false] at hs'
          rcases hs' with rfl | rfl | rfl | rfl <;> omega
        · k_extra "go"
          exact ⟨z9.trans z11, _, rfl⟩
      · rintro σ H6 ⟨z9, u', rfl⟩
        k_extra "go"
        exact q _ (((z6.trans z7).trans z8).trans z9)
theorem rising_lot {n : Int} {ms : List Int} (h : Rising n ms) (n1 : 1 ≤ n) (n2 : n ≤ 360) : LotOk n ms := ⟨n1, n2, h.1, h.2⟩
theorem lot_again {n : Int} {ms : List Int} (ok : LotOk n ms) : srt (ms.map fun m => m % n) = ms := by
  rw [mod_id ok.rng, srt_of_le (lt_le ok.asc)]
theorem made_lot' {K : PySem.W.Frag} {H1 : Hp} {Qx : Addr → Hp → Prop} {E : XK} {l : Addr} {n : Int} {ms : List Int} (hl : SqL K H1 l (ms.map V.int)) (ok : LotOk n ms) (hQ : ∀ H' a, Ext H1 H' → LotAt K H' a n ms → Qx a H') :
    ∀ x dx, H1 x = none → H1 dx = none → dx ≠ x → sp_Lot_init K [.ref x, .int n, .ref l] (upd (upd H1 dx (.own x)) x (.ins (He.ga K "Lot") dx [])) (fun v H2 => v = .non ∧ Qx x H2) E := by
  have ln := ok.len
  refine made_lot hl ok.n1 ok.n2 (by omega) (by rw [mod_id ok.rng]; exact lt_nodup ok.asc) fun H' a x1 L => hQ H' a x1 ?_
  rw [lot_again ok] at L
  exact L
theorem dn_take {H : Hp} {d : Nat} : ∀ {vs : List V} {ps : List PyData} (k : Nat), DnAll H d vs ps → DnAll H d (vs.take k) (ps.take k)
  | _, _, 0, _ => by rw [List.take_zero, List.take_zero]; exact .nil d
  | _, _, k + 1, .nil _ => by rw [List.take_nil, List.take_nil]; exact .nil d
  | _, _, k + 1, .cons h r => by rw [List.take_succ_cons, List.take_succ_cons]; exact .cons h (dn_take k r)
theorem cut_to {xs : List V} {k : Nat} : cutV xs none (some (k : Int)) = xs.take k := by
  show (xs.drop 0).take (HT.sIx xs.length xs.length (some (k : Int)) - 0) = _
  rw [HT.sIx_nat, List.drop_zero, Nat.sub_zero]
  exact List.take_eq_take_min.symm
theorem gates_take {names : List Str} {stakes : List Int} (k : Nat) : ((names.zip stakes).map fun p => PyData.tuple [.str p.1, .int p.2]).take k = ((names.take k).zip (stakes.take k)).map fun p => .tuple [.str p.1, .int p.2] := by
  rw [← List.map_take]
  congr 1
  induction names generalizing stakes k with
  | nil => simp
  | cons a r ih =>
    cases stakes with
    | nil => simp
    | cons b s =>
      cases k with
      | zero => simp
      | succ k => rw [List.zip_cons_cons, List.take_succ_cons, List.take_succ_cons, List.take_succ_cons, List.zip_cons_cons, ih]
theorem gates_cut {H : Hp} {l p : Addr} {vs : List V} {names : List Str} {stakes : List Int} {k : Nat} (h : H l = some (.lst vs)) (hd : DnAll H 1 vs ((names.zip stakes).map fun p => .tuple [.str p.1, .int p.2])) (hp : H p = none) (ln : vs.length ≤ 200000) :
    Dn (upd H p (.lst (cutV vs none (some (k : Int))))) 2 (.ref p) (gatesD (names.take k) (stakes.take k)) := by
  unfold gatesD
  rw [cut_to]
  refine .lst upd_same (by rw [List.length_take]; omega) ?_
  rw [← gates_take]
  exact (dn_take k hd).ext (ext_new hp)
theorem pure_l_great {K : PySem.W.Frag} (F : KFH K) (vs : List V) (H : Hp) (Q : VK) (E : XK) (h : sp_l_great K vs H Q E) : t_l_great K E { nx := fun _ H' => Q .non H', rt := Q } (start ["script", "gates", "house", "count", "steps", "draws", "starts", "crew", "told", "h", "place", "g"] vs) H := by
  obtain ⟨a, v, ns, ss, xs, rfl, ha, hv, xl1, xl4, sl, nd, nm, st, q⟩ := h
  obtain ⟨l, vs, rfl, hl, hd⟩ := dn_list_at hv
  have lv : vs.length = xs.length := by rw [dn_len hd, List.length_map, List.length_zip]; omega
  k_extra "st"; unfold t_l_great; k_extra "go"
  rename_i p hp
  have A : HouseOk ⟨24, xs.take 2, ss.take 2⟩ := ⟨(by decide : (1 : Int) ≤ 24), (by decide : (24 : Int) ≤ 24), by rw [List.length_take]; omega, by rw [List.length_take]; omega, by rw [List.length_take, List.length_take]; omega, by
    show 24 * ((xs.take 2).length : Int) ≤ 48
    rw [List.length_take]; omega, fun x hx => nm x (List.mem_of_mem_take hx), nd.sublist (List.take_sublist 2 xs), fun s hs => st s (List.mem_of_mem_take hs)⟩
  refine made_house (A := ⟨24, xs.take 2, ss.take 2⟩) A (gates_cut hl hd hp (by omega)) fun H1 hs x1 hH => ?_
  have z1 : Ext H H1 := x1.of (ext_new hp) 
  have hl1 := z1 _ _ hl
  k_extra "go"
  rename_i p2 hp2
  have hc2 : ((cutV vs none (some 2)).length : Int) = ((xs.take 2).length : Nat) := by
    rw [show cutV vs none (some 2) = vs.take 2 from cut_to (k := 2), List.length_take, List.length_take, lv]
  rw [hc2]
  have c1 : 1 ≤ (xs.take 2).length := A.g1
  have c2 : (xs.take 2).length ≤ 2 := by rw [List.length_take]; omega
  generalize hcount : (xs.take 2).length = cnt at *
  refine ⟨a, ns, 9, rfl, by k_extra "sq", fun r r0 => ?_⟩
  k_extra "go"
  refine fun D hD => lcF (xs := rngV 0 24) (fun _ => some (.int ((cnt : Int) + 1))) hD (fun _ _ => src_rng) (by decide) ?_ ?_
  · intro x hx H3 x3 R N hR hN
    k_extra "go"
    exact hR _ rfl
  · have e0 : (rngV 0 24).filterMap (fun _ => some (V.int ((cnt : Int) + 1))) = (List.replicate 24 ((cnt : Int) + 1)).map V.int := rfl
    rw [e0]
    k_extra "go"
    refine use_draws _ r0 (by decide) (by decide) (sqL_of upd_same) (by rw [List.length_replicate]; decide) (fun m hm => by rw [List.eq_of_mem_replicate hm]; omega) fun H2 p3 ds x3 hp3 h3 hds => ?_
    have dl := inM_len hds
    rw [List.length_replicate] at dl
    have db := inM_rep hds
    k_extra "go"
    refine fun T hT => lcF (xs := ds.map V.int) (fI fun d => some (d - 1)) hT (fun H' x => src_list (sqL_of (x _ _ h3))) (by rw [List.length_map, dl]; decide) ?_ ?_
    · intro x hx H3 x4 R N hR hN
      obtain ⟨d, hd', rfl⟩ := mem_mapI hx
      k_extra "go"
      exact hR _ rfl
    · rw [fm_fI, fm_some]
      have z2 : Ext H1 H2 := ((x3.of (ext_new hD)).of (ext_new hp2))
      generalize hst : ds.map (fun d => d - 1) = steps at *
      have stl : steps.length = 24 := by rw [← hst, List.length_map, dl]
      have stb : ∀ s ∈ steps, -1 ≤ s ∧ s < cnt := fun s hs' => by
        rw [← hst] at hs'
        obtain ⟨d, hd', rfl⟩ := List.mem_map.mp hs'
        have := db d hd'
        omega
      k_extra "go"
      refine ⟨a, ns, 10, rfl, by k_extra "sq", fun r2 r20 => ?_⟩
      k_extra "go"
      refine ⟨24, rfl, by decide, by decide, ?_⟩
      k_extra "go"
      rename_i m hm
      refine use_draws [2 ^ 24, 24] r20 (by decide) (by decide) (sqL_of upd_same) (by decide) (by decide) fun H4 p5 dd x5 hp5 h5 hdd => ?_
      obtain ⟨d0, _, rfl, b0, hdd⟩ := inM_cons hdd
      obtain ⟨d1, _, rfl, b1, hdd⟩ := inM_cons hdd
      obtain rfl := inM_nil hdd
      have z3 : Ext (upd H2 T (.lst (steps.map V.int))) H4 := x5.of (ext_new hm)
      have hT4 := z3 _ _ upd_same
      k_extra "go"
      refine ⟨24, d0, rfl, by decide, by decide, fun H5 p6 starts x6 hp6 h6 rs => ?_⟩
      have hT5 := x6 _ _ hT4
      have okl := rising_lot rs (by decide) (by decide)
      have sl5 := okl.len
      have z4 : Ext H1 H5 := ((x6.of z3).of (ext_new hT)).of z2
      have hH5 := hH.ext z4
      k_extra "go"
      rename_i q1 hq1
      have B : BeatOk ⟨⟨24, xs.take 2, ss.take 2⟩, steps⟩ := ⟨by show (steps.length : Int) = 24; omega, fun p hp => by show -1 ≤ p ∧ p < ((xs.take 2).length : Nat); rw [hcount]; exact stb p hp⟩
      refine made_beat B (hH5.ext (ext_new hq1)) upd_same fun H6 bt x7 hB => ?_
      have z5 : Ext H5 H6 := x7.of (ext_new hq1)
      have h66 := z5 _ _ h6
      k_extra "go"
      rename_i q2 hq2
      refine made_lot' (sqL_of upd_same) okl fun H7 lt x8 hL => ?_
      have z6 : Ext H6 H7 := x8.of (ext_new hq2)
      k_extra "go"
      refine made_crew (hB.ext z6) hL fun H8 cr x9 hC => ?_
      have z7 : Ext H5 H8 := (x9.of z6).of z5
      obtain ⟨dcr, cb, cl, e1, _, _⟩ := id hC
      k_extra "go"
      refine fun W hW => lcD (d := 1) (xs := rngV 0 cnt) (fun v => match v with | .int g => .list ((Cd.row ⟨⟨⟨24, xs.take 2, ss.take 2⟩, steps⟩, starts⟩ g).map PyData.int) | _ => .none) hW (fun _ _ => src_rng) (by rw [rngV_len]; omega) ?_ ?_
      · intro x hx H9 x10 ⟨acc, hacc⟩ R hR
        obtain ⟨g, hg, rfl⟩ := List.mem_map.mp hx
        have hg := List.mem_range.mp hg
        k_extra "go"
        refine ⟨cr, _, _, rfl, hC.ext x10, ?_⟩
        rw [if_pos (by show 0 ≤ _ ∧ _ < ((xs.take 2).length : Int); rw [hcount]; omega)]
        intro H10 pr x11 npr hpr
        have rl : (Cd.row ⟨⟨⟨24, xs.take 2, ss.take 2⟩, steps⟩, starts⟩ (0 + (g : Int))).length = 24 := by unfold Cd.row; rw [List.length_map, ring_len]; rfl
        exact hR _ _ x11 (.lst (wo_at (Ne.symm (ne_of_none hacc npr)) hpr) (by rw [List.length_map, rl]; decide) (dnInts _ _ _))
      · intro H9 x10 hW9
        have z8 : Ext H5 H9 := z7.trans x10
        have hT9 := z8 _ _ hT5
        have h69 := z8 _ _ h6
        have h59 := z8 _ _ (x6 _ _ h5)
        have hC9 := hC.ext x10
        k_extra "go"
        refine ⟨T, p6, 24, cnt, steps, starts, rfl, hT9, h69, by omega, by decide, by decide, by omega, by omega, stb, by have := asc_len _ 0 _ okl.asc okl.rng; omega, fun H10 v x11 hv' => ?_⟩
        k_extra "go"
        refine use_same _ (hW9.ext x11) ?_ ?_
        · have er : (rngV 0 cnt).map (fun v => match v with | .int g => PyData.list ((Cd.row ⟨⟨⟨24, xs.take 2, ss.take 2⟩, steps⟩, starts⟩ g).map PyData.int) | _ => .none) = (walkRows 24 steps starts cnt).map fun r => .list (r.map PyData.int) := by
            unfold walkRows
            rw [List.map_map]
            show _ = (ring cnt).map _
            have : rngV 0 cnt = (ring cnt).map V.int := rng_ring cnt
            rw [this, List.map_map]
            refine List.map_congr_left fun g _ => ?_
            show PyData.list _ = PyData.list _
            rw [row_walk (show (1 : Int) ≤ 24 by decide)]
          rw [er]
          exact hv'
        · k_extra "go"
          exact ⟨cr, T, p6, d1, _, rfl, by k_extra "per", by k_extra "per", by k_extra "per", fun H11 x12 => q _ (((((((x12.of x11).of z8).of z4).of z1))))⟩
theorem cut_toI {xs : List Int} {c : Int} (h : 0 ≤ c) : cutV (xs.map V.int) none (some c) = (xs.take c.toNat).map V.int := by
  have := cut_to (xs := xs.map V.int) (k := c.toNat)
  rw [show ((c.toNat : Nat) : Int) = c by omega] at this
  rw [this, List.map_take]
theorem pure_law_head {K : PySem.W.Frag} (F : KFH K) (vs : List V) (H : Hp) (Q : VK) (E : XK) (h : sp_law K vs H Q E)
    (tail : ∀ (H' : Hp) (a top gl hs lS lM lp bt lt cr lN : Addr) (ns : List Int) (A : Hd) (steps starts : List Int) (x y t2 : Int), B13 K H' a top gl hs lS lM lp bt lt cr ns A steps starts x y t2 →
      t_law_12 K E { nx := fun _ H' => Q .non H', rt := Q } [some (.ref a), some (.ref top), some (.int A.names.length), some (.int A.n), some (.ref lN), some (.ref gl), some (.ref hs), some (.ref lS), some (.ref lM), some (.ref lp), some (.ref bt), some (.ref lt), some (.ref cr), none, none, none, none, none, none, none, none, none, none, none, none, none, none, none, none, none] H') :
    t_law K E { nx := fun _ H' => Q .non H', rt := Q } (start ["script", "top", "count", "n", "numbers", "gates", "house", "steps", "starts", "laps", "beat", "lot", "crew", "draws", "spot", "changed", "fewer", "other", "few", "k", "j", "turned", "ring", "stakes", "twin", "away", "alike", "h", "place", "g"] vs) H := by
  obtain ⟨a, ns, rfl, ha, q⟩ := h
  k_extra "st"; unfold t_law; k_extra "go"
  refine ⟨a, ns, 0, rfl, ha, fun r0 h0 => ?_⟩
  k_extra "go"
  rename_i m1 hm1
  refine use_draws [4, 10, 4] h0 (by decide) (by decide) (sqL_of upd_same) (by decide) (by decide) fun H1 p1 dd z1 hp1 h1 hd => ?_
  obtain ⟨d0, _, rfl, b0, hd⟩ := inM_cons hd
  obtain ⟨d1, _, rfl, b1, hd⟩ := inM_cons hd
  obtain ⟨d2, _, rfl, b2, hd⟩ := inM_cons hd
  obtain rfl := inM_nil hd
  k_extra "go"
  refine ⟨a, ns, 1, rfl, by k_extra "sq", fun r1 h01 => ?_⟩
  k_extra "go"
  rename_i m2 hm2
  refine use_draws [10 ^ 12, 10 ^ 12, 10 ^ 12, 10 ^ 12] h01 (by decide) (by decide) (sqL_of upd_same) (by decide) (by decide) fun H2 p2 nums z2 hp2 h2 hnum => ?_
  have nl := inM_len hnum
  have nb := inM_rep (n := 4) hnum
  k_extra "go"
  rename_i p3 hp3
  have e3 : cutV (nums.map V.int) none (some (1 + d0)) = (nums.take (1 + d0).toNat).map V.int := cut_toI (by omega)
  refine ⟨a, ns, 2, rfl, by k_extra "sq", fun r2 h02 => ?_⟩
  k_extra "go"
  rename_i m3 hm3
  refine use_draws [61, 61, 61, 61] h02 (by decide) (by decide) (sqL_of upd_same) (by decide) (by decide) fun H3 p4 st z3 hp4 h4 hst => ?_
  have sl := inM_len hst
  have sb := inM_rep (n := 4) hst
  have c0 : (1 + d0).toNat ≤ 4 := by omega
  have nl : nums.length = 4 := nl
  have sl : st.length = 4 := sl
  have y1 : Ext H H3 := ((((z3.of (ext_new hm3)).of (ext_new hp3)).of z2).of (ext_new hm2)).of (z1.of (ext_new hm1))
  have y2 : Ext H1 H3 := (((z3.of (ext_new hm3)).of (ext_new hp3)).of z2).of (ext_new hm2)
  k_extra "go"
  have ln3 : (nums.take (1 + d0).toNat).length = (1 + d0).toNat := by rw [List.length_take]; omega
  refine ⟨p3, p4, nums.take (1 + d0).toNat, st, rfl, ?_, sqL_of h4, by omega, by omega, fun i hi => by have := nb i (List.mem_of_mem_take hi); omega, fun H4 gv xs z4 hgv xl xnd xok => ?_⟩
  · rw [← e3]
    exact sqL_of (z3 _ _ (ext_new hm3 _ _ upd_same))
  rw [ln3] at hgv xl
  obtain ⟨gl, gs, rfl, hgl, hgd⟩ := dn_list_at hgv
  have gll : gs.length ≤ 4 := by rw [dn_len hgd, List.length_map, List.length_zip]; omega
  k_extra "go"
  rename_i g2 hg2
  have A : HouseOk ⟨1 + d1, xs, st.take (1 + d0).toNat⟩ := ⟨by show (1 : Int) ≤ 1 + d1; omega, by show 1 + d1 ≤ (24 : Int); omega, by show 1 ≤ xs.length; omega, by show xs.length ≤ 4; omega, by show (st.take _).length = xs.length; rw [List.length_take]; omega, by
    show (1 + d1) * (xs.length : Int) ≤ 48
    have : (1 + d1) * (xs.length : Int) ≤ 10 * 4 := Int.mul_le_mul (by omega) (by omega) (by omega) (by omega)
    omega, xok, xnd, fun s hs => by have := sb s (List.mem_of_mem_take hs); omega⟩
  have ec : (1 + d0) = (xs.length : Int) := by omega
  refine made_house (A := ⟨1 + d1, xs, st.take (1 + d0).toNat⟩) A ?_ fun H5 hs z5 hH => ?_
  · unfold gatesD
    exact .lst upd_same (by omega) (hgd.ext (ext_new hg2))
  have y3 : Ext H H5 := (z5.of (ext_new hg2)).of (y1.trans z4)
  have y4 : Ext H1 H5 := (z5.of (ext_new hg2)).of (y2.trans z4)
  have y5 : Ext H4 H5 := z5.of (ext_new hg2)
  rw [ec]
  generalize hn : 1 + d1 = n at *
  have n1 : 1 ≤ n := by omega
  have n2 : n ≤ 10 := by omega
  generalize hAA : (⟨n, xs, st.take (1 + d0).toNat⟩ : Hd) = AA at *
  have An : AA.n = n := by rw [← hAA]
  have Ax : AA.names = xs := by rw [← hAA]
  have ha5 := sqL_ext y3 ha
  have h15 := y4 _ _ h1
  have hg5 : Dn H5 2 (.ref gl) (gatesD AA.names AA.stakes) := by rw [← hAA]; exact hgv.ext y5
  clear hgd hgv hgl h2 h4 hp4 hm3 hp3 hm2 hm1 z1 z2 z3 z4 z5 y1 y2 y3 y4 y5 hp1 hp2
  k_extra "go"
  refine ⟨a, ns, 3, rfl, ha5, fun r3 h03 => ?_⟩
  k_extra "go"
  refine fun D hD => lcF (xs := rngV 0 n.toNat) (fun _ => some (.int ((xs.length : Int) + 1))) hD (fun _ _ => src_rng) (by rw [rngV_len, sizeLine_eq]; omega) ?_ ?_
  · intro x hx H3 x3 R N hR hN
    k_extra "go"
    exact hR _ rfl
  · have e0 : ∀ k : Nat, (rngV 0 k).filterMap (fun _ => some (V.int ((xs.length : Int) + 1))) = (List.replicate k ((xs.length : Int) + 1)).map V.int := fun k => by
      rw [List.map_replicate]
      unfold rngV
      induction k with
      | zero => rfl
      | succ k ih => rw [List.range_succ, List.map_append, List.filterMap_append, ih, List.replicate_succ']; rfl
    rw [e0]
    k_extra "go"
    refine use_draws _ h03 (by decide) (by decide) (sqL_of upd_same) (by rw [List.length_replicate]; omega) (fun m hm => by rw [List.eq_of_mem_replicate hm]; omega) fun H6 p6 ds z6 hp6 h6 hds => ?_
    have dl := inM_len hds
    rw [List.length_replicate] at dl
    have db := inM_rep hds
    k_extra "go"
    refine fun T hT => lcF (xs := ds.map V.int) (fI fun d => some (d - 1)) hT (fun H' x => src_list (sqL_of (x _ _ h6))) (by rw [List.length_map, dl, sizeLine_eq]; omega) ?_ ?_
    · intro x hx H3 x4 R N hR hN
      obtain ⟨d, hd', rfl⟩ := mem_mapI hx
      k_extra "go"
      exact hR _ rfl
    · rw [fm_fI, fm_some]
      have z7 : Ext H5 H6 := z6.of (ext_new hD)
      generalize hstp : ds.map (fun d => d - 1) = steps at *
      have stl : (steps.length : Int) = n := by rw [← hstp, List.length_map, dl]; omega
      have stb : ∀ s ∈ steps, -1 ≤ s ∧ s < xs.length := fun s hs' => by
        rw [← hstp] at hs'
        obtain ⟨d, hd', rfl⟩ := List.mem_map.mp hs'
        have := db d hd'
        omega
      k_extra "go"
      refine ⟨a, ns, 4, rfl, by k_extra "sq", fun r4 h04 => ?_⟩
      k_extra "go"
      refine ⟨n, rfl, by omega, by omega, ?_⟩
      k_extra "go"
      rename_i m4 hm4
      have p2n : (1 : Int) ≤ 2 ^ n.toNat ∧ (2 : Int) ^ n.toNat < 2 ^ 200 := ⟨by have := Int.pow_pos (n := 2) (m := n.toNat) (by decide); omega, by
        have := Nat.pow_lt_pow_right (a := 2) (by decide) (show n.toNat < 200 by omega)
        exact_mod_cast this⟩
      refine use_draws [2 ^ n.toNat] h04 (by decide) (by decide) (sqL_of upd_same) (Nat.le_of_ble_eq_true rfl) (fun m hm => by rw [List.mem_singleton.mp hm]; exact p2n) fun H7 p7 dd z8 hp7 h7 hdd => ?_
      obtain ⟨d4, _, rfl, b4, hdd⟩ := inM_cons hdd
      obtain rfl := inM_nil hdd
      k_extra "go"
      refine ⟨n, d4, rfl, by omega, by omega, fun H8 p8 starts z9 hp8 h8 rs => ?_⟩
      have okl := rising_lot rs n1 (by omega)
      have sl5 := okl.len
      have z10 : Ext (upd H6 T (.lst (steps.map V.int))) H8 := (z9.of z8).of (ext_new hm4)
      have hT8 := z10 _ _ upd_same
      have z11 : Ext H5 H8 := (z10.of (ext_new hT)).of z7
      k_extra "go"
      refine ⟨a, ns, 5, rfl, sqL_ext z11 ha5, fun r5 h05 => ?_⟩
      k_extra "go"
      rename_i m5 hm5
      refine use_draws [10 ^ 57, 10 ^ 57] h05 (by decide) (by decide) (sqL_of upd_same) (by decide) (by decide) fun H9 p9 dd z12 hp9 h9 hdd => ?_
      obtain ⟨x, _, rfl, bx, hdd⟩ := inM_cons hdd
      obtain ⟨y, _, rfl, by', hdd⟩ := inM_cons hdd
      obtain rfl := inM_nil hdd
      have z13 : Ext H8 H9 := z12.of (ext_new hm5)
      have hT9 := z13 _ _ hT8
      have h89 := z13 _ _ h8
      have hH9 := hH.ext (z11.trans z13)
      k_extra "go"
      rename_i q1 hq1
      have B : BeatOk ⟨AA, steps⟩ := ⟨by show (steps.length : Int) = AA.n; omega, fun p hp => by show -1 ≤ p ∧ p < (AA.names.length : Int); rw [Ax]; exact stb p hp⟩
      refine made_beat B (hH9.ext (ext_new hq1)) upd_same fun H10 bt z14 hB => ?_
      have z15 : Ext H9 H10 := z14.of (ext_new hq1)
      have h810 := z15 _ _ h89
      k_extra "go"
      rename_i q2 hq2
      refine made_lot' (sqL_of upd_same) okl fun H11 lt z16 hL => ?_
      have z17 : Ext H10 H11 := z16.of (ext_new hq2)
      k_extra "go"
      rw [← An] at hL
      refine made_crew (hB.ext z17) hL fun H12 cr z18 hC => ?_
      have w1 : Ext H9 H12 := (z18.of z17).of z15
      have w2 : Ext H5 H12 := z11.trans (z13.trans w1)
      k_extra "go"
      have := tail H12 a p1 gl hs T p8 p9 bt lt cr p2 ns AA steps starts x y d2 ⟨sqL_ext w2 ha5, ⟨d0, d1, w2 _ _ h15⟩, hg5.ext w2, hH.ext w2, by omega, w1 _ _ hT9, w1 _ _ h89, w1 _ _ h9, bx.1, bx.2, by'.1, by'.2, hB.ext (z18.of z17), hL.ext z18, hC⟩
      rw [Ax, An] at this
      exact this
theorem pure_law_12 {K : PySem.W.Frag} (F : KFH K) (H : Hp) (Q : VK) (E : XK) (q : ∀ H', Q (.bl true) H') (a top gl hs lS lM lp bt lt cr lN : Addr) (ns : List Int) (A : Hd) (steps starts : List Int) (x y t2 : Int) (B : B13 K H a top gl hs lS lM lp bt lt cr ns A steps starts x y t2)
    (tail : ∀ (H' : Hp) (dw ot fw lc lf : Addr) (sp : Int) (changed fewer : List Int) (d3 d4 : Int), B13 K H' a top gl hs lS lM lp bt lt cr ns A steps starts x y t2 → B23 K H' dw ot fw A steps starts changed fewer d3 d4 →
      t_law_22 K E { nx := fun _ H' => Q .non H', rt := Q } [some (.ref a), some (.ref top), some (.int A.names.length), some (.int A.n), some (.ref lN), some (.ref gl), some (.ref hs), some (.ref lS), some (.ref lM), some (.ref lp), some (.ref bt), some (.ref lt), some (.ref cr), some (.ref dw), some (.int sp), some (.ref lc), some (.ref lf), some (.ref ot), some (.ref fw), none, none, none, none, none, none, none, none, none, none, none] H') :
    t_law_12 K E { nx := fun _ H' => Q .non H', rt := Q } [some (.ref a), some (.ref top), some (.int A.names.length), some (.int A.n), some (.ref lN), some (.ref gl), some (.ref hs), some (.ref lS), some (.ref lM), some (.ref lp), some (.ref bt), some (.ref lt), some (.ref cr), none, none, none, none, none, none, none, none, none, none, none, none, none, none, none, none, none] H := by
  have okA := B.hA.1
  obtain ⟨okB, _⟩ := id B.hB
  have okl := B.hL.1
  have n1 := okA.n1
  have n10 := B.n10
  have sl : (steps.length : Int) = A.n := okB.len
  have gl1 := okA.g1
  have gl4 := okA.g2
  have sl5 := okl.len
  unfold t_law_12; k_extra "go"
  have bigx : x < 2 ^ 200 := by have := B.x1; omega
  have bigy : y < 2 ^ 200 := by have := B.y1; omega
  refine ⟨cr, hs, lS, lM, lp, _, x, y, rfl, B.hC, B.hA, B.hS, B.hM, B.hp, B.x0, bigx, B.y0, bigy, fun H1 z1 => ?_⟩
  have B1 := B.ext z1
  have ha1 := B1.ha
  have hS1 := B1.hS
  have hM1 := B1.hM
  k_extra "go"
  refine ⟨a, ns, 6, rfl, ha1, fun r h0 => ?_⟩
  k_extra "go"
  rename_i m1 hm1
  refine use_draws [10, 10, 4, 5, 61] h0 (by decide) (by decide) (sqL_of upd_same) (by decide) (by decide) fun H2 p2 dd z2 hp2 h2 hd => ?_
  obtain ⟨d0, _, rfl, b0, hd⟩ := inM_cons hd
  obtain ⟨d1, _, rfl, b1, hd⟩ := inM_cons hd
  obtain ⟨d2, _, rfl, b2, hd⟩ := inM_cons hd
  obtain ⟨d3, _, rfl, b3, hd⟩ := inM_cons hd
  obtain ⟨d4, _, rfl, b4, hd⟩ := inM_cons hd
  obtain rfl := inM_nil hd
  have z3 : Ext H1 H2 := z2.of (ext_new hm1)
  have B2 := B1.ext z3
  have hS2 := B2.hS
  have rs := emod_rng n1 d0
  have rs1 := emod_rng n1 d1
  have rc := emod_rng (n := (A.names.length : Int)) (by omega) d2
  have ats : atI (steps.map V.int) (d0 % A.n) = some (.int (steps.getD (d0 % A.n).toNat 0)) := atT_int rs.1 (by omega)
  have hold : steps.getD (d0 % A.n).toNat 0 ∈ steps := by
    rw [List.getD_eq_getElem?_getD, List.getElem?_eq_getElem (by omega)]
    exact List.getElem_mem _
  have bold := okB.rng _ hold
  have bold : -1 ≤ steps.getD (d0 % A.n).toNat 0 ∧ steps.getD (d0 % A.n).toNat 0 < (A.names.length : Int) := bold
  generalize hov : steps.getD (d0 % A.n).toNat 0 = ov at *
  k_extra "go"
  rename_i lc hlc
  refine w_ixL (sqL_of (ext_new hlc _ _ hS2)) ats ?_
  k_extra "go"
  have ixn : ixN (steps.map V.int).length (d0 % A.n) = some (d0 % A.n).toNat := by
    unfold ixN
    rw [if_pos rs.1, if_pos (by rw [List.length_map]; omega)]
  refine w_setL upd_same ixn ?_
  rw [upd_upd, ← List.map_set (f := V.int)]
  generalize hnv : (ov + 2 + d2 % (A.names.length : Int)) % ((A.names.length : Int) + 1) - 1 = nv
  have rnv := emod_rng (n := (A.names.length : Int) + 1) (by omega) (ov + 2 + d2 % (A.names.length : Int))
  have nvb : -1 ≤ nv ∧ nv < (A.names.length : Int) := by omega
  have nvo : nv ≠ ov := fun e => by
    have e1 : (ov + 2 + d2 % (A.names.length : Int)) % ((A.names.length : Int) + 1) = ov + 1 := by omega
    have e2 : (ov + 1) % ((A.names.length : Int) + 1) = ov + 1 := Int.emod_eq_of_lt (by omega) (by omega)
    have e3 : (ov + 2 + d2 % (A.names.length : Int) - (ov + 1)) % ((A.names.length : Int) + 1) = 0 := by
      rw [Int.sub_emod, e1, e2]; simp
    rw [show ov + 2 + d2 % (A.names.length : Int) - (ov + 1) = 1 + d2 % (A.names.length : Int) by omega, Int.emod_eq_of_lt (by omega) (by omega)] at e3
    omega
  generalize hch : steps.set (d0 % A.n).toNat nv = changed
  have chl : (changed.length : Int) = A.n := by rw [← hch, List.length_set]; exact sl
  have chb : ∀ s ∈ changed, -1 ≤ s ∧ s < (A.names.length : Int) := fun s hs' => by
    rw [← hch] at hs'
    rcases List.mem_or_eq_of_mem_set hs' with h | h
    · exact okB.rng s h
    · rw [h]; exact nvb
  have chn : changed ≠ steps := fun e => nvo (by
    rw [← hov, ← e, ← hch, List.getD_eq_getElem?_getD, List.getElem?_set_self (by omega)]
    rfl)
  have z4 : Ext H2 (upd H2 lc (.lst (changed.map V.int))) := ext_new hlc
  have hlc3 : (upd H2 lc (.lst (changed.map V.int))) lc = some (.lst (changed.map V.int)) := upd_same
  generalize (upd H2 lc (.lst (changed.map V.int))) = H3 at *
  have B3 := B2.ext z4
  have hM3 := B3.hM
  have h23 := z4 _ _ h2
  k_extra "go"
  let spot := d1 % A.n
  refine fun D hD => lcF (xs := rngV 0 A.n.toNat) (fI fun h => if decide (h ∈ starts) ≠ decide (h = d1 % A.n) then some h else none) hD (fun _ _ => src_rng) (by rw [rngV_len, sizeLine_eq]; omega) ?_ ?_
  · intro w hw H4 z5 R N hR hN
    rw [rng_ring] at hw
    obtain ⟨i, hi, rfl⟩ := mem_mapI hw
    k_extra "go"
    refine w_inI (.inl (by k_extra "sq")) ?_
    k_extra "go"
    refine ite_ntwo (fun e => ?_) fun e => ?_
    · k_extra "go"
      exact hR _ (fI_hit (if_pos e))
    · exact hN (fI_miss (if_neg (fun z => z e)))
  · rw [rng_ring, fm_fI, fm_if]
    generalize hfw : (ring A.n).filter (fun h => decide (decide (h ∈ starts) ≠ decide (h = d1 % A.n))) = fewer
    have okf : LotOk A.n fewer := ⟨n1, by omega, by rw [← hfw]; exact (ring_asc _).sublist List.filter_sublist, fun m hm => by rw [← hfw] at hm; exact mem_ring.mp (List.mem_filter.mp hm).1⟩
    have fne : fewer ≠ starts := fun e => by
      have hm : (d1 % A.n ∈ fewer) ↔ ¬ (d1 % A.n ∈ starts) := by
        rw [← hfw, List.mem_filter]
        constructor
        · rintro ⟨_, h⟩ hs'
          have := of_decide_eq_true h
          rw [decide_eq_true hs', decide_eq_true rfl] at this
          exact this rfl
        · intro hs'
          exact ⟨mem_ring.mpr rs1, decide_eq_true (by rw [decide_eq_false hs', decide_eq_true rfl]; exact Bool.false_ne_true)⟩
      rw [e] at hm
      by_cases h : d1 % A.n ∈ starts
      · exact hm.mp h h
      · exact h (hm.mpr h)
    have z5 : Ext H3 (upd H3 D (.lst (fewer.map V.int))) := ext_new hD
    have hD4 : (upd H3 D (.lst (fewer.map V.int))) D = some (.lst (fewer.map V.int)) := upd_same
    generalize (upd H3 D (.lst (fewer.map V.int))) = H4 at *
    have B4 := B3.ext z5
    have hlc4 := z5 _ _ hlc3
    k_extra "go"
    rename_i q1 hq1
    have okC : BeatOk ⟨A, changed⟩ := ⟨chl, chb⟩
    refine made_beat okC (B4.hA.ext (ext_new hq1)) upd_same fun H5 ob z6 hOB => ?_
    have z7 : Ext H4 H5 := z6.of (ext_new hq1)
    k_extra "go"
    refine made_crew hOB (B4.hL.ext z7) fun H6 ot z8 hO => ?_
    have z9 : Ext H4 H6 := z8.of z7
    have hD6 := z9 _ _ hD4
    k_extra "go"
    rename_i q2 hq2
    refine made_lot' (sqL_of upd_same) okf fun H7 fl z10 hFL => ?_
    have z11 : Ext H4 H7 := (z10.of (ext_new hq2)).of z9
    have z12 : Ext H6 H7 := z10.of (ext_new hq2)
    k_extra "go"
    refine made_crew (B := ⟨A, steps⟩) (B4.hB.ext z11) hFL fun H8 fw z13 hF => ?_
    have z14 : Ext H4 H8 := z13.of z11
    have B8 := B4.ext z14
    have hO8 := hO.ext (z13.of z12)
    k_extra "go"
    refine ⟨ot, hs, lc, lM, lp, _, x, y, rfl, hO8, B8.hA, z14 _ _ hlc4, B8.hM, B8.hp, B8.x0, bigx, B8.y0, bigy, fun H9 z15 => ?_⟩
    have B9 := B8.ext z15
    k_extra "go"
    refine ⟨fw, hs, lS, D, lp, _, x, y, rfl, hF.ext z15, B9.hA, B9.hS, z15 _ _ (z14 _ _ hD4), B9.hp, B9.x0, bigx, B9.y0, bigy, fun H10 z16 => ?_⟩
    k_extra "go"
    have zz : Ext H4 H10 := z16.of (z15.of z14)
    exact tail H10 p2 ot fw lc D (d1 % A.n) changed fewer d3 d4 (B9.ext z16) ⟨⟨d0, d1, d2, zz _ _ (z5 _ _ h23)⟩, b3, b4, hO8.ext (z16.of z15), hF.ext (z16.of z15), chn, fne⟩
theorem pure_law_22 {K : PySem.W.Frag} (F : KFH K) (H : Hp) (Q : VK) (E : XK) (q : ∀ H', Q (.bl true) H') (a top gl hs lS lM lp bt lt cr lN dw ot fw lc lf : Addr) (sp : Int) (ns : List Int) (A : Hd) (steps starts changed fewer : List Int) (x y t2 d3 d4 : Int)
    (B : B13 K H a top gl hs lS lM lp bt lt cr ns A steps starts x y t2) (C : B23 K H dw ot fw A steps starts changed fewer d3 d4)
    (tail : ∀ (H' : Hp) (tn : Addr) (k j rg : Int), B13 K H' a top gl hs lS lM lp bt lt cr ns A steps starts x y t2 → B23 K H' dw ot fw A steps starts changed fewer d3 d4 → B33 K H' tn A steps starts k rg →
      t_law_29 K E { nx := fun _ H' => Q .non H', rt := Q } [some (.ref a), some (.ref top), some (.int A.names.length), some (.int A.n), some (.ref lN), some (.ref gl), some (.ref hs), some (.ref lS), some (.ref lM), some (.ref lp), some (.ref bt), some (.ref lt), some (.ref cr), some (.ref dw), some (.int sp), some (.ref lc), some (.ref lf), some (.ref ot), some (.ref fw), some (.int k), some (.int j), some (.ref tn), some (.int rg), none, none, none, none, none, none, none] H') :
    t_law_22 K E { nx := fun _ H' => Q .non H', rt := Q } [some (.ref a), some (.ref top), some (.int A.names.length), some (.int A.n), some (.ref lN), some (.ref gl), some (.ref hs), some (.ref lS), some (.ref lM), some (.ref lp), some (.ref bt), some (.ref lt), some (.ref cr), some (.ref dw), some (.int sp), some (.ref lc), some (.ref lf), some (.ref ot), some (.ref fw), none, none, none, none, none, none, none, none, none, none, none] H := by
  have okA := B.hA.1
  have okl := B.hL.1
  have n1 := okA.n1
  have n10 := B.n10
  have sl5 := okl.len
  have bigx : x < 2 ^ 200 := by have := B.x1; omega
  have bigy : y < 2 ^ 200 := by have := B.y1; omega
  unfold t_law_22; k_extra "go"
  refine ⟨a, ns, 7, rfl, B.ha, fun r7 h7 => ?_⟩
  k_extra "go"
  refine ⟨r7, 8, rfl, h7, by decide, by decide, fun H1 k z1 kb => ?_⟩
  have B1 := B.ext z1
  k_extra "go"
  refine ⟨a, ns, 8, rfl, B1.ha, fun r8 h8 => ?_⟩
  k_extra "go"
  refine ⟨r8, 9, rfl, h8, by decide, by decide, fun H2 j z2 jb => ?_⟩
  have B2 := B1.ext z2
  obtain ⟨dc, cb, cl, c1, _, _⟩ := id B2.hC
  k_extra "go"
  refine ⟨cr, k, _, rfl, B2.hC, fun H3 tn z3 hT => ?_⟩
  have B3 := B2.ext z3
  have hM3 := B3.hM
  k_extra "go"
  have step : ∀ (H3 : Hp) (D : Addr) (ms : List Int), True := fun _ _ _ => trivial
  refine fun D hD => lcF (xs := rngV 0 A.n.toNat) (fI fun h => if (h - k) % A.n ∈ starts then some h else none) hD (fun _ _ => src_rng) (by rw [rngV_len, sizeLine_eq]; omega) ?_ ?_
  · intro w hw H4 z5 R N hR hN
    rw [rng_ring] at hw
    obtain ⟨i, hi, rfl⟩ := mem_mapI hw
    k_extra "go"
    refine w_inI (.inl (by k_extra "sq")) ?_
    k_extra "go"
    refine ite_two (fun e => ?_) fun e => ?_
    · k_extra "go"
      exact hR _ (fI_hit (if_pos e))
    · exact hN (fI_miss (if_neg e))
  · rw [rng_ring, fm_fI, fm_if, filter_moved okl]
    have z4 : Ext H3 (upd H3 D (.lst ((moved A.n k starts).map V.int))) := ext_new hD
    have hD4 : (upd H3 D (.lst ((moved A.n k starts).map V.int))) D = some (.lst ((moved A.n k starts).map V.int)) := upd_same
    generalize (upd H3 D (.lst ((moved A.n k starts).map V.int))) = H4 at *
    have B4 := B3.ext z4
    have hT4 := hT.ext z4
    k_extra "go"
    refine ⟨tn, hs, lS, D, lp, _, x, y, rfl, hT4, B4.hA, B4.hS, hD4, B4.hp, B4.x0, bigx, B4.y0, bigy, fun H5 z5 => ?_⟩
    have B5 := B4.ext z5
    have hT5 := hT4.ext z5
    obtain ⟨dt, tb, tl, t1, _, _⟩ := id hT5
    obtain ⟨dc, cb, cl, c1, _, _⟩ := id B5.hC
    k_extra "go"
    refine ⟨tn, j, _, rfl, hT5, fun H6 u z6 hU => ?_⟩
    have c16 := z6 _ _ c1
    k_extra "go"
    refine ⟨cr, k + j, _, rfl, B5.hC.ext z6, fun H7 w z7 hW => ?_⟩
    k_extra "go"
    refine use_eqCrew F (hU.ext z7) hW ?_
    rw [decide_eq_true (show (⟨⟨A, steps⟩, moved A.n j (moved A.n k starts)⟩ : Cd) = ⟨⟨A, steps⟩, moved A.n (k + j) starts⟩ by rw [moved_moved okl])]
    k_extra "go"
    refine use_same (.bool true) (.bl _ _) (.bl _ _) ?_
    have zz : Ext H5 H7 := z7.of z6
    have B7 := B5.ext zz
    obtain ⟨_, dl, ll, l1, l2⟩ := id B7.hL
    k_extra "go"
    refine ⟨lt, A.n, k, starts, rfl, B7.hL, fun H8 tl2 z8 hTL => ?_⟩
    k_extra "go"
    refine made_crew (B := ⟨A, steps⟩) (B7.hB.ext z8) hTL fun H9 cr2 z9 hC2 => ?_
    have z10 : Ext H7 H9 := z9.of z8
    have hT9 := hT5.ext (z10.of zz)
    k_extra "go"
    refine use_eqCrew F hT9 hC2 ?_
    rw [decide_eq_true (show (⟨⟨A, steps⟩, moved A.n k starts⟩ : Cd) = ⟨⟨A, steps⟩, srt (starts.map fun m => (m + k) % A.n)⟩ from rfl)]
    k_extra "go"
    refine use_same (.bool true) (.bl _ _) (.bl _ _) ?_
    obtain ⟨dt, tb, tl, t1, _, _⟩ := id hT9
    k_extra "go"
    refine ⟨tn, j, _, rfl, hT9, fun H10 v z11 hV => ?_⟩
    obtain ⟨dv, vb, vl, v1, _, hVL⟩ := id hV
    obtain ⟨okv, dvl, vm, vl1, vl2⟩ := id hVL
    have z12 : Ext H5 H10 := z11.of (z10.of zz)
    have B10 := B5.ext z12
    k_extra "go"
    refine ⟨vl, _, _, rfl, hVL, fun H11 pm z13 hpm => ?_⟩
    have B11 := B10.ext z13
    have hM11 := B11.hM
    k_extra "go"
    refine fun D hD => lcF (xs := rngV 0 A.n.toNat) (fI fun h => if (h - (k + j)) % A.n ∈ starts then some h else none) hD (fun _ _ => src_rng) (by rw [rngV_len, sizeLine_eq]; omega) ?_ ?_
    · intro w hw H4 z5 R N hR hN
      rw [rng_ring] at hw
      obtain ⟨i, hi, rfl⟩ := mem_mapI hw
      k_extra "go"
      refine w_inI (.inl (by k_extra "sq")) ?_
      rw [show i - k - j = i - (k + j) by omega]
      k_extra "go"
      refine ite_two (fun e => ?_) fun e => ?_
      · k_extra "go"
        exact hR _ (fI_hit (if_pos e))
      · exact hN (fI_miss (if_neg e))
    · rw [rng_ring, fm_fI, fm_if, filter_moved okl, ← moved_moved okl]
      have ml : (moved A.n j (moved A.n k starts)).length ≤ 360 := okv.len
      have z14 : Ext H11 (upd H11 D (.lst ((moved A.n j (moved A.n k starts)).map V.int))) := ext_new hD
      k_extra "go"
      refine use_same (.list ((moved A.n j (moved A.n k starts)).map PyData.int)) (dn_ints_at (z14 _ _ hpm) (by omega)) (dn_ints_at upd_same (by omega)) ?_
      generalize (upd H11 D (.lst ((moved A.n j (moved A.n k starts)).map V.int))) = H12 at *
      have B12 := B11.ext z14
      have C12 := C.ext (((((z14.of z13).of z12).of z5).of z4).of (z3.of (z2.of z1)))
      obtain ⟨e0, e1, e2, hdw⟩ := C12.hd
      have b3 := C12.b3
      have b4 := C12.b4
      k_extra "go"
      rename_i rl hrl
      have hr : ∃ rg : Int, atI [V.int (A.n + 1), V.int (2 * A.n), V.int (if A.n - 1 > 1 then A.n - 1 else 1), V.int (A.n + 7 + d4), V.int 360] d3 = some (.int rg) ∧ 1 ≤ rg ∧ rg ≤ 360 := by
        rcases (show d3 = 0 ∨ d3 = 1 ∨ d3 = 2 ∨ d3 = 3 ∨ d3 = 4 by omega) with rfl | rfl | rfl | rfl | rfl
        · exact ⟨_, rfl, by omega, by omega⟩
        · exact ⟨_, rfl, by omega, by omega⟩
        · exact ⟨_, rfl, by split <;> omega, by split <;> omega⟩
        · exact ⟨_, rfl, by omega, by omega⟩
        · exact ⟨_, rfl, by omega, by omega⟩
      obtain ⟨rg, er, rg1, rg2⟩ := hr
      refine w_ixL (by k_extra "sq") er ?_
      k_extra "go"
      have z15 := ext_new (o := .lst [V.int (A.n + 1), V.int (2 * A.n), V.int (if A.n - 1 > 1 then A.n - 1 else 1), V.int (A.n + 7 + d4), V.int 360]) hrl
      exact tail _ tn k j rg (B12.ext z15) (C12.ext z15) ⟨(hT9.ext z11).ext ((z15.of z14).of z13), rg1, rg2⟩
theorem gate_nth {H : Hp} {gl : Addr} {names : List Str} {stakes : List Int} (h : Dn H 2 (.ref gl) (gatesD names stakes)) (hl : stakes.length = names.length) : ∃ vs, H gl = some (.lst vs) ∧ vs.length = names.length ∧ DnAll H 1 vs ((names.zip stakes).map fun p => .tuple [.str p.1, .int p.2]) ∧
    ∀ g : Nat, g < names.length → ∃ t, vs[g]? = some (.ref t) ∧ H t = some (.tup [.str (names.getD g ""), .int (stakes.getD g 0)]) := by
  obtain ⟨l, vs, e, hv, hd⟩ := dn_list_at h
  cases e
  refine ⟨vs, hv, by rw [dn_len hd, List.length_map, List.length_zip]; omega, hd, fun g hg => ?_⟩
  have gn : names[g]? = some (names.getD g "") := by rw [List.getD_eq_getElem?_getD, List.getElem?_eq_getElem hg]; rfl
  have gs : stakes[g]? = some (stakes.getD g 0) := by rw [List.getD_eq_getElem?_getD, List.getElem?_eq_getElem (by omega)]; rfl
  obtain ⟨v, ev, dv⟩ := dn_nth hd (k := g) (p := .tuple [.str (names.getD g ""), .int (stakes.getD g 0)]) (by
    rw [List.getElem?_map, show (names.zip stakes)[g]? = some (names.getD g "", stakes.getD g 0) by rw [List.getElem?_zip_eq_some]; exact ⟨gn, gs⟩]; rfl)
  cases dv with
  | tup ht _ r =>
    cases r with
    | cons d1 r => cases r with
      | cons d2 r =>
        cases r; cases d1; cases d2
        exact ⟨_, ev, ht⟩
theorem pure_law_29 {K : PySem.W.Frag} (F : KFH K) (H : Hp) (Q : VK) (E : XK) (q : ∀ H', Q (.bl true) H') (a top gl hs lS lM lp bt lt cr lN dw ot fw lc lf tn : Addr) (sp k j rg : Int) (ns : List Int) (A : Hd) (steps starts changed fewer : List Int) (x y t2 d3 d4 : Int)
    (B : B13 K H a top gl hs lS lM lp bt lt cr ns A steps starts x y t2) (C : B23 K H dw ot fw A steps starts changed fewer d3 d4) (D : B33 K H tn A steps starts k rg) :
    t_law_29 K E { nx := fun _ H' => Q .non H', rt := Q } [some (.ref a), some (.ref top), some (.int A.names.length), some (.int A.n), some (.ref lN), some (.ref gl), some (.ref hs), some (.ref lS), some (.ref lM), some (.ref lp), some (.ref bt), some (.ref lt), some (.ref cr), some (.ref dw), some (.int sp), some (.ref lc), some (.ref lf), some (.ref ot), some (.ref fw), some (.int k), some (.int j), some (.ref tn), some (.int rg), none, none, none, none, none, none, none] H := by
  have okA := B.hA.1
  obtain ⟨okB, _⟩ := id B.hB
  have okl := B.hL.1
  have n1 := okA.n1
  have n10 := B.n10
  have sl5 := okl.len
  have gl1 := okA.g1
  have gl4 := okA.g2
  have bigx : x < 2 ^ 200 := by have := B.x1; omega
  have bigy : y < 2 ^ 200 := by have := B.y1; omega
  have bx0 := B.x0
  have r1 := D.r1
  have r2 := D.r2
  unfold t_law_29
  refine w_seq ?_
  have first : ∀ (X : L2.St → Hp → Prop) (σ : L2.St), (∀ H1, Ext H H1 → X σ H1) → σ = [some (.ref a), some (.ref top), some (.int A.names.length), some (.int A.n), some (.ref lN), some (.ref gl), some (.ref hs), some (.ref lS), some (.ref lM), some (.ref lp), some (.ref bt), some (.ref lt), some (.ref cr), some (.ref dw), some (.int sp), some (.ref lc), some (.ref lf), some (.ref ot), some (.ref fw), some (.int k), some (.int j), some (.ref tn), some (.int rg), none, none, none, none, none, none, none] →
      (tIfS (tAnd (tTest (tOp rNe (tVar 22) (tVar 3))) (tNot (tB (tC1 (sp_l_other_ring K) (wE E) (tCons (tVar 10) (tCons (tMk1 (He.ga K "Lot") (sp_Lot_init K) (wE E) (tCons (tVar 22) (tCons (tLc (iList K (tVar 8)) (gName 27) (tTest (tOp rLtI (tVar 27) (tVar 22))) (tVar 27) [27]) tNil))) tNil)))))) (tRet (tC (.bl false))) tNext) { nx := X, rt := Q } σ H := by
    intro X σ hX rfl
    have hM := B.hM
    k_extra "go"
    refine ite_ntwo (fun hne => ?_) fun he => ?_
    · k_extra "go"
      refine fun T hT => lcF (xs := starts.map V.int) (fI fun h => if h < rg then some h else none) hT (fun H' z => src_list (sqL_of (z _ _ hM))) (by rw [List.length_map, sizeLine_eq]; omega) ?_ ?_
      · intro w hw H4 z5 R N hR hN
        obtain ⟨i, hi, rfl⟩ := mem_mapI hw
        k_extra "go"
        refine ite_two (fun e => ?_) fun e => ?_
        · k_extra "go"
          exact hR _ (fI_hit (if_pos e))
        · exact hN (fI_miss (if_neg e))
      · rw [fm_fI, fm_if]
        have okr : LotOk rg (starts.filter fun h => decide (h < rg)) := ⟨r1, r2, okl.asc.sublist List.filter_sublist, fun m hm => ⟨(okl.rng m (List.mem_filter.mp hm).1).1, of_decide_eq_true (List.mem_filter.mp hm).2⟩⟩
        k_extra "go"
        refine made_lot' (sqL_of upd_same) okr fun H1 l2 z1 hL2 => ?_
        have z2 : Ext H H1 := z1.of (ext_new hT)
        k_extra "go"
        refine ⟨bt, l2, rg, ⟨A, steps⟩, _, rfl, B.hB.ext z2, hL2, hne, fun H2 z3 => ?_⟩
        k_extra "go"
        exact hX _ (z3.of z2)
    · k_extra "go"
      exact hX _ (Ext.refl _)
  refine first _ _ (fun H1 z1 => ?_) rfl
  have B1 := B.ext z1
  obtain ⟨vs, hv, vl, vd, vn⟩ := gate_nth B1.hg okA.len
  k_extra "go"
  let ns2 : List Int := A.stakes.map fun s => (s + 1) % 61
  refine fun T hT => lcD (d := 1) (xs := rngV 0 A.names.length) (fun v => match v with | .int i => .tuple [.str (A.names.getD i.toNat ""), .int ((A.stakes.getD i.toNat 0 + 1) % 61)] | _ => .none) hT (fun _ _ => src_rng) (by rw [rngV_len]; omega) ?_ ?_
  · intro w hw H4 z5 ⟨acc, hacc⟩ R hR
    obtain ⟨g, hg, rfl⟩ := List.mem_map.mp hw
    have hg := List.mem_range.mp hg
    obtain ⟨t, et, ht⟩ := vn g hg
    have hv4 := z5 _ _ hv
    have ht4 := z5 _ _ ht
    k_extra "go"
    refine w_ixL (by k_extra "sq") (atI_nat (k := g) (by omega) et) ?_
    k_extra "go"
    refine w_ixL (by k_extra "sq") (atI_nat (k := g) (by omega) et) ?_
    k_extra "go"
    rename_i u hu
    refine hR _ _ (ext_new hu) (.tup (wo_at (Ne.symm (ne_of_none hacc hu)) upd_same) (Nat.le_of_ble_eq_true rfl) ?_)
    show DnAll _ 0 _ [.str (A.names.getD (0 + (g : Int)).toNat ""), .int ((A.stakes.getD (0 + (g : Int)).toNat 0 + 1) % 61)]
    rw [show (0 + (g : Int)).toNat = g by omega]
    exact .cons (.str _ _) (.cons (.int _ _) (.nil _))
  · intro H2 z2 hst
    have est : (rngV 0 A.names.length).map (fun v => match v with | .int i => PyData.tuple [.str (A.names.getD i.toNat ""), .int ((A.stakes.getD i.toNat 0 + 1) % 61)] | _ => .none) = (A.names.zip ns2).map fun p => .tuple [.str p.1, .int p.2] := by
      refine List.ext_getElem? fun i => ?_
      rw [List.getElem?_map, List.getElem?_map, rngV_get]
      by_cases hi : i < A.names.length
      · have his : i < A.stakes.length := by rw [okA.len]; exact hi
        have gn : A.names[i]? = some (A.names.getD i "") := by rw [List.getD_eq_getElem?_getD, List.getElem?_eq_getElem hi]; rfl
        have gs : ns2[i]? = some ((A.stakes.getD i 0 + 1) % 61) := by
          show (A.stakes.map _)[i]? = _
          rw [List.getElem?_map, List.getD_eq_getElem?_getD, List.getElem?_eq_getElem his]; rfl
        rw [if_pos hi, show (A.names.zip ns2)[i]? = some (A.names.getD i "", (A.stakes.getD i 0 + 1) % 61) by rw [List.getElem?_zip_eq_some]; exact ⟨gn, gs⟩]
        show some (PyData.tuple [.str (A.names.getD (0 + (i : Int)).toNat ""), .int ((A.stakes.getD (0 + (i : Int)).toNat 0 + 1) % 61)]) = _
        rw [show (0 + (i : Int)).toNat = i by omega]
        rfl
      · rw [if_neg hi, List.getElem?_eq_none (by rw [List.length_zip]; omega)]
        rfl
    rw [est] at hst
    have B2 := B1.ext z2
    have ok2 : HouseOk ⟨A.n, A.names, ns2⟩ := ⟨okA.n1, okA.n2, okA.g1, okA.g2, by show (A.stakes.map _).length = _; rw [List.length_map]; exact okA.len, okA.cells, okA.nm, okA.nd, fun s hs' => by
      obtain ⟨s0, _, rfl⟩ := List.mem_map.mp hs'
      have := emod_rng (n := 61) (by decide) (s0 + 1)
      omega⟩
    have ne2 : A ≠ ⟨A.n, A.names, ns2⟩ := fun e => by
      have e2 : A.stakes = ns2 := congrArg Hd.stakes e
      have hl : 0 < A.stakes.length := by rw [okA.len]; omega
      have e3 : A.stakes[0] = (A.stakes[0] + 1) % 61 := by
        have := congrArg (fun l : List Int => l[0]?) e2
        rw [List.getElem?_eq_getElem hl, show ns2[0]? = some ((A.stakes[0] + 1) % 61) by show (A.stakes.map _)[0]? = _; rw [List.getElem?_map, List.getElem?_eq_getElem hl]; rfl] at this
        exact Option.some.inj this
      have := okA.st _ (List.getElem_mem hl)
      omega
    have hv2 := z2 _ _ hv
    have vd2 := vd.ext z2
    have hS2 := B2.hS
    have hM2 := B2.hM
    k_extra "go"
    rename_i g1 hg1
    refine made_house okA ?_ fun H3 hs3 z3 hH3 => ?_
    · unfold gatesD
      exact .lst upd_same (by omega) (vd2.ext (ext_new hg1))
    have z4 : Ext H2 H3 := z3.of (ext_new hg1)
    have hS3 := z4 _ _ hS2
    have hM3 := z4 _ _ hM2
    k_extra "go"
    rename_i s1 hs1
    refine made_beat (B := ⟨A, steps⟩) okB (hH3.ext (ext_new hs1)) upd_same fun H4 b4 z5 hB4 => ?_
    have z6 : Ext H3 H4 := z5.of (ext_new hs1)
    have hM4 := z6 _ _ hM3
    k_extra "go"
    rename_i s2 hs2
    refine made_lot' (sqL_of upd_same) okl fun H5 l5 z7 hL5 => ?_
    have z8 : Ext H4 H5 := z7.of (ext_new hs2)
    k_extra "go"
    refine made_crew (B := ⟨A, steps⟩) (hB4.ext z8) hL5 fun H6 tw z9 hTW => ?_
    have z10 : Ext H2 H6 := (z9.of z8).of (z6.of z4)
    have B6 := B2.ext z10
    have hS6 := B6.hS
    have hM6 := B6.hM
    have hst6 := hst.ext z10
    k_extra "go"
    refine made_house (A := ⟨A.n, A.names, ns2⟩) ok2 hst6 fun H7 hs7 z11 hH7 => ?_
    have hS7 := z11 _ _ hS6
    have hM7 := z11 _ _ hM6
    k_extra "go"
    rename_i s3 hs3'
    refine made_beat (B := ⟨⟨A.n, A.names, ns2⟩, steps⟩) ⟨okB.len, okB.rng⟩ (hH7.ext (ext_new hs3')) upd_same fun H8 b8 z12 hB8 => ?_
    have z13 : Ext H7 H8 := z12.of (ext_new hs3')
    have hM8 := z13 _ _ hM7
    k_extra "go"
    rename_i s4 hs4
    refine made_lot' (sqL_of upd_same) okl fun H9 l9 z14 hL9 => ?_
    have z15 : Ext H8 H9 := z14.of (ext_new hs4)
    k_extra "go"
    refine made_crew (B := ⟨⟨A.n, A.names, ns2⟩, steps⟩) (hB8.ext z15) hL9 fun H10 aw z16 hAW => ?_
    have z17 : Ext H6 H10 := (z16.of z15).of (z13.of z11)
    have z18 : Ext H H10 := (z17.of z10).of (z2.of z1)
    have B10 := B.ext z18
    have C10 := C.ext z18
    have hTW10 := hTW.ext z17
    have hp10 := B10.hp
    obtain ⟨dc, cb, cl, c1, _, _⟩ := id B10.hC
    have neO : (⟨⟨A, steps⟩, starts⟩ : Cd) ≠ ⟨⟨A, changed⟩, starts⟩ := fun e => C.n1 (congrArg (fun c : Cd => c.b.steps) e).symm
    have neF : (⟨⟨A, steps⟩, starts⟩ : Cd) ≠ ⟨⟨A, steps⟩, fewer⟩ := fun e => C.n2 (congrArg Cd.starts e).symm
    have neA : (⟨⟨A, steps⟩, starts⟩ : Cd) ≠ ⟨⟨⟨A.n, A.names, ns2⟩, steps⟩, starts⟩ := fun e => ne2 (congrArg (fun c : Cd => c.b.h) e)
    k_extra "go"
    refine use_eqCrew F B10.hC hTW10 ?_
    k_extra "go"
    refine use_eqCrew F hTW10 B10.hC ?_
    rw [decide_eq_true (rfl : (⟨⟨A, steps⟩, starts⟩ : Cd) = ⟨⟨A, steps⟩, starts⟩)]
    k_extra "go"
    refine ⟨cr, _, _, rfl, B10.hC, fun H11 c2 z19 hC2 => ?_⟩
    k_extra "go"
    refine use_eqCrew F hC2 (B10.hC.ext z19) ?_
    rw [decide_eq_true (show (⟨⟨A, steps⟩, moved A.n (A.n * x) starts⟩ : Cd) = ⟨⟨A, steps⟩, starts⟩ by rw [moved_rings okl])]
    have B11 := B10.ext z19
    have C11 := C10.ext z19
    k_extra "go"
    refine use_eqCrew F B11.hC C11.hO ?_
    rw [decide_eq_false neO]
    k_extra "go"
    refine use_eqCrew F B11.hC C11.hF ?_
    rw [decide_eq_false neF]
    k_extra "go"
    refine use_eqCrew F B11.hC (hAW.ext z19) ?_
    rw [decide_eq_false neA]
    k_extra "go"
    refine use_eqCrewBeat F B11.hC B11.hB ?_
    k_extra "go"
    rename_i e1 he1 e2 he2
    refine use_same (.list ([true, true, true, false, false, false, false].map PyData.bool)) (.lst (ext_new he2 _ _ upd_same) (Nat.le_of_ble_eq_true rfl) (dn_bools [true, true, true, false, false, false, false])) (.lst upd_same (Nat.le_of_ble_eq_true rfl) (dn_bools [true, true, true, false, false, false, false])) ?_
    have z20 : Ext H11 _ := (ext_new (o := .lst [V.bl true, V.bl true, V.bl true, V.bl false, V.bl false, V.bl false, V.bl false]) he2).of (ext_new (o := .lst [V.bl true, V.bl true, V.bl true, V.bl false, V.bl false, V.bl false, V.bl false]) he1)
    generalize (upd (upd H11 e1 (.lst [V.bl true, V.bl true, V.bl true, V.bl false, V.bl false, V.bl false, V.bl false])) e2 (.lst [V.bl true, V.bl true, V.bl true, V.bl false, V.bl false, V.bl false, V.bl false])) = H12 at *
    have B12 := B11.ext z20
    have C12 := C11.ext z20
    have z21 : Ext H10 H12 := z20.of z19
    have hTW12 := hTW10.ext z21
    have hAW12 := hAW.ext z21
    have hTN12 := D.hT.ext (z21.of z18)
    clear he2 he1
    k_extra "go"
    rename_i f1 hf1
    have z22 := ext_new (o := .lst [V.ref tw, V.ref ot, V.ref fw, V.ref aw, V.ref bt]) hf1
    refine ⟨cr, tw, f1, _, [.ref ot, .ref fw, .ref aw, .ref bt], rfl, B12.hC.ext z22, upd_same, hTW12.ext z22, Nat.le_of_ble_eq_true rfl, fun y hy => ?_, fun H13 z23 => ?_⟩
    · simp only [List.mem_cons, List.not_mem_nil, or_false] at hy
      rcases hy with rfl | rfl | rfl | rfl
      · exact .inl ⟨_, _, rfl, C12.hO.ext z22, Ne.symm neO⟩
      · exact .inl ⟨_, _, rfl, C12.hF.ext z22, Ne.symm neF⟩
      · exact .inl ⟨_, _, rfl, hAW12.ext z22, Ne.symm neA⟩
      · exact .inr ⟨_, _, rfl, B12.hB.ext z22⟩
    have z24 : Ext H12 H13 := z23.of z22
    k_extra "go"
    refine ⟨cr, tn, k, _, rfl, B12.hC.ext z24, hTN12.ext z24, fun H14 z25 => ?_⟩
    have B14 := (B12.ext z24).ext z25
    obtain ⟨t0, t1, htop⟩ := B14.htop
    have last : ∀ H15, Ext H14 H15 → ∀ P : XK, sp_l_shows K [.ref cr, .ref hs, .ref lS, .ref lM, .int A.names.length, .ref lp] H15 Q P := fun H15 z26 P => by
      have B15 := B14.ext z26
      exact ⟨cr, hs, lS, lM, lp, _, x, y, rfl, B15.hC, B15.hA, B15.hS, B15.hM, B15.hp, B15.x0, bigx, B15.y0, bigy, fun H16 _ => q H16⟩
    k_extra "go"
    refine ite_two (fun e3 => ?_) fun e3 => ?_
    · k_extra "go"
      refine ⟨a, .ref gl, ns, A.stakes, A.names, rfl, B14.ha, B14.hg, okA.g1, okA.g2, okA.len, okA.nd, okA.nm, okA.st, fun H15 z26 => ?_⟩
      k_extra "go"
      exact last _ z26 _
    · k_extra "go"
      exact last _ (Ext.refl _) _
theorem pure_law {K : PySem.W.Frag} (F : KFH K) (vs : List V) (H : Hp) (Q : VK) (E : XK) (h : sp_law K vs H Q E) : t_law K E { nx := fun _ H' => Q .non H', rt := Q } (start ["script", "top", "count", "n", "numbers", "gates", "house", "steps", "starts", "laps", "beat", "lot", "crew", "draws", "spot", "changed", "fewer", "other", "few", "k", "j", "turned", "ring", "stakes", "twin", "away", "alike", "h", "place", "g"] vs) H := by
  have q : ∀ H', Q (.bl true) H' := by obtain ⟨_, _, _, _, q⟩ := h; exact q
  refine pure_law_head F vs H Q E h fun H1 a top gl hs lS lM lp bt lt cr lN ns A steps starts x y t2 B => ?_
  refine pure_law_12 F H1 Q E q a top gl hs lS lM lp bt lt cr lN ns A steps starts x y t2 B fun H2 dw ot fw lc lf sp changed fewer d3 d4 B2 C2 => ?_
  refine pure_law_22 F H2 Q E q a top gl hs lS lM lp bt lt cr lN dw ot fw lc lf sp ns A steps starts changed fewer x y t2 d3 d4 B2 C2 fun H3 tn k j rg B3 C3 D3 => ?_
  exact pure_law_29 F H3 Q E q a top gl hs lS lM lp bt lt cr lN dw ot fw lc lf tn sp k j rg ns A steps starts changed fewer x y t2 d3 d4 B3 C3 D3
theorem pure_hours_checked {K : PySem.W.Frag} (F : KF K) (vs : List V) (H : Hp) (Q : VK) (E : XK) (h : sp_hours_checked K vs H Q E) : t_hours_checked K E { nx := fun _ H' => Q .non H', rt := Q } (start ["hours", "most"] vs) H := by
  obtain ⟨n, m, rfl, h⟩ := h
  unfold t_hours_checked
  bv_omega
  have bad : ¬ (1 ≤ n ∧ n ≤ m) → ok2 [V.str "hours", V.int n] ∧ ∀ d : Addr, H d = none → E (Value.ref (He.ga K "BadNumber")) (some d) (upd H d (HO.xd (fs2 "name" "value" [V.str "hours", V.int n]))) := fun hc => by
    rw [if_neg hc] at h
    exact ⟨⟨"hours", .int n, rfl, by decide⟩, fun d hd => h _ _ (ext_new hd) upd_same⟩
  by_cases h1 : 1 ≤ n
  · rw [if_pos h1]
    by_cases h2 : n ≤ m
    · rw [if_neg (fun z => z h2)]
      rw [if_pos ⟨h1, h2⟩] at h
      exact h
    · rw [if_pos h2]
      exact bad fun z => h2 z.2
  · rw [if_neg h1]
    exact bad fun z => h1 z.1
theorem pure_rings_checked {K : PySem.W.Frag} (F : KF K) (vs : List V) (H : Hp) (Q : VK) (E : XK) (h : sp_rings_checked K vs H Q E) : t_rings_checked K E { nx := fun _ H' => Q .non H', rt := Q } (start ["one", "other"] vs) H := by
  obtain ⟨a, b, n, n', ms, ms', rfl, ⟨o1, dx, lm, e1, m1⟩, ⟨o2, dx', lm', e2, m2⟩, h⟩ := h
  unfold t_rings_checked
  bv_omega
  refine ⟨_, _, e1, _, rfl, _, _, e2, _, rfl, rfl, ?_⟩
  by_cases hn : n = n'
  · rw [if_pos hn] at h
    simpa [hn] using h
  · rw [if_neg hn] at h
    simp only [V.int.injEq, hn, if_true, not_false_eq_true]
    exact h _ (Ext.refl _)
theorem pure_Lot_members {K : PySem.W.Frag} (F : KF K) (vs : List V) (H : Hp) (Q : VK) (E : XK) (h : sp_Lot_members K vs H Q E) : t_Lot_members K E { nx := fun _ H' => Q .non H', rt := Q } (start ["self"] vs) H := by
  obtain ⟨a, n, ms, rfl, ⟨o1, dx, lm, e1, m1⟩, h⟩ := h
  unfold t_Lot_members
  bv_omega
  exact ⟨_, _, e1, _, rfl, lm, rfl, _, .inl (sqL_of m1), fun l hl => h _ _ (ext_new hl) upd_same⟩
theorem pure_Lot_len {K : PySem.W.Frag} (F : KF K) (vs : List V) (H : Hp) (Q : VK) (E : XK) (h : sp_Lot_len K vs H Q E) : t_Lot_len K E { nx := fun _ H' => Q .non H', rt := Q } (start ["self"] vs) H := by
  obtain ⟨a, n, ms, rfl, ⟨o1, dx, lm, e1, m1⟩, h⟩ := h
  unfold t_Lot_len
  bv_omega
  exact ⟨_, _, e1, _, rfl, lm, rfl, _, .inl (sqL_of m1), by rw [List.length_map]; exact h⟩
theorem pure_l_cell {K : PySem.W.Frag} (F : KF K) (vs : List V) (H : Hp) (Q : VK) (E : XK) (h : sp_l_cell K vs H Q E) : t_l_cell K E { nx := fun _ H' => Q .non H', rt := Q } (start ["script", "k"] vs) H := by
  obtain ⟨a, ns, k, rfl, hS, h⟩ := h
  unfold t_l_cell
  bv_omega
  refine ⟨_, .inl hS, ?_⟩
  rw [List.length_map]
  by_cases hk : k < ns.length
  · rw [if_pos (by omega)]
    refine ⟨_, hS, _, ?_, _, rfl, h (if ns[k] < 0 then -ns[k] else ns[k]) ?_⟩
    · unfold atI ixN
      rw [List.length_map, if_pos (by omega), if_pos (by omega)]
      simp [hk]
    · split <;> omega
  · rw [if_neg (by omega)]
    exact h 0 (Int.le_refl _)
theorem pure_l_is_int {K : PySem.W.Frag} (F : KF K) (vs : List V) (H : Hp) (Q : VK) (E : XK) (h : sp_l_is_int K vs H Q E) : t_l_is_int K E { nx := fun _ H' => Q .non H', rt := Q } (start ["x"] vs) H := by
  obtain ⟨i, rfl, h⟩ := h
  unfold t_l_is_int
  bv_omega
  exact ⟨_, _, _, _, true, rfl, .ty _, .base (.int i), rfl, _, rfl, _, _, _, _, false, rfl, .ty _, .base (.int i), rfl, _, rfl, h⟩
theorem pure_Lot_init {K : PySem.W.Frag} (F : KF K) (vs : List V) (H : Hp) (Q : VK) (E : XK) (h : sp_Lot_init K vs H Q E) : t_Lot_init K E { nx := fun _ H' => Q .non H', rt := Q } (start ["self", "hours", "members", "residues", "member", "residue"] vs) H := by
  obtain ⟨a, dx, l, n, ms, rfl, ha, hl, n1, n2, hlen, hnd, h⟩ := h
  have hlr : (ms.map fun m => m % n).length = ms.length := List.length_map _
  unfold t_Lot_init
  refine ⟨_, rfl, _, rfl, a, dx, [], rfl, ha, rfl, n, 360, rfl, ?_⟩
  rw [if_pos ⟨n1, n2⟩]
  refine ⟨_, rfl, l, rfl, ⟨_, hl⟩, fun D hD => lcF (fI fun i => some (i % n)) hD (fun H' x => src_list (sqL_ext x hl)) (by rw [List.length_map, sizeLine_eq]; omega) ?_ ?_⟩
  · intro x hx H' e R N hR hN
    obtain ⟨i, hi, rfl⟩ := mem_mapI hx
    bv_omega
    refine ⟨by omega, ?_⟩
    rw [fmod_pos n1]
    exact hR _ rfl
  · rw [fm_fI, fm_some]
    have aD : a ≠ D := ne_of_none ha hD
    refine ⟨_, rfl, D, _, rfl, sqL_of upd_same, hnd, by omega, ?_⟩
    bv_omega
    refine ⟨_, .inl (sqL_of upd_same), ?_⟩
    simp only [List.length_map]
    rw [if_neg (by omega)]
    refine ⟨_, rfl, _, rfl, a, dx, [], rfl, by rw [upd_ne aD]; exact ha, by decide, ?_⟩
    have hg : upd (upd H D (.lst (List.map V.int (ms.map fun m => m % n)))) a (.ins (He.ga K "Lot") dx (putF "hours" (.int n) [])) D = some (.lst (List.map V.int (ms.map fun m => m % n))) := by
      rw [upd_ne (Ne.symm aD), upd_same]
    unfold sFldI
    refine ⟨_, rfl, D, rfl, ⟨_, sqL_of hg⟩, fun D2 hD2 => lcF (fI fun i => some i) hD2 (fun H' x => src_list (sqL_ext x (sqL_of hg))) (by rw [List.length_map, sizeLine_eq]; omega) ?_ ?_⟩
    · intro x hx H' e R N hR hN
      obtain ⟨i, hi, rfl⟩ := mem_mapI hx
      bv_omega
      exact hR _ rfl
    · rw [fm_fI, fm_some, List.map_id']
      refine ⟨D2, _, rfl, sqL_of upd_same, fun ns' p hp hle hn => ?_⟩
      have e := srt_unique hp hle
      subst e
      have hD2' := fr_of (ext_new hD2) hn
      have aD2 : a ≠ D2 := fun z => by rw [← z, upd_same] at hD2; cases hD2
      have ap : a ≠ p := fun z => by rw [← z, upd_same] at hD2'; cases hD2'
      refine ⟨_, rfl, a, dx, _, rfl, by rw [upd_ne ap, upd_ne aD2, upd_same], by show 1 < 1000; decide, ?_⟩
      refine h _ p (fun b o hb e => ?_) upd_same ?_
      · have bD : b ≠ D := ne_of_none e hD
        have e2 : upd (upd H D (.lst (List.map V.int (ms.map fun m => m % n)))) a (.ins (He.ga K "Lot") dx (putF "hours" (.int n) [])) b = some o := by rw [upd_ne hb, upd_ne bD]; exact e
        rw [upd_ne hb, upd_ne (ne_of_none e2 hD2'), upd_ne (ne_of_none e2 hD2)]
        exact e2
      · rw [upd_ne (Ne.symm ap), upd_same]
theorem lot_mulW {n m f : Int} (n2 : n ≤ 360) (hm : 0 ≤ m ∧ m < n) (hf : f.natAbs < 2 ^ 400) : CMulW m f := wide_mul (a := 10) (b := 400) (by omega) hf (by decide) (by decide) (by decide)
theorem pure_l_bits {K : PySem.W.Frag} (F : KF K) (vs : List V) (H : Hp) (Q : VK) (E : XK) (h : sp_l_bits K vs H Q E) : t_l_bits K E { nx := fun _ H' => Q .non H', rt := Q } (start ["n", "number", "found", "h"] vs) H := by
  obtain ⟨n, b, rfl, n0, n1, h⟩ := h
  refine ⟨Nat.zero_le _, fun p hp => ?_⟩
  refine ⟨_, rfl, n, rfl, by omega, by omega, forS (xs := rngV 0 n.toNat) (fun i σ H' => ∃ (b : Int) (v : Option V) (ms : List Int), σ = [some (.int n), some (.int b), some (.ref p), v] ∧ Ext H H' ∧ H' p = some (.lst (ms.map V.int)) ∧ Rising i ms) ⟨_, _, [], rfl, ext_new hp, upd_same, .nil, fun m hm => by cases hm⟩ (fun _ _ _ _ _ => src_rng) ?_ ?_⟩
  · rintro i x σ H' e ⟨b, v, ms, rfl, x1, hp1, hr⟩
    rw [rngV_get] at e
    by_cases hi : i < n.toNat
    · rw [if_pos hi] at e
      cases e
      have hlen := rising_len hr
      bv_omega
      refine ⟨by decide, rfl, ?_⟩
      by_cases h1 : b.fmod 2 = 1
      · rw [if_pos h1]
        refine ⟨tyL hp1, _, hp1, by rw [List.length_map, sizeLine_eq]; omega, cdivW (by decide), _, _, ⟨rfl, rfl⟩, ext_set x1 hp, ms ++ [(i : Int)], by rw [upd_same, List.map_append, Int.zero_add]; rfl, ?_⟩
        exact rising_push hr (by omega) (by omega)
      · rw [if_neg h1]
        exact ⟨cdivW (by decide), _, _, ⟨rfl, rfl⟩, x1, ms, hp1, rising_mono hr (by omega)⟩
    · rw [if_neg hi] at e
      cases e
  · rintro σ H' ⟨b, v, ms, rfl, x1, hp1, hr⟩
    rw [rngV_len] at hr
    exact ⟨_, rfl, h H' p ms x1 hp hp1 (rising_mono hr (by omega))⟩
theorem isi_b {K : PySem.W.Frag} {H : Hp} {Q : VK} {x : V} {T' T : String} {b : Bool} (t : TyX K H x (.type T')) (k : PySem.W.kitOne K (.type T') (.type T) = some b) (q : Q (.bl b) H) : rIsi K [x, .ty T] H Q := ⟨_, _, _, _, b, rfl, .ty _, t, k, q⟩
theorem dnAll_len {H : Hp} {d : Nat} : ∀ {vs : List V} {ps : List PyData}, DnAll H d vs ps → vs.length = ps.length
  | _, _, .nil _ => rfl
  | _, _, .cons h r => by rw [List.length_cons, List.length_cons, dnAll_len r]
theorem dnAll_get {H : Hp} {d : Nat} : ∀ {vs : List V} {ps : List PyData} {k : Nat} {v : V}, DnAll H d vs ps → vs[k]? = some v → ∃ p, ps[k]? = some p ∧ Dn H d v p
  | _, _, 0, _, .cons h r, e => by cases e; exact ⟨_, rfl, h⟩
  | _, _, k + 1, _, .cons h r, e => dnAll_get (k := k) r e
theorem pure_l_same {K : PySem.W.Frag} (d : Nat) (sr : Sp) (hr : ∀ d' vs H Q E, d = d' + 1 → sp_l_same d' K vs H Q E → sr vs H Q E) (vs : List V) (H : Hp) (Q : VK) (E : XK) (h : sp_l_same d K vs H Q E) : t_l_same K sr E { nx := fun _ H' => Q .non H', rt := Q } (start ["got", "due", "k"] vs) H := by
  obtain ⟨x, y, p, rfl, hx, hy, h⟩ := h
  unfold t_l_same
  have loop : ∀ (d' : Nat) (a b : Addr) (xs ys : List V) (ds : List PyData), d = d' + 1 → DnAll H d' xs ds → DnAll H d' ys ds → xs.length ≤ 200000 → x = .ref a → y = .ref b → (SqL K H b ys ∨ SqT K H b ys) → (∀ (k : Nat) (i : Int), i = k → k < ds.length → ∀ R : VK, (∀ v, xs[k]? = some v → R v H) → tOp (rIxL K) (tVar 0) (tVar 2) [some x, some y, some (.int i)] H R ∨ tOp (rIxT K) (tVar 0) (tVar 2) [some x, some y, some (.int i)] H R) →
      (∀ (k : Nat) (i : Int), i = k → k < ds.length → ∀ R : VK, (∀ v, ys[k]? = some v → R v H) → tOp (rIxL K) (tVar 1) (tVar 2) [some x, some y, some (.int i)] H R ∨ tOp (rIxT K) (tVar 1) (tVar 2) [some x, some y, some (.int i)] H R) →
      tSeq (tFor (iRng1 (tCons (tCB (rLenQ K) (tCons (tVar 1) tNil)) tNil)) (gName 2) (tIfS (tNot (tB (tC1 sr (wE E) (tCons (fun σ H Q => (tOp (rIxL K) (tVar 0) (tVar 2)) σ H Q ∨ (tOp (rIxT K) (tVar 0) (tVar 2)) σ H Q) (tCons (fun σ H Q => (tOp (rIxL K) (tVar 1) (tVar 2)) σ H Q ∨ (tOp (rIxT K) (tVar 1) (tVar 2)) σ H Q) tNil))))) (tRet (tC (.bl false))) tNext))
        (tRet (tC (.bl true))) { nx := fun _ H' => Q .non H', rt := Q } [some x, some y, none] H := by
    rintro d' a b xs ys ds rfl ax ay hl rfl rfl hb gx gy
    have l1 := dnAll_len ax
    have l2 := dnAll_len ay
    refine ⟨_, rfl, b, ys, rfl, hb, (ys.length : Nat), rfl, by omega, by omega, forS (xs := rngV 0 (ys.length : Int).toNat) (fun i σ H' => H' = H ∧ ∃ v, σ = [some (.ref a), some (.ref b), v]) ⟨rfl, _, rfl⟩ (fun _ _ _ _ _ => src_rng) ?_ ?_⟩
    · rintro i x σ H' e ⟨rfl, v, rfl⟩
      rw [rngV_get] at e
      by_cases hi : i < (ys.length : Int).toNat
      · rw [if_pos hi] at e
        cases e
        refine gx i _ (by omega) (by omega) _ fun v1 e1 => gy i _ (by omega) (by omega) _ fun v2 e2 => ?_
        obtain ⟨p1, q1, n1⟩ := dnAll_get ax e1
        obtain ⟨p2, q2, n2⟩ := dnAll_get ay e2
        rw [q1] at q2
        cases q2
        refine hr d' _ _ _ _ rfl ⟨v1, v2, p1, rfl, n1, n2, true, rfl, ?_⟩
        exact ⟨rfl, _, rfl⟩
      · rw [if_neg hi] at e
        cases e
    · rintro σ H' ⟨rfl, v, rfl⟩
      exact h
  have hsx : L2.start ["got", "due", "k"] [x, y] = [some x, some y, none] := rfl
  rw [hsx]
  have ld : ∀ z : Bool, ∀ a : Addr, decide (V.ref a = V.bl z) = false := fun _ _ => rfl
  cases hy with
  | non _ =>
    cases hx
    exact seqT (no_b rfl rfl) ⟨_, rfl, rfl, h⟩
  | bl _ b =>
    cases hx
    refine seqF (no_b rfl rfl) ?_
    cases b with
    | true => exact seqT (isl_b rfl rfl) ⟨_, rfl, true, rfl, h⟩
    | false => exact seqF (isl_b rfl rfl) (seqT (isl_b rfl rfl) ⟨_, rfl, false, rfl, h⟩)
  | int _ i =>
    cases hx
    refine seqF (no_b rfl rfl) (seqF (isl_b rfl rfl) (seqF (isl_b rfl rfl) (seqT (isi_t rfl (.base (.int i)) rfl) ?_)))
    refine ⟨_, rfl, i, rfl, true, rfl, _, rfl, _, rfl, rfl, ?_⟩
    rw [show decide (V.int i = V.int i) = true from decide_eq_true rfl]
    exact h
  | str _ z =>
    cases hx
    refine seqF (no_b rfl rfl) (seqF (isl_b rfl rfl) (seqF (isl_b rfl rfl) (seqF (isi_t rfl (.base (.str z)) rfl) (seqT (isi_t rfl (.base (.str z)) rfl) ?_))))
    refine isi_v rfl (.base (.str z)) rfl _ ⟨true, rfl, _, rfl, _, rfl, rfl, ?_⟩
    rw [show decide (V.str z = V.str z) = true from decide_eq_true rfl]
    exact h
  | @lst d' b ys ds eb lb rb =>
    cases hx with
    | @lst _ a xs _ ea la ra =>
      have l1 := dnAll_len ra
      have l2 := dnAll_len rb
      refine seqF (no_b rfl rfl) (seqF (isl_b rfl rfl) (seqF (isl_b rfl rfl) (seqF (isi_t rfl (.base (.lst eb)) rfl) (seqF (isi_t rfl (.base (.lst eb)) rfl) (seqE (isi_t rfl (.base (.lst eb)) rfl) (ifF (or_F (not_b (isi_t rfl (.base (.lst ea)) rfl) rfl) (ne_b (len_v rfl (.inl (sqL_of ea))) (len_v rfl (.inl (sqL_of eb))) rfl (by rw [l1, l2]; simp))) ?_))))))
      exact loop d' a b xs ys ds rfl ra rb la rfl rfl (.inl (sqL_of eb)) (fun k i e hk R hR => .inl ⟨_, rfl, _, rfl, a, xs, i, _, rfl, rfl, sqL_of ea, atI_nat e (List.getElem?_eq_getElem (by omega)), hR _ (List.getElem?_eq_getElem (by omega))⟩)
        (fun k i e hk R hR => .inl ⟨_, rfl, _, rfl, b, ys, i, _, rfl, rfl, sqL_of eb, atI_nat e (List.getElem?_eq_getElem (by omega)), hR _ (List.getElem?_eq_getElem (by omega))⟩)
  | @tup d' b ys ds eb lb rb =>
    cases hx with
    | @tup _ a xs _ ea la ra =>
      have l1 := dnAll_len ra
      have l2 := dnAll_len rb
      refine seqF (no_b rfl rfl) (seqF (isl_b rfl rfl) (seqF (isl_b rfl rfl) (seqF (isi_t rfl (.base (.tup eb)) rfl) (seqF (isi_t rfl (.base (.tup eb)) rfl) (seqT (isi_t rfl (.base (.tup eb)) rfl) (ifF (or_F (not_b (isi_t rfl (.base (.tup ea)) rfl) rfl) (ne_b (len_v rfl (.inr (sqT_of ea))) (len_v rfl (.inr (sqT_of eb))) rfl (by rw [l1, l2]; simp))) ?_))))))
      exact loop d' a b xs ys ds rfl ra rb la rfl rfl (.inr (sqT_of eb)) (fun k i e hk R hR => .inr ⟨_, rfl, _, rfl, a, xs, i, _, rfl, rfl, sqT_of ea, atI_nat e (List.getElem?_eq_getElem (by omega)), hR _ (List.getElem?_eq_getElem (by omega))⟩)
        (fun k i e hk R hR => .inr ⟨_, rfl, _, rfl, b, ys, i, _, rfl, rfl, sqT_of eb, atI_nat e (List.getElem?_eq_getElem (by omega)), hR _ (List.getElem?_eq_getElem (by omega))⟩)
theorem pure_l_same_0 {K : PySem.W.Frag} (F : KF K) (vs : List V) (H : Hp) (Q : VK) (E : XK) (h : sp_l_same 0 K vs H Q E) : t_l_same K (fun _ _ _ _ => False) E { nx := fun _ H' => Q .non H', rt := Q } (start ["got", "due", "k"] vs) H :=
  pure_l_same 0 _ (fun _ _ _ _ _ e => by cases e) vs H Q E h
theorem pure_l_same_1 {K : PySem.W.Frag} (F : KF K) (vs : List V) (H : Hp) (Q : VK) (E : XK) (h : sp_l_same 1 K vs H Q E) : t_l_same K (sp_l_same 0 K) E { nx := fun _ H' => Q .non H', rt := Q } (start ["got", "due", "k"] vs) H :=
  pure_l_same 1 _ (fun d' vs H Q E e h => by cases e; exact h) vs H Q E h
theorem pure_Lot_lshift {K : PySem.W.Frag} (F : KF K) (vs : List V) (H : Hp) (Q : VK) (E : XK) (h : sp_Lot_lshift K vs H Q E) : t_Lot_lshift K E { nx := fun _ H' => Q .non H', rt := Q } (start ["self", "by", "member"] vs) H := by
  obtain ⟨a, n, k, ms, rfl, ⟨ok, dx, lm, e1, m1⟩, h⟩ := h
  have hl := ok.len
  refine ⟨_, rfl, a, dx, _, _, rfl, e1, lot_h n lm, _, rfl, a, dx, _, _, rfl, e1, lot_m n lm, lm, rfl, ⟨_, sqL_of m1⟩, fun D hD => lcF (fI fun i => some (i + k)) hD (fun H' x => src_list (sqL_of (x _ _ m1))) (by rw [List.length_map, sizeLine_eq]; omega) ?_ ?_⟩
  · intro x hx H' e R N hR hN
    obtain ⟨i, hi, rfl⟩ := mem_mapI hx
    bv_omega
    exact hR _ rfl
  · rw [fm_fI, fm_some]
    have e : (ms.map fun i => i + k).map (fun m => m % n) = ms.map fun m => (m + k) % n := by rw [List.map_map]; rfl
    refine fun x dx hx hdx hne => made_lot (H1 := upd H D (.lst ((ms.map fun i => i + k).map V.int))) (l := D) (ms := ms.map fun i => i + k) (sqL_of upd_same) ok.n1 ok.n2 (by rw [List.length_map]; omega) (by rw [e]; exact move_nodup ok) (fun H2 b x1 L => h H2 b ((ext_new hD).trans x1) (by rw [e] at L; exact L)) x dx hx hdx hne
theorem pure_Lot_neg {K : PySem.W.Frag} (F : KF K) (vs : List V) (H : Hp) (Q : VK) (E : XK) (h : sp_Lot_neg K vs H Q E) : t_Lot_neg K E { nx := fun _ H' => Q .non H', rt := Q } (start ["self", "member"] vs) H := by
  obtain ⟨a, n, ms, rfl, ⟨ok, dx, lm, e1, m1⟩, h⟩ := h
  have hl := ok.len
  refine ⟨_, rfl, a, dx, _, _, rfl, e1, lot_h n lm, _, rfl, a, dx, _, _, rfl, e1, lot_m n lm, lm, rfl, ⟨_, sqL_of m1⟩, fun D hD => lcF (fI fun i => some (-i)) hD (fun H' x => src_list (sqL_of (x _ _ m1))) (by rw [List.length_map, sizeLine_eq]; omega) ?_ ?_⟩
  · intro x hx H' e R N hR hN
    obtain ⟨i, hi, rfl⟩ := mem_mapI hx
    bv_omega
    exact hR _ rfl
  · rw [fm_fI, fm_some]
    have e : (ms.map fun i => -i).map (fun m => m % n) = ms.map fun m => (-m) % n := by rw [List.map_map]; rfl
    refine fun x dx hx hdx hne => made_lot (H1 := upd H D (.lst ((ms.map fun i => -i).map V.int))) (l := D) (ms := ms.map fun i => -i) (sqL_of upd_same) ok.n1 ok.n2 (by rw [List.length_map]; omega) (by rw [e]; exact neg_nodup ok) (fun H2 b x1 L => h H2 b ((ext_new hD).trans x1) (by rw [e] at L; exact L)) x dx hx hdx hne
theorem pure_meetings {K : PySem.W.Frag} (F : KF K) (vs : List V) (H : Hp) (Q : VK) (E : XK) (h : sp_meetings K vs H Q E) : t_meetings K E { nx := fun _ H' => Q .non H', rt := Q } (start ["one", "other", "counts", "first", "second", "apart", "_"] vs) H := by
  obtain ⟨a, b, n, ms, ms', rfl, L, L', h⟩ := h
  obtain ⟨ok, dx, lm, e1, m1⟩ := id L
  obtain ⟨ok', dx', lm', e1', m1'⟩ := id L'
  have k1 := ok.n1
  have k2 := ok.n2
  refine ⟨_, rfl, _, rfl, a, b, n, n, ms, ms', rfl, L, L', ?_⟩
  rw [if_pos rfl]
  refine ⟨_, rfl, a, dx, _, _, rfl, e1, lot_h n lm, n, rfl, by omega, by omega, fun c hc => lcF (xs := rngV 0 n.toNat) (fI fun _ => some 0) hc (fun _ _ => src_rng) (by rw [rngV_len, sizeLine_eq]; omega) ?_ ?_⟩
  · intro x hx H' e R N hR hN
    rw [rng_ring] at hx
    obtain ⟨i, hi, rfl⟩ := mem_mapI hx
    exact hR _ rfl
  · rw [rng_ring, fm_fI, fm_some]
    have er : (ring n).map (fun _ => (0 : Int)) = List.replicate n.toNat 0 := by rw [List.map_const', ring_len]
    rw [er]
    have x0 : Ext H (upd H c (.lst ((List.replicate n.toNat 0).map V.int))) := ext_new hc
    have step : ∀ (z1 z2 : List Int) (x y : Int) (v5 : Option V) (H' : Hp) (cs : List Int), 0 ≤ x ∧ x < n → Ext H H' → H' c = some (.lst (cs.map V.int)) → CntRep n z1 cs → ∀ D : Ends, (∀ cs' H2, Ext H H2 → H2 c = some (.lst (cs'.map V.int)) → CntRep n (z1 ++ [(x - y) % n]) cs' → D.nx [some (.ref a), some (.ref b), some (.ref c), some (.int x), some (.int y), some (.int ((x - y) % n)), none] H2) →
        tSeq (tAsg (tOp rModN (tOp rSubI (tVar 3) (tVar 4)) (tFldI (He.ga K "Lot") "hours" (tVar 0))) (gName 5)) (tAsg (tOp rAddI (tOp (rIxL K) (tVar 2) (tVar 5)) (tC (.int 1))) (gSub (tVar 2) (tVar 5) rSetL)) D [some (.ref a), some (.ref b), some (.ref c), some (.int x), some (.int y), v5, none] H' := by
      intro z1 z2 x y v5 H' cs hx x1 hc1 hr D hD
      have bw := emod_rng k1 (x - y)
      have gk := hr.at_ ((x - y) % n).toNat (by omega)
      have lt : ((x - y) % n).toNat < cs.length := by rw [hr.len]; omega
      have hix : ixN (cs.map V.int).length ((x - y) % n) = some ((x - y) % n).toNat := by
        unfold ixN
        rw [List.length_map, if_pos bw.1, if_pos (by omega)]
      refine ⟨_, rfl, _, rfl, _, _, rfl, rfl, _, rfl, a, dx, _, _, rfl, x1 _ _ e1, lot_h n lm, _, _, rfl, rfl, by omega, ?_⟩
      dsimp only
      rw [fmod_pos k1]
      refine ⟨_, rfl, _, rfl, c, _, _, _, rfl, rfl, sqL_of hc1, atI_nat (k := ((x - y) % n).toNat) (by omega) (map_get gk), _, _, rfl, rfl, ?_⟩
      refine ⟨_, rfl, _, rfl, c, _, _, _, rfl, rfl, hc1, hix, ?_⟩
      refine hD _ _ (ext_set x1 hc) ?_ (hr.step bw.1 bw.2)
      rw [upd_same, List.map_set]
    refine ⟨_, rfl, a, dx, lm, _, _, rfl, x0 _ _ e1, lot_m n lm, sqL_of (x0 _ _ m1), forS (xs := ms.map V.int) (fun i σ H' => ∃ (v3 v4 v5 : Option V) (cs : List Int), σ = [some (.ref a), some (.ref b), some (.ref c), v3, v4, v5, none] ∧ Ext H H' ∧ H' c = some (.lst (cs.map V.int)) ∧ CntRep n (pairsD n (ms.take i) ms') cs) ⟨_, _, _, _, rfl, x0, upd_same, CntRep.zero n⟩ (fun i σ H' _ ⟨_, _, _, _, _, x1, _⟩ => src_list (sqL_of (x1 _ _ m1))) ?_ ?_⟩
    · rintro i x σ H' e ⟨v3, v4, v5, cs, rfl, x1, hc1, hr⟩
      rw [List.getElem?_map] at e
      cases hw : ms[i]? with
      | none => rw [hw] at e; cases e
      | some w =>
        rw [hw] at e
        cases e
        have hwm := ok.rng w (List.mem_of_getElem? hw)
        refine ⟨_, rfl, b, dx', lm', _, _, rfl, x1 _ _ e1', lot_m n lm', sqL_of (x1 _ _ m1'), forS (xs := ms'.map V.int) (fun j σ H' => ∃ (v4 v5 : Option V) (cs : List Int), σ = [some (.ref a), some (.ref b), some (.ref c), some (.int w), v4, v5, none] ∧ Ext H H' ∧ H' c = some (.lst (cs.map V.int)) ∧ CntRep n (pairsD n (ms.take i) ms' ++ (ms'.take j).map fun y => (w - y) % n) cs) ⟨_, _, _, rfl, x1, hc1, by simpa using hr⟩ (fun i σ H' _ ⟨_, _, _, _, x1, _⟩ => src_list (sqL_of (x1 _ _ m1'))) ?_ ?_⟩
        · rintro j y σ H2 e ⟨v4, v5, cs2, rfl, x2, hc2, hr2⟩
          rw [List.getElem?_map] at e
          cases hy : ms'[j]? with
          | none => rw [hy] at e; cases e
          | some z =>
            rw [hy] at e
            cases e
            refine step _ [] w z _ H2 cs2 hwm x2 hc2 hr2 _ fun cs' H3 x3 hc3 hr3 => ⟨_, _, cs', rfl, x3, hc3, ?_⟩
            rw [List.take_add_one, hy]
            simpa using hr3
        · rintro σ H2 ⟨v4, v5, cs2, rfl, x2, hc2, hr2⟩
          rw [List.length_map, List.take_length] at hr2
          refine ⟨_, _, _, cs2, rfl, x2, hc2, ?_⟩
          rw [List.take_add_one, hw]
          unfold pairsD at hr2 ⊢
          simpa using hr2
    · rintro σ H' ⟨v3, v4, v5, cs, rfl, x1, hc1, hr⟩
      rw [List.length_map, List.take_length] at hr
      rw [hr.tally] at hc1
      exact ⟨_, rfl, h H' c x1 hc1⟩
theorem pure_l_same_2 {K : PySem.W.Frag} (F : KF K) (vs : List V) (H : Hp) (Q : VK) (E : XK) (h : sp_l_same 2 K vs H Q E) : t_l_same K (sp_l_same 1 K) E { nx := fun _ H' => Q .non H', rt := Q } (start ["got", "due", "k"] vs) H :=
  pure_l_same 2 _ (fun d' vs H Q E e h => by cases e; exact h) vs H Q E h
end Bw

namespace K13
open PySem PySem.Spec PyProof.Rows L2 Bw
abbrev Pg : Program := PySem.Challenge.pw_beatswatched_k13_crew_counted
def top (i : Nat) : Stmt := Pg.main.body.getD i (.Pass ⟨0, 0, 0, 0⟩)
def theFile : PySem.Str := Pg.main.file
def d_hours_checked : DX := ⟨fun K => (He.ga K "hours_checked"), "hours_checked", "hours_checked", top 20, []⟩
def d_rings_checked : DX := ⟨fun K => (He.ga K "rings_checked"), "rings_checked", "rings_checked", top 21, []⟩
def d_is_name : DX := ⟨fun K => (He.ga K "is_name"), "is_name", "is_name", top 18, []⟩
def d_name_checked : DX := ⟨fun K => (He.ga K "name_checked"), "name_checked", "name_checked", top 19, []⟩
def d_Lot_init : DX := ⟨fun K => (He.ma K (He.ga K "Lot") "__init__"), "__init__", "Lot.__init__", inClass (top 30) 1, []⟩
def d_Lot_members : DX := ⟨fun K => (getter K (He.ga K "Lot") "members"), "members", "Lot.members", inClass (top 30) 3, []⟩
def d_Lot_len : DX := ⟨fun K => (He.ma K (He.ga K "Lot") "__len__"), "__len__", "Lot.__len__", inClass (top 30) 6, []⟩
def d_Lot_contains : DX := ⟨fun K => (He.ma K (He.ga K "Lot") "__contains__"), "__contains__", "Lot.__contains__", inClass (top 30) 8, []⟩
def d_Lot_eq : DX := ⟨fun K => (He.ma K (He.ga K "Lot") "__eq__"), "__eq__", "Lot.__eq__", inClass (top 30) 9, []⟩
def d_Lot_lshift : DX := ⟨fun K => (He.ma K (He.ga K "Lot") "__lshift__"), "__lshift__", "Lot.__lshift__", inClass (top 30) 10, []⟩
def d_Lot_neg : DX := ⟨fun K => (He.ma K (He.ga K "Lot") "__neg__"), "__neg__", "Lot.__neg__", inClass (top 30) 12, []⟩
def d_meetings : DX := ⟨fun K => (He.ga K "meetings"), "meetings", "meetings", top 36, []⟩
def d_House_init : DX := ⟨fun K => (He.ma K (He.ga K "House") "__init__"), "__init__", "House.__init__", inClass (top 38) 4, []⟩
def d_House_len : DX := ⟨fun K => (He.ma K (He.ga K "House") "__len__"), "__len__", "House.__len__", inClass (top 38) 5, []⟩
def d_House_eq : DX := ⟨fun K => (He.ma K (He.ga K "House") "__eq__"), "__eq__", "House.__eq__", inClass (top 38) 6, []⟩
def d_Beat_init : DX := ⟨fun K => (He.ma K (He.ga K "Beat") "__init__"), "__init__", "Beat.__init__", inClass (top 34) 0, []⟩
def d_Beat_getitem : DX := ⟨fun K => (He.ma K (He.ga K "Beat") "__getitem__"), "__getitem__", "Beat.__getitem__", inClass (top 34) 1, []⟩
def d_Beat_eq : DX := ⟨fun K => (He.ma K (He.ga K "Beat") "__eq__"), "__eq__", "Beat.__eq__", inClass (top 34) 4, []⟩
def d_Beat_lot : DX := ⟨fun K => (He.ma K (He.ga K "Beat") "lot"), "lot", "Beat.lot", inClass (top 34) 5, []⟩
def d_Crew_init : DX := ⟨fun K => (He.ma K (He.ga K "Crew") "__init__"), "__init__", "Crew.__init__", inClass (top 32) 0, []⟩
def d_Crew_len : DX := ⟨fun K => (He.ma K (He.ga K "Crew") "__len__"), "__len__", "Crew.__len__", inClass (top 32) 1, []⟩
def d_Crew_lshift : DX := ⟨fun K => (He.ma K (He.ga K "Crew") "__lshift__"), "__lshift__", "Crew.__lshift__", inClass (top 32) 2, []⟩
def d_Crew_eq : DX := ⟨fun K => (He.ma K (He.ga K "Crew") "__eq__"), "__eq__", "Crew.__eq__", inClass (top 32) 3, []⟩
def d_Crew_row : DX := ⟨fun K => (He.ma K (He.ga K "Crew") "row"), "row", "Crew.row", inClass (top 32) 4, []⟩
def d_Crew_working : DX := ⟨fun K => (He.ma K (He.ga K "Crew") "working"), "working", "Crew.working", inClass (top 32) 5, []⟩
def d_l_cell : DX := ⟨fun K => (He.ga K "_law_cell"), "_law_cell", "_law_cell", top 40, []⟩
def d_l_draws : DX := ⟨fun K => (He.ga K "_law_draws"), "_law_draws", "_law_draws", top 41, []⟩
def d_l_two : DX := ⟨fun K => (He.ga K "_law_two"), "_law_two", "_law_two", top 42, []⟩
def d_l_bits : DX := ⟨fun K => (He.ga K "_law_bits"), "_law_bits", "_law_bits", top 43, []⟩
def d_l_name : DX := ⟨fun K => (He.ga K "_law_name"), "_law_name", "_law_name", top 44, []⟩
def d_l_names : DX := ⟨fun K => (He.ga K "_law_names"), "_law_names", "_law_names", top 45, []⟩
def d_l_gates : DX := ⟨fun K => (He.ga K "_law_gates"), "_law_gates", "_law_gates", top 46, []⟩
def d_l_is_int : DX := ⟨fun K => (He.ga K "_law_is_int"), "_law_is_int", "_law_is_int", top 47, []⟩
def d_l_same : DX := ⟨fun K => (He.ga K "_law_same"), "_law_same", "_law_same", top 48, []⟩
def d_l_number : DX := ⟨fun K => (He.ga K "_law_number"), "_law_number", "_law_number", top 49, []⟩
def d_l_walked : DX := ⟨fun K => (He.ga K "_law_walked"), "_law_walked", "_law_walked", top 50, []⟩
def d_l_no_row : DX := ⟨fun K => (He.ga K "_law_no_row"), "_law_no_row", "_law_no_row", top 51, []⟩
def d_l_works : DX := ⟨fun K => (He.ga K "_law_works"), "_law_works", "_law_works", top 52, []⟩
def d_l_shows : DX := ⟨fun K => (He.ga K "_law_shows"), "_law_shows", "_law_shows", top 53, []⟩
def d_l_other_ring : DX := ⟨fun K => (He.ga K "_law_other_ring"), "_law_other_ring", "_law_other_ring", top 54, []⟩
def d_l_great : DX := ⟨fun K => (He.ga K "_law_great"), "_law_great", "_law_great", top 55, []⟩
def d_l_unlike : DX := ⟨fun K => (He.ga K "_law_unlike"), "_law_unlike", "_law_unlike", top 56, []⟩
def d_l_grown : DX := ⟨fun K => (He.ga K "_law_grown"), "_law_grown", "_law_grown", top 57, []⟩
def d_law : DX := ⟨fun K => (He.ga K "law"), "law", "law", top 58, []⟩
def d_first_repeated : DX := ⟨fun K => (He.ga K "first_repeated"), "first_repeated", "first_repeated", top 27, []⟩
def d_Lot_iter : DX := ⟨fun K => (He.ma K (He.ga K "Lot") "__iter__"), "__iter__", "Lot.__iter__", inClass (top 30) 7, []⟩
def d_BadNumber_init : DX := ⟨fun K => (He.ma K (He.ga K "BadNumber") "__init__"), "__init__", "BadNumber.__init__", inClass (top 3) 0, [("__class__" : PySem.Str)]⟩
def d_BadName_init : DX := ⟨fun K => (He.ma K (He.ga K "BadName") "__init__"), "__init__", "BadName.__init__", inClass (top 12) 0, [("__class__" : PySem.Str)]⟩
def d_RepeatedHour_init : DX := ⟨fun K => (He.ma K (He.ga K "RepeatedHour") "__init__"), "__init__", "RepeatedHour.__init__", inClass (top 5) 0, [("__class__" : PySem.Str)]⟩
def d_TooMany_init : DX := ⟨fun K => (He.ma K (He.ga K "TooMany") "__init__"), "__init__", "TooMany.__init__", inClass (top 4) 0, [("__class__" : PySem.Str)]⟩
def d_RepeatedName_init : DX := ⟨fun K => (He.ma K (He.ga K "RepeatedName") "__init__"), "__init__", "RepeatedName.__init__", inClass (top 13) 0, [("__class__" : PySem.Str)]⟩
def d_WrongLength_init : DX := ⟨fun K => (He.ma K (He.ga K "WrongLength") "__init__"), "__init__", "WrongLength.__init__", inClass (top 10) 0, [("__class__" : PySem.Str)]⟩
def fn_0 : List (DX) := [
  d_hours_checked,
  d_rings_checked,
  d_is_name,
  d_name_checked,
  d_Lot_init,
  d_Lot_members,
  d_Lot_len,
  d_Lot_contains,
  d_Lot_eq,
  d_Lot_lshift]
def fn_1 : List (DX) := [
  d_Lot_neg,
  d_meetings,
  d_House_init,
  d_House_len,
  d_House_eq,
  d_Beat_init,
  d_Beat_getitem,
  d_Beat_eq,
  d_Beat_lot,
  d_Crew_init]
def fn_2 : List (DX) := [
  d_Crew_len,
  d_Crew_lshift,
  d_Crew_eq,
  d_Crew_row,
  d_Crew_working,
  d_l_cell,
  d_l_draws,
  d_l_two,
  d_l_bits,
  d_l_name]
def fn_3 : List (DX) := [
  d_l_names,
  d_l_gates,
  d_l_is_int,
  d_l_same,
  d_l_number,
  d_l_walked,
  d_l_no_row,
  d_l_works,
  d_l_shows,
  d_l_other_ring]
def fn_4 : List (DX) := [
  d_l_great,
  d_l_unlike,
  d_l_grown,
  d_law,
  d_first_repeated,
  d_Lot_iter,
  d_BadNumber_init,
  d_BadName_init,
  d_RepeatedHour_init,
  d_TooMany_init]
def fn_5 : List (DX) := [
  d_RepeatedName_init,
  d_WrongLength_init]
def fn : List (DX) := fn_0 ++ (fn_1 ++ (fn_2 ++ (fn_3 ++ (fn_4 ++ (fn_5)))))
def fl_0 : List (PySem.W.Frag → Bool) := [
  fun K => (He.Fa.cls "Lot").ok K,
  fun K => (He.Fa.noat "Lot" "hours").ok K,
  fun K => (He.Fa.exc "OtherHours").ok K,
  fun K => (He.Fa.glo "OtherHours").ok K,
  fun K => (He.Fa.free "len").ok K,
  fun K => (He.Fa.int "MOST_LETTERS" 8).ok K,
  fun K => (He.Fa.str "LETTERS" "abcdefghijklmnopqrstuvwxyz").ok K,
  fun K => (He.Fa.free "all").ok K,
  fun K => (He.Fa.glo "is_name").ok K,
  fun K => (He.Fa.keep "is_name").ok K]
def fl_1 : List (PySem.W.Frag → Bool) := [
  fun K => conB K (He.ga K "Lot") "MOST" 360,
  fun K => (He.Fa.glo "hours_checked").ok K,
  fun K => (He.Fa.keep "hours_checked").ok K,
  fun K => (He.Fa.free "set").ok K,
  fun K => (He.Fa.glo "first_repeated").ok K,
  fun K => (He.Fa.keep "first_repeated").ok K,
  fun K => (He.Fa.free "int").ok K,
  fun K => (He.Fa.free "sorted").ok K,
  fun K => (He.Fa.noat "Lot" "_members").ok K,
  fun K => (He.Fa.free "list").ok K]
def fl_2 : List (PySem.W.Frag → Bool) := [
  fun K => (He.Fa.glo "Lot").ok K,
  fun K => (He.Fa.free "isinstance").ok K,
  fun K => (He.Fa.mkr "Lot").ok K,
  fun K => (He.Fa.glo "rings_checked").ok K,
  fun K => (He.Fa.keep "rings_checked").ok K,
  fun K => (He.Fa.free "range").ok K,
  fun K => fndB K (He.ga K "Lot") "__iter__",
  fun K => (He.Fa.cls "House").ok K,
  fun K => conB K (He.ga K "House") "MOST_HOURS" 24,
  fun K => conB K (He.ga K "House") "MOST_GATES" 4]
def fl_3 : List (PySem.W.Frag → Bool) := [
  fun K => (He.Fa.glo "name_checked").ok K,
  fun K => (He.Fa.keep "name_checked").ok K,
  fun K => conB K (He.ga K "House") "MOST_STAKE" 60,
  fun K => conB K (He.ga K "House") "MOST_CELLS" 48,
  fun K => (He.Fa.noat "House" "hours").ok K,
  fun K => (He.Fa.free "tuple").ok K,
  fun K => (He.Fa.noat "House" "names").ok K,
  fun K => (He.Fa.noat "House" "stakes").ok K,
  fun K => (He.Fa.glo "House").ok K,
  fun K => fndB K (He.ga K "House") "__len__"]
def fl_4 : List (PySem.W.Frag → Bool) := [
  fun K => (He.Fa.cls "Beat").ok K,
  fun K => (He.Fa.noat "Beat" "house").ok K,
  fun K => (He.Fa.noat "Beat" "steps").ok K,
  fun K => (He.Fa.glo "Beat").ok K,
  fun K => fndB K (He.ga K "House") "__eq__",
  fun K => (He.Fa.exc "NoPlace").ok K,
  fun K => (He.Fa.glo "NoPlace").ok K,
  fun K => (He.Fa.cls "Crew").ok K,
  fun K => (He.Fa.noat "Crew" "beat").ok K,
  fun K => (He.Fa.noat "Crew" "starts").ok K]
def fl_5 : List (PySem.W.Frag → Bool) := [
  fun K => fndB K (He.ga K "Lot") "__len__",
  fun K => opFB K (He.ga K "Lot") "lshift",
  fun K => (He.Fa.mkr "Crew").ok K,
  fun K => (He.Fa.glo "Crew").ok K,
  fun K => fndB K (He.ga K "Beat") "__eq__",
  fun K => fndB K (He.ga K "Lot") "__eq__",
  fun K => fndB K (He.ga K "Beat") "__getitem__",
  fun K => PySem.W.fnIn K (He.ma K (He.ga K "Beat") "__getitem__"),
  fun K => fndB K (He.ga K "Lot") "__contains__",
  fun K => (He.Fa.free "abs").ok K]
def fl_6 : List (PySem.W.Frag → Bool) := [
  fun K => (He.Fa.glo "_law_name").ok K,
  fun K => (He.Fa.keep "_law_name").ok K,
  fun K => (He.Fa.glo "_law_names").ok K,
  fun K => (He.Fa.keep "_law_names").ok K,
  fun K => (He.Fa.free "bool").ok K,
  fun K => (He.Fa.glo "_law_is_int").ok K,
  fun K => (He.Fa.keep "_law_is_int").ok K,
  fun K => (He.Fa.free "str").ok K,
  fun K => (He.Fa.glo "_law_same").ok K,
  fun K => (He.Fa.keep "_law_same").ok K]
def fl_7 : List (PySem.W.Frag → Bool) := [
  fun K => (He.Fa.glo "_law_draws").ok K,
  fun K => (He.Fa.keep "_law_draws").ok K,
  fun K => (He.Fa.meth "Crew" "row").ok K,
  fun K => (He.Fa.glo "WatchError").ok K,
  fun K => (He.Fa.free "ValueError").ok K,
  fun K => (He.Fa.glo "BadNumber").ok K,
  fun K => (He.Fa.meth "Crew" "working").ok K,
  fun K => propB K (He.ga K "Lot") "members",
  fun K => (He.Fa.glo "_law_walked").ok K,
  fun K => (He.Fa.keep "_law_walked").ok K]
def fl_8 : List (PySem.W.Frag → Bool) := [
  fun K => fndB K (He.ga K "Crew") "__len__",
  fun K => (He.Fa.meth "Beat" "lot").ok K,
  fun K => fndB K (He.ga K "Lot") "__neg__",
  fun K => (He.Fa.glo "meetings").ok K,
  fun K => (He.Fa.keep "meetings").ok K,
  fun K => (He.Fa.glo "_law_works").ok K,
  fun K => (He.Fa.keep "_law_works").ok K,
  fun K => (He.Fa.glo "_law_no_row").ok K,
  fun K => (He.Fa.keep "_law_no_row").ok K,
  fun K => (He.Fa.glo "OtherHouse").ok K]
def fl_9 : List (PySem.W.Frag → Bool) := [
  fun K => (He.Fa.mkr "House").ok K,
  fun K => (He.Fa.glo "_law_cell").ok K,
  fun K => (He.Fa.keep "_law_cell").ok K,
  fun K => (He.Fa.glo "_law_two").ok K,
  fun K => (He.Fa.keep "_law_two").ok K,
  fun K => (He.Fa.glo "_law_bits").ok K,
  fun K => (He.Fa.keep "_law_bits").ok K,
  fun K => (He.Fa.mkr "Beat").ok K,
  fun K => fndB K (He.ga K "Crew") "__eq__",
  fun K => neB K (He.ga K "Crew")]
def fl_10 : List (PySem.W.Frag → Bool) := [
  fun K => BwM.lineO K (He.ga K "Crew"),
  fun K => He.eqO (PySem.W.findIn K (.ref (He.ga K "Crew")) (PySem.dunderI "lshift")) (some none),
  fun K => He.eqO (PySem.W.findIn K (.type "object") (PySem.dunderI "lshift")) (some none),
  fun K => opFB K (He.ga K "Crew") "lshift",
  fun K => (He.Fa.glo "_law_gates").ok K,
  fun K => (He.Fa.keep "_law_gates").ok K,
  fun K => (He.Fa.glo "_law_shows").ok K,
  fun K => (He.Fa.keep "_law_shows").ok K,
  fun K => (He.Fa.glo "_law_number").ok K,
  fun K => (He.Fa.keep "_law_number").ok K]
def fl_11 : List (PySem.W.Frag → Bool) := [
  fun K => (He.Fa.free "max").ok K,
  fun K => (He.Fa.glo "_law_other_ring").ok K,
  fun K => (He.Fa.keep "_law_other_ring").ok K,
  fun K => (He.Fa.glo "_law_unlike").ok K,
  fun K => (He.Fa.keep "_law_unlike").ok K,
  fun K => (He.Fa.glo "_law_grown").ok K,
  fun K => (He.Fa.keep "_law_grown").ok K,
  fun K => (He.Fa.glo "_law_great").ok K,
  fun K => (He.Fa.keep "_law_great").ok K,
  fun K => (He.Fa.free "iter").ok K]
def fl_12 : List (PySem.W.Frag → Bool) := [
  fun K => (He.Fa.noat "BadNumber" "name").ok K,
  fun K => (He.Fa.noat "BadNumber" "value").ok K,
  fun K => cellB K (He.ma K (He.ga K "BadNumber") "__init__") (He.ga K "BadNumber") theFile,
  fun K => exfB K (He.ga K "BadNumber") (He.ma K (He.ga K "BadNumber") "__init__"),
  fun K => (He.Fa.noat "BadName" "name").ok K,
  fun K => (He.Fa.glo "BadName").ok K,
  fun K => cellB K (He.ma K (He.ga K "BadName") "__init__") (He.ga K "BadName") theFile,
  fun K => exfB K (He.ga K "BadName") (He.ma K (He.ga K "BadName") "__init__"),
  fun K => (He.Fa.noat "RepeatedHour" "hour").ok K,
  fun K => (He.Fa.glo "RepeatedHour").ok K]
def fl_13 : List (PySem.W.Frag → Bool) := [
  fun K => cellB K (He.ma K (He.ga K "RepeatedHour") "__init__") (He.ga K "RepeatedHour") theFile,
  fun K => exfB K (He.ga K "RepeatedHour") (He.ma K (He.ga K "RepeatedHour") "__init__"),
  fun K => (He.Fa.noat "TooMany" "name").ok K,
  fun K => (He.Fa.noat "TooMany" "most").ok K,
  fun K => (He.Fa.glo "TooMany").ok K,
  fun K => cellB K (He.ma K (He.ga K "TooMany") "__init__") (He.ga K "TooMany") theFile,
  fun K => exfB K (He.ga K "TooMany") (He.ma K (He.ga K "TooMany") "__init__"),
  fun K => (He.Fa.noat "RepeatedName" "name").ok K,
  fun K => (He.Fa.glo "RepeatedName").ok K,
  fun K => cellB K (He.ma K (He.ga K "RepeatedName") "__init__") (He.ga K "RepeatedName") theFile]
def fl_14 : List (PySem.W.Frag → Bool) := [
  fun K => exfB K (He.ga K "RepeatedName") (He.ma K (He.ga K "RepeatedName") "__init__"),
  fun K => (He.Fa.noat "WrongLength" "length").ok K,
  fun K => (He.Fa.glo "WrongLength").ok K,
  fun K => cellB K (He.ma K (He.ga K "WrongLength") "__init__") (He.ga K "WrongLength") theFile,
  fun K => exfB K (He.ga K "WrongLength") (He.ma K (He.ga K "WrongLength") "__init__"),
  fun K => (He.Fa.free "super").ok K,
  fun K => (He.Fa.glo "law").ok K,
  exmAll,
  kitAll,
  fun K => insAll K "Lot"]
def fl_15 : List (PySem.W.Frag → Bool) := [
  noPl,
  othH,
  fun K => insAll K "House",
  fun K => insAll K "Beat",
  fun K => insAll K "Crew",
  crewAll]
def fl : List (PySem.W.Frag → Bool) := fl_0 ++ (fl_1 ++ (fl_2 ++ (fl_3 ++ (fl_4 ++ (fl_5 ++ (fl_6 ++ (fl_7 ++ (fl_8 ++ (fl_9 ++ (fl_10 ++ (fl_11 ++ (fl_12 ++ (fl_13 ++ (fl_14 ++ (fl_15)))))))))))))))
abbrev TT (w : World) (K : PySem.W.Frag) (mg : PySem.Str → Option Value) (base : Heap) : Prop := Tx fl fn Pg w K mg base
theorem sc_hours_checked : FnScope ["hours", "most"] ["hours", "most"] (defScope (top 20)) := ⟨rfl, rfl, rfl, by decide +kernel, rfl, by decide +kernel, by decide +kernel⟩
theorem sc_rings_checked : FnScope ["one", "other"] ["one", "other"] (defScope (top 21)) := ⟨rfl, rfl, rfl, by decide +kernel, rfl, by decide +kernel, by decide +kernel⟩
theorem sc_is_name : FnScope ["text", "letter"] ["text"] (defScope (top 18)) := ⟨rfl, rfl, rfl, by decide +kernel, rfl, by decide +kernel, by decide +kernel⟩
theorem sc_name_checked : FnScope ["name"] ["name"] (defScope (top 19)) := ⟨rfl, rfl, rfl, by decide +kernel, rfl, by decide +kernel, by decide +kernel⟩
theorem sc_Lot_init : FnScope ["self", "hours", "members", "residues", "member", "residue"] ["self", "hours", "members"] (defScope (inClass (top 30) 1)) := ⟨rfl, rfl, rfl, by decide +kernel, rfl, by decide +kernel, by decide +kernel⟩
theorem sc_Lot_members : FnScope ["self"] ["self"] (defScope (inClass (top 30) 3)) := ⟨rfl, rfl, rfl, by decide +kernel, rfl, by decide +kernel, by decide +kernel⟩
theorem sc_Lot_len : FnScope ["self"] ["self"] (defScope (inClass (top 30) 6)) := ⟨rfl, rfl, rfl, by decide +kernel, rfl, by decide +kernel, by decide +kernel⟩
theorem sc_Lot_contains : FnScope ["self", "number"] ["self", "number"] (defScope (inClass (top 30) 8)) := ⟨rfl, rfl, rfl, by decide +kernel, rfl, by decide +kernel, by decide +kernel⟩
theorem sc_Lot_eq : FnScope ["self", "other"] ["self", "other"] (defScope (inClass (top 30) 9)) := ⟨rfl, rfl, rfl, by decide +kernel, rfl, by decide +kernel, by decide +kernel⟩
theorem sc_Lot_lshift : FnScope ["self", "by", "member"] ["self", "by"] (defScope (inClass (top 30) 10)) := ⟨rfl, rfl, rfl, by decide +kernel, rfl, by decide +kernel, by decide +kernel⟩
theorem sc_Lot_neg : FnScope ["self", "member"] ["self"] (defScope (inClass (top 30) 12)) := ⟨rfl, rfl, rfl, by decide +kernel, rfl, by decide +kernel, by decide +kernel⟩
theorem sc_meetings : FnScope ["one", "other", "counts", "first", "second", "apart", "_"] ["one", "other"] (defScope (top 36)) := ⟨rfl, rfl, rfl, by decide +kernel, rfl, by decide +kernel, by decide +kernel⟩
theorem sc_House_init : FnScope ["self", "hours", "gates", "names", "stakes", "name", "stake"] ["self", "hours", "gates"] (defScope (inClass (top 38) 4)) := ⟨rfl, rfl, rfl, by decide +kernel, rfl, by decide +kernel, by decide +kernel⟩
theorem sc_House_len : FnScope ["self"] ["self"] (defScope (inClass (top 38) 5)) := ⟨rfl, rfl, rfl, by decide +kernel, rfl, by decide +kernel, by decide +kernel⟩
theorem sc_House_eq : FnScope ["self", "other"] ["self", "other"] (defScope (inClass (top 38) 6)) := ⟨rfl, rfl, rfl, by decide +kernel, rfl, by decide +kernel, by decide +kernel⟩
theorem sc_Beat_init : FnScope ["self", "house", "steps", "place"] ["self", "house", "steps"] (defScope (inClass (top 34) 0)) := ⟨rfl, rfl, rfl, by decide +kernel, rfl, by decide +kernel, by decide +kernel⟩
theorem sc_Beat_getitem : FnScope ["self", "at"] ["self", "at"] (defScope (inClass (top 34) 1)) := ⟨rfl, rfl, rfl, by decide +kernel, rfl, by decide +kernel, by decide +kernel⟩
theorem sc_Beat_eq : FnScope ["self", "other"] ["self", "other"] (defScope (inClass (top 34) 4)) := ⟨rfl, rfl, rfl, by decide +kernel, rfl, by decide +kernel, by decide +kernel⟩
theorem sc_Beat_lot : FnScope ["self", "gate", "hours", "hour"] ["self", "gate"] (defScope (inClass (top 34) 5)) := ⟨rfl, rfl, rfl, by decide +kernel, rfl, by decide +kernel, by decide +kernel⟩
theorem sc_Crew_init : FnScope ["self", "beat", "starts"] ["self", "beat", "starts"] (defScope (inClass (top 32) 0)) := ⟨rfl, rfl, rfl, by decide +kernel, rfl, by decide +kernel, by decide +kernel⟩
theorem sc_Crew_len : FnScope ["self"] ["self"] (defScope (inClass (top 32) 1)) := ⟨rfl, rfl, rfl, by decide +kernel, rfl, by decide +kernel, by decide +kernel⟩
theorem sc_Crew_lshift : FnScope ["self", "other"] ["self", "other"] (defScope (inClass (top 32) 2)) := ⟨rfl, rfl, rfl, by decide +kernel, rfl, by decide +kernel, by decide +kernel⟩
theorem sc_Crew_eq : FnScope ["self", "other"] ["self", "other"] (defScope (inClass (top 32) 3)) := ⟨rfl, rfl, rfl, by decide +kernel, rfl, by decide +kernel, by decide +kernel⟩
theorem sc_Crew_row : FnScope ["self", "gate", "house", "counts", "hour", "start"] ["self", "gate"] (defScope (inClass (top 32) 4)) := ⟨rfl, rfl, rfl, by decide +kernel, rfl, by decide +kernel, by decide +kernel⟩
theorem sc_Crew_working : FnScope ["self", "start", "hours", "hour"] ["self", "start"] (defScope (inClass (top 32) 5)) := ⟨rfl, rfl, rfl, by decide +kernel, rfl, by decide +kernel, by decide +kernel⟩
theorem sc_l_cell : FnScope ["script", "k"] ["script", "k"] (defScope (top 40)) := ⟨rfl, rfl, rfl, by decide +kernel, rfl, by decide +kernel, by decide +kernel⟩
theorem sc_l_draws : FnScope ["cell", "salt", "menu", "found", "rest", "mixed", "k"] ["cell", "salt", "menu"] (defScope (top 41)) := ⟨rfl, rfl, rfl, by decide +kernel, rfl, by decide +kernel, by decide +kernel⟩
theorem sc_l_two : FnScope ["n", "power", "k"] ["n"] (defScope (top 42)) := ⟨rfl, rfl, rfl, by decide +kernel, rfl, by decide +kernel, by decide +kernel⟩
theorem sc_l_bits : FnScope ["n", "number", "found", "h"] ["n", "number"] (defScope (top 43)) := ⟨rfl, rfl, rfl, by decide +kernel, rfl, by decide +kernel, by decide +kernel⟩
theorem sc_l_name : FnScope ["number", "letters", "word", "k"] ["number"] (defScope (top 44)) := ⟨rfl, rfl, rfl, by decide +kernel, rfl, by decide +kernel, by decide +kernel⟩
theorem sc_l_names : FnScope ["numbers", "letters", "names", "number", "word", "turn"] ["numbers"] (defScope (top 45)) := ⟨rfl, rfl, rfl, by decide +kernel, rfl, by decide +kernel, by decide +kernel⟩
theorem sc_l_gates : FnScope ["numbers", "stakes", "names", "k"] ["numbers", "stakes"] (defScope (top 46)) := ⟨rfl, rfl, rfl, by decide +kernel, rfl, by decide +kernel, by decide +kernel⟩
theorem sc_l_is_int : FnScope ["x"] ["x"] (defScope (top 47)) := ⟨rfl, rfl, rfl, by decide +kernel, rfl, by decide +kernel, by decide +kernel⟩
theorem sc_l_same : FnScope ["got", "due", "k"] ["got", "due"] (defScope (top 48)) := ⟨rfl, rfl, rfl, by decide +kernel, rfl, by decide +kernel, by decide +kernel⟩
theorem sc_l_number : FnScope ["cell", "salt", "draws", "size"] ["cell", "salt"] (defScope (top 49)) := ⟨rfl, rfl, rfl, by decide +kernel, rfl, by decide +kernel, by decide +kernel⟩
theorem sc_l_walked : FnScope ["steps", "starts", "count", "n", "rows", "g", "s", "t", "row", "h"] ["steps", "starts", "count"] (defScope (top 50)) := ⟨rfl, rfl, rfl, by decide +kernel, rfl, by decide +kernel, by decide +kernel⟩
theorem sc_l_no_row : FnScope ["crew", "gate", "told", "e"] ["crew", "gate"] (defScope (top 51)) := ⟨rfl, rfl, rfl, by decide +kernel, rfl, by decide +kernel, by decide +kernel⟩
theorem sc_l_works : FnScope ["crew", "steps", "starts", "start", "n", "lot", "told", "e", "h"] ["crew", "steps", "starts", "start"] (defScope (top 52)) := ⟨rfl, rfl, rfl, by decide +kernel, rfl, by decide +kernel, by decide +kernel⟩
theorem sc_l_shows : FnScope ["crew", "house", "steps", "starts", "count", "laps", "n", "rows", "g", "row", "h", "start", "gate"] ["crew", "house", "steps", "starts", "count", "laps"] (defScope (top 53)) := ⟨rfl, rfl, rfl, by decide +kernel, rfl, by decide +kernel, by decide +kernel⟩
theorem sc_l_other_ring : FnScope ["beat", "starts", "told", "e"] ["beat", "starts"] (defScope (top 54)) := ⟨rfl, rfl, rfl, by decide +kernel, rfl, by decide +kernel, by decide +kernel⟩
theorem sc_l_great : FnScope ["script", "gates", "house", "count", "steps", "draws", "starts", "crew", "told", "h", "place", "g"] ["script", "gates"] (defScope (top 55)) := ⟨rfl, rfl, rfl, by decide +kernel, rfl, by decide +kernel, by decide +kernel⟩
theorem sc_l_unlike : FnScope ["crew", "others", "other"] ["crew", "others"] (defScope (top 56)) := ⟨rfl, rfl, rfl, by decide +kernel, rfl, by decide +kernel, by decide +kernel⟩
theorem sc_l_grown : FnScope ["crew", "turned_v", "k", "grown"] ["crew", "turned_v", "k"] (defScope (top 57)) := ⟨rfl, rfl, rfl, by decide +kernel, rfl, by decide +kernel, by decide +kernel⟩
theorem sc_law : FnScope ["script", "top", "count", "n", "numbers", "gates", "house", "steps", "starts", "laps", "beat", "lot", "crew", "draws", "spot", "changed", "fewer", "other", "few", "k", "j", "turned_v", "ring", "stakes", "twin", "away", "alike", "h", "place", "g"] ["script"] (defScope (top 58)) := ⟨rfl, rfl, rfl, by decide +kernel, rfl, by decide +kernel, by decide +kernel⟩
section
variable {w : World} {K : PySem.W.Frag} {mg : PySem.Str → Option Value} {base : Heap}
theorem exk_BadNumber (T : TT w K mg base) : ExK Pg w K mg (He.ga K "BadNumber") (He.ma K (He.ga K "BadNumber") "__init__") "BadNumber" ok2 (fs2 "name" "value") :=
  exk2 (file := theFile) T 46 (d := d_BadNumber_init) rfl rfl (T.fa 122 rfl) (T.fa 123 rfl) (T.fa 145 rfl) (T.glo "BadNumber" (T.fa 75 rfl)) (He.noat_ok (x := "BadNumber") (f := "name") (T.fa 120 rfl)) (He.noat_ok (x := "BadNumber") (f := "value") (T.fa 121 rfl)) rfl rfl
    (⟨⟨rfl, rfl, rfl, by decide +kernel, by decide +kernel, by decide +kernel, by decide +kernel, ⟨_, rfl, rfl⟩, fun _ _ _ _ _ => rfl, fun _ _ _ _ _ _ _ _ _ us hl => match us, hl with | [_, _, _], _ => rfl⟩,
    ⟨_, _, _, _, _, _, _, _, _, _, _, _, _, _, _, _, _, _, rfl, by decide +kernel, fun _ _ _ _ _ => ⟨_, rfl⟩⟩, by decide +kernel, by decide +kernel, by decide +kernel⟩ : BwM.Txt2 (inClass (top 3) 0) "name" "name" "value" "value")
theorem exk_BadName (T : TT w K mg base) : ExK Pg w K mg (He.ga K "BadName") (He.ma K (He.ga K "BadName") "__init__") "BadName" ok1 (fs1 "name") :=
  exk1 (file := theFile) T 47 (d := d_BadName_init) rfl rfl (T.fa 126 rfl) (T.fa 127 rfl) (T.fa 145 rfl) (T.glo "BadName" (T.fa 125 rfl)) (He.noat_ok (x := "BadName") (f := "name") (T.fa 124 rfl)) rfl rfl
    (⟨⟨rfl, rfl, rfl, by decide +kernel, by decide +kernel, by decide +kernel, by decide +kernel, ⟨_, rfl, rfl⟩, fun _ _ _ _ _ => rfl, fun _ _ _ _ _ _ _ _ _ us hl => match us, hl with | [_, _], _ => rfl⟩,
    ⟨_, _, _, _, _, _, _, _, _, _, _, _, rfl, fun _ _ _ _ _ => ⟨_, rfl⟩⟩, by decide +kernel, by decide +kernel⟩ : BwM.Txt1 (inClass (top 12) 0) "name" "name")
theorem exk_RepeatedHour (T : TT w K mg base) : ExK Pg w K mg (He.ga K "RepeatedHour") (He.ma K (He.ga K "RepeatedHour") "__init__") "RepeatedHour" ok1 (fs1 "hour") :=
  exk1 (file := theFile) T 48 (d := d_RepeatedHour_init) rfl rfl (T.fa 130 rfl) (T.fa 131 rfl) (T.fa 145 rfl) (T.glo "RepeatedHour" (T.fa 129 rfl)) (He.noat_ok (x := "RepeatedHour") (f := "hour") (T.fa 128 rfl)) rfl rfl
    (⟨⟨rfl, rfl, rfl, by decide +kernel, by decide +kernel, by decide +kernel, by decide +kernel, ⟨_, rfl, rfl⟩, fun _ _ _ _ _ => rfl, fun _ _ _ _ _ _ _ _ _ us hl => match us, hl with | [_, _], _ => rfl⟩,
    ⟨_, _, _, _, _, _, _, _, _, _, _, _, rfl, fun _ _ _ _ _ => ⟨_, rfl⟩⟩, by decide +kernel, by decide +kernel⟩ : BwM.Txt1 (inClass (top 5) 0) "hour" "hour")
theorem exk_TooMany (T : TT w K mg base) : ExK Pg w K mg (He.ga K "TooMany") (He.ma K (He.ga K "TooMany") "__init__") "TooMany" ok2 (fs2 "name" "most") :=
  exk2 (file := theFile) T 49 (d := d_TooMany_init) rfl rfl (T.fa 135 rfl) (T.fa 136 rfl) (T.fa 145 rfl) (T.glo "TooMany" (T.fa 134 rfl)) (He.noat_ok (x := "TooMany") (f := "name") (T.fa 132 rfl)) (He.noat_ok (x := "TooMany") (f := "most") (T.fa 133 rfl)) rfl rfl
    (⟨⟨rfl, rfl, rfl, by decide +kernel, by decide +kernel, by decide +kernel, by decide +kernel, ⟨_, rfl, rfl⟩, fun _ _ _ _ _ => rfl, fun _ _ _ _ _ _ _ _ _ us hl => match us, hl with | [_, _, _], _ => rfl⟩,
    ⟨_, _, _, _, _, _, _, _, _, _, _, _, _, _, _, _, _, _, rfl, by decide +kernel, fun _ _ _ _ _ => ⟨_, rfl⟩⟩, by decide +kernel, by decide +kernel, by decide +kernel⟩ : BwM.Txt2 (inClass (top 4) 0) "name" "name" "most" "most")
theorem exk_RepeatedName (T : TT w K mg base) : ExK Pg w K mg (He.ga K "RepeatedName") (He.ma K (He.ga K "RepeatedName") "__init__") "RepeatedName" ok1 (fs1 "name") :=
  exk1 (file := theFile) T 50 (d := d_RepeatedName_init) rfl rfl (T.fa 139 rfl) (T.fa 140 rfl) (T.fa 145 rfl) (T.glo "RepeatedName" (T.fa 138 rfl)) (He.noat_ok (x := "RepeatedName") (f := "name") (T.fa 137 rfl)) rfl rfl
    (⟨⟨rfl, rfl, rfl, by decide +kernel, by decide +kernel, by decide +kernel, by decide +kernel, ⟨_, rfl, rfl⟩, fun _ _ _ _ _ => rfl, fun _ _ _ _ _ _ _ _ _ us hl => match us, hl with | [_, _], _ => rfl⟩,
    ⟨_, _, _, _, _, _, _, _, _, _, _, _, rfl, fun _ _ _ _ _ => ⟨_, rfl⟩⟩, by decide +kernel, by decide +kernel⟩ : BwM.Txt1 (inClass (top 13) 0) "name" "name")
theorem exk_WrongLength (T : TT w K mg base) : ExK Pg w K mg (He.ga K "WrongLength") (He.ma K (He.ga K "WrongLength") "__init__") "WrongLength" ok1 (fs1 "length") :=
  exk1 (file := theFile) T 51 (d := d_WrongLength_init) rfl rfl (T.fa 143 rfl) (T.fa 144 rfl) (T.fa 145 rfl) (T.glo "WrongLength" (T.fa 142 rfl)) (He.noat_ok (x := "WrongLength") (f := "length") (T.fa 141 rfl)) rfl rfl
    (⟨⟨rfl, rfl, rfl, by decide +kernel, by decide +kernel, by decide +kernel, by decide +kernel, ⟨_, rfl, rfl⟩, fun _ _ _ _ _ => rfl, fun _ _ _ _ _ _ _ _ _ us hl => match us, hl with | [_, _], _ => rfl⟩,
    ⟨_, _, _, _, _, _, _, _, _, _, _, _, rfl, fun _ _ _ _ _ => ⟨_, rfl⟩⟩, by decide +kernel, by decide +kernel⟩ : BwM.Txt1 (inClass (top 10) 0) "length" "length")
theorem T_kf (T : TT w K mg base) : KFH K := ⟨(T.fa 147 rfl), (T.fa 148 rfl), (T.fa 149 rfl), (T.fa 150 rfl), (T.fa 151 rfl), (T.fa 152 rfl), (T.fa 153 rfl), (T.fa 154 rfl), (T.fa 155 rfl)⟩
theorem it_Lot (T : TT w K mg base) : ItFn Pg w K mg base (He.ga K "Lot") (He.ma K (He.ga K "Lot") "__iter__") "_members" 2 := by
  obtain ⟨fd, F⟩ := T.df 45 (d := d_Lot_iter) rfl
  intro A outer s H a Q hr e0 h
  have sc : FnScope ["self"] ["self"] (defScope (inClass (top 30) 7)) := ⟨rfl, rfl, rfl, by decide +kernel, rfl, by decide +kernel, by decide +kernel⟩
  refine fn_sized (d := d_Lot_iter) (k := 1) (sp := spIt K (He.ga K "Lot") "_members") F sc (fun n vs H Q E h => by obtain ⟨_, _, _, _, _, rfl, _⟩ := h; rfl) (fun cdv A outer s H vs Q E nd tk hr hsp => ⟨tRet (tCB (ItX.rIterN K s.heap.objs.size) (tCons (tFldI (He.ga K "Lot") "_members" (tVar 0)) tNil)), ?_, ?_⟩) A outer s H _ [.ref a] [.ref a] Q L2.E0 hr e0 ?_ (.cons rfl .nil) h
  · exact pss_one (ps_ret (pe_callB ItX.call_iterN rfl (T.free "iter" (T.fa 119 rfl)) (by kernel_rfl) (pa_cons (pe_fldI (He.cls_ok (x := "Lot") (T.fa 0 rfl)) (He.noat_ok (x := "Lot") (f := "_members") (T.fa 18 rfl)) (pv 0)) pa_nil)))
  · obtain ⟨a, dx, l, fs, xs, rfl, ha, hl, hs, hq⟩ := hsp
    exact ⟨_, rfl, a, dx, fs, _, rfl, ha, hl, l, xs, rfl, hs, fun it h1 h2 => hq it h1 h2⟩
  · obtain ⟨oc, od, kV, doc, pm, an, cdv, ct, osl, rfl, lk, hcd⟩ := F.ex
    exact .of_eq rfl
theorem ok_first_repeated (T : TT w K mg base) : OkF Pg w K mg base 1 (He.ga K "first_repeated") (spF K) := by
  obtain ⟨fd, F⟩ := T.df 44 (d := d_first_repeated) rfl
  exact ⟨fd, ["residues"], ⟨fun _ _ _ _ h => h.elim, fun _ _ _ _ _ _ _ _ _ _ _ _ _ h => h.elim⟩, F.binds (fun _ _ _ _ _ _ us hl => match us, hl with | [_], _ => rfl)⟩
theorem ok_hours_checked (T : TT w K mg base) : OkF Pg w K mg base 2 (He.ga K "hours_checked") (sp_hours_checked K) :=
  okf_of (d := d_hours_checked) (t := fun E => t_hours_checked K E) (T.df 0 rfl) sc_hours_checked (fun _ _ _ _ h => by obtain ⟨_, _, rfl, _⟩ := h; rfl)
    (fun _ _ _ _ _ _ us hl => match us, hl with | [_, _], _ => rfl) (fun cdv A outer s H E nd tk hr =>
    (pss_one (ps_if (pt_not (pt_chain op_le op_le pe_int (pv 0) (pv 1))) (pss_one (ps_raise rfl tk (pmk_e (exk_BadNumber T) hr (by decide) (pa_cons pe_str (pa_cons (pv 0) pa_nil)) rfl))) pss_nil)))
    (pure_hours_checked (T_kf T))
theorem ok_rings_checked (T : TT w K mg base) : OkF Pg w K mg base 2 (He.ga K "rings_checked") (sp_rings_checked K) :=
  okf_of (d := d_rings_checked) (t := fun E => t_rings_checked K E) (T.df 1 rfl) sc_rings_checked (fun _ _ _ _ h => by obtain ⟨_, _, _, _, _, _, rfl, _⟩ := h; rfl)
    (fun _ _ _ _ _ _ us hl => match us, hl with | [_, _], _ => rfl) (fun cdv A outer s H E nd tk hr =>
    (pss_one (ps_if (pt_cmpR op_ne (pe_fldI (He.cls_ok (x := "Lot") (T.fa 0 rfl)) (He.noat_ok (x := "Lot") (f := "hours") (T.fa 1 rfl)) (pv 0)) (pe_fldI (He.cls_ok (x := "Lot") (T.fa 0 rfl)) (He.noat_ok (x := "Lot") (f := "hours") (T.fa 1 rfl)) (pv 1)) (nomark _)) (pss_one (ps_raise rfl tk (pmk_own PySem.F.excBase_ValueError (He.exc_ok (x := "OtherHours") (T.fa 2 rfl)).1 (T.glo "OtherHours" (T.fa 3 rfl)) (He.exc_ok (x := "OtherHours") (T.fa 2 rfl)).2.1 (raises_own (He.exc_ok (x := "OtherHours") (T.fa 2 rfl)).2.2.1 (He.exc_ok (x := "OtherHours") (T.fa 2 rfl)).2.2.2) rfl))) pss_nil)))
    (pure_rings_checked (T_kf T))
theorem ok_is_name (T : TT w K mg base) : OkF Pg w K mg base 2 (He.ga K "is_name") (sp_is_name K) :=
  okf_of (d := d_is_name) (t := fun E => t_is_name K E) (T.df 2 rfl) sc_is_name (fun _ _ _ _ h => by obtain ⟨_, rfl, _⟩ := h; rfl)
    (fun _ _ _ _ _ _ us hl => match us, hl with | [_], _ => rfl) (fun cdv A outer s H E nd tk hr =>
    (pss_cons (ps_if (pt_not (pt_chain op_le op_le pe_int (pe_callB call_len_str rfl (T.free "len" (T.fa 4 rfl)) boot_len (pa_cons (pv 0) pa_nil)) (pe_gint rfl (T.intc "MOST_LETTERS" 8 (T.fa 5 rfl))))) (pss_one (ps_ret pe_bl)) pss_nil)
    (pss_one (ps_ret (pe_callB (cr_all rfl) rfl (T.free "all" (T.fa 7 rfl)) (by kernel_rfl) (pa_cons (pe_lc (own := [("letter", 1)]) rfl nd (pi_str (pv 0)) (blkOk_by (own := [("letter", 1)]) (by kernel_rfl)) (fun _ _ _ _ _ => (pg_name (i := 1) nd rfl (.inl rfl))) (fun _ _ _ _ _ => pts_nil) (fun _ _ _ _ _ => (pe_cmpR op_in_sign (pv 1) (pe_gstr rfl (T.strc "LETTERS" "abcdefghijklmnopqrstuvwxyz" (T.fa 6 rfl))) rfl))) pa_nil))))))
    (pure_is_name (T_kf T))
theorem ok_name_checked (T : TT w K mg base) : OkF Pg w K mg base 4 (He.ga K "name_checked") (sp_name_checked K) :=
  okf_of (d := d_name_checked) (t := fun E => t_name_checked K E) (T.df 3 rfl) sc_name_checked (fun _ _ _ _ h => by obtain ⟨_, rfl, _⟩ := h; rfl)
    (fun _ _ _ _ _ _ us hl => match us, hl with | [_], _ => rfl) (fun cdv A outer s H E nd tk hr =>
    (pss_one (ps_if (pt_not (pt_val (pe_c1 ⟨ok_is_name T, hr.mono (by decide), tk⟩ (T.glo "is_name" (T.fa 8 rfl)) (He.keep_ok (x := "is_name") (T.fa 9 rfl)) rfl (pa_cons (pv 0) pa_nil)))) (pss_one (ps_raise rfl tk (pmk_e (exk_BadName T) hr (by decide) (pa_cons (pv 0) pa_nil) rfl))) pss_nil)))
    (pure_name_checked (T_kf T))
theorem ok_Lot_init (T : TT w K mg base) : OkF Pg w K mg base 4 (He.ma K (He.ga K "Lot") "__init__") (sp_Lot_init K) :=
  okf_of (d := d_Lot_init) (t := fun E => t_Lot_init K E) (T.df 4 rfl) sc_Lot_init (fun _ _ _ _ h => by obtain ⟨_, _, _, _, _, rfl, _⟩ := h; rfl)
    (fun _ _ _ _ _ _ us hl => match us, hl with | [_, _, _], _ => rfl) (fun cdv A outer s H E nd tk hr =>
    (pss_cons (ps_expr (pe_c1 ⟨ok_hours_checked T, hr.mono (by decide), tk⟩ (T.glo "hours_checked" (T.fa 11 rfl)) (He.keep_ok (x := "hours_checked") (T.fa 12 rfl)) rfl (pa_cons (pv 1) (pa_cons (pe_conI (He.cls_ok (x := "Lot") (T.fa 0 rfl)) (conB_ok (T.fa 10 rfl)) (pv 0)) pa_nil))))
    (pss_cons (ps_setLc (i := 3) (own := [("member", 4)]) rfl nd rfl rfl (sw_true rfl rfl rfl (by kernel_rfl)) (pi_list (pv 2)) (blkOk_by (own := [("member", 4)]) (by kernel_rfl)) (fun _ _ _ _ _ => (pg_name (i := 4) nd rfl (.inl rfl))) (fun _ _ _ _ _ => pts_nil) (fun _ _ _ _ _ => (pe_op op_modN (pv 4) (pv 1))))
    (pss_cons (ps_if (pt_cmpR op_lt (RZ.pe_lenSetI rfl (T.free "len" (T.fa 4 rfl)) rfl (T.free "set" (T.fa 13 rfl)) (pv 3)) (pe_callB call_len_seq rfl (T.free "len" (T.fa 4 rfl)) boot_len (pa_cons (pv 3) pa_nil)) (nomark _)) (pss_one (ps_raise rfl tk (pmk_e (exk_RepeatedHour T) hr (by decide) (pa_cons (pe_c1 ⟨ok_first_repeated T, hr.mono (by decide), tk⟩ (T.glo "first_repeated" (T.fa 14 rfl)) (He.keep_ok (x := "first_repeated") (T.fa 15 rfl)) rfl (pa_cons (pv 3) pa_nil)) pa_nil) rfl))) pss_nil)
    (pss_cons (ps_fldI (He.cls_ok (x := "Lot") (T.fa 0 rfl)) (He.noat_ok (x := "Lot") (f := "hours") (T.fa 1 rfl)) (pv 0) (pv 1) rfl)
    (pss_one (ps_fldI (He.cls_ok (x := "Lot") (T.fa 0 rfl)) (He.noat_ok (x := "Lot") (f := "_members") (T.fa 18 rfl)) (pv 0) (pe_callB cr_sortedI rfl (T.free "sorted" (T.fa 17 rfl)) (by kernel_rfl) (pa_cons (pe_lc (own := [("residue", 5)]) rfl nd (pi_list (pv 3)) (blkOk_by (own := [("residue", 5)]) (by kernel_rfl)) (fun _ _ _ _ _ => (pg_name (i := 5) nd rfl (.inl rfl))) (fun _ _ _ _ _ => pts_nil) (fun _ _ _ _ _ => (pe_callTy call_int1 rfl (T.free "int" (T.fa 16 rfl)) (by kernel_rfl) (pa_cons (pv 5) pa_nil)))) pa_nil)) rfl)))))))
    (pure_Lot_init (T_kf T))
theorem ok_Lot_members (T : TT w K mg base) : OkF Pg w K mg base 2 (getter K (He.ga K "Lot") "members") (sp_Lot_members K) :=
  okf_of (d := d_Lot_members) (t := fun E => t_Lot_members K E) (T.df 5 rfl) sc_Lot_members (fun _ _ _ _ h => by obtain ⟨_, _, _, rfl, _⟩ := h; rfl)
    (fun _ _ _ _ _ _ us hl => match us, hl with | [_], _ => rfl) (fun cdv A outer s H E nd tk hr =>
    (pss_one (ps_ret (pe_callTy call_list_of rfl (T.free "list" (T.fa 19 rfl)) (by kernel_rfl) (pa_cons (pe_fldI (He.cls_ok (x := "Lot") (T.fa 0 rfl)) (He.noat_ok (x := "Lot") (f := "_members") (T.fa 18 rfl)) (pv 0)) pa_nil)))))
    (pure_Lot_members (T_kf T))
theorem ok_Lot_len (T : TT w K mg base) : OkF Pg w K mg base 2 (He.ma K (He.ga K "Lot") "__len__") (sp_Lot_len K) :=
  okf_of (d := d_Lot_len) (t := fun E => t_Lot_len K E) (T.df 6 rfl) sc_Lot_len (fun _ _ _ _ h => by obtain ⟨_, _, _, rfl, _⟩ := h; rfl)
    (fun _ _ _ _ _ _ us hl => match us, hl with | [_], _ => rfl) (fun cdv A outer s H E nd tk hr =>
    (pss_one (ps_ret (pe_callB call_len_seq rfl (T.free "len" (T.fa 4 rfl)) boot_len (pa_cons (pe_fldI (He.cls_ok (x := "Lot") (T.fa 0 rfl)) (He.noat_ok (x := "Lot") (f := "_members") (T.fa 18 rfl)) (pv 0)) pa_nil)))))
    (pure_Lot_len (T_kf T))
theorem ok_Lot_contains (T : TT w K mg base) : OkF Pg w K mg base 2 (He.ma K (He.ga K "Lot") "__contains__") (sp_Lot_contains K) :=
  okf_of (d := d_Lot_contains) (t := fun E => t_Lot_contains K E) (T.df 7 rfl) sc_Lot_contains (fun _ _ _ _ h => by obtain ⟨_, _, _, _, rfl, _⟩ := h; rfl)
    (fun _ _ _ _ _ _ us hl => match us, hl with | [_, _], _ => rfl) (fun cdv A outer s H E nd tk hr =>
    (pss_one (ps_ret (pe_cmpR op_in_seq (pe_op op_modN (pv 1) (pe_fldI (He.cls_ok (x := "Lot") (T.fa 0 rfl)) (He.noat_ok (x := "Lot") (f := "hours") (T.fa 1 rfl)) (pv 0))) (pe_fldI (He.cls_ok (x := "Lot") (T.fa 0 rfl)) (He.noat_ok (x := "Lot") (f := "_members") (T.fa 18 rfl)) (pv 0)) rfl))))
    (pure_Lot_contains (T_kf T))
theorem ok_Lot_eq (T : TT w K mg base) : OkF Pg w K mg base 2 (He.ma K (He.ga K "Lot") "__eq__") (sp_Lot_eq K) :=
  okf_of (d := d_Lot_eq) (t := fun E => t_Lot_eq K E) (T.df 8 rfl) sc_Lot_eq (fun _ _ _ _ h => by obtain ⟨_, _, _, _, _, _, rfl, _⟩ := h; rfl)
    (fun _ _ _ _ _ _ us hl => match us, hl with | [_, _], _ => rfl) (fun cdv A outer s H E nd tk hr =>
    (pss_one (ps_ret (pe_and (pe_callB call_isi rfl (T.free "isinstance" (T.fa 21 rfl)) (by kernel_rfl) (pa_cons (pv 1) (pa_cons (pe_glob (v := .ref (He.ga K "Lot")) rfl (T.glo "Lot" (T.fa 20 rfl)) rfl) pa_nil))) (pe_and (pe_cmpR op_eq (pe_fldI (He.cls_ok (x := "Lot") (T.fa 0 rfl)) (He.noat_ok (x := "Lot") (f := "hours") (T.fa 1 rfl)) (pv 0)) (pe_fldI (He.cls_ok (x := "Lot") (T.fa 0 rfl)) (He.noat_ok (x := "Lot") (f := "hours") (T.fa 1 rfl)) (pv 1)) (nomark _)) (pe_one (pe_cmpR (op_eqD hr.units) (pe_fldI (He.cls_ok (x := "Lot") (T.fa 0 rfl)) (He.noat_ok (x := "Lot") (f := "_members") (T.fa 18 rfl)) (pv 0)) (pe_fldI (He.cls_ok (x := "Lot") (T.fa 0 rfl)) (He.noat_ok (x := "Lot") (f := "_members") (T.fa 18 rfl)) (pv 1)) (nomark _))))))))
    (pure_Lot_eq (T_kf T))
theorem ok_Lot_lshift (T : TT w K mg base) : OkF Pg w K mg base 6 (He.ma K (He.ga K "Lot") "__lshift__") (sp_Lot_lshift K) :=
  okf_of (d := d_Lot_lshift) (t := fun E => t_Lot_lshift K E) (T.df 9 rfl) sc_Lot_lshift (fun _ _ _ _ h => by obtain ⟨_, _, _, _, rfl, _⟩ := h; rfl)
    (fun _ _ _ _ _ _ us hl => match us, hl with | [_, _], _ => rfl) (fun cdv A outer s H E nd tk hr =>
    (pss_one (ps_ret (pe_mk1 (He.mkr_ok (x := "Lot") (T.fa 22 rfl)) ⟨ok_Lot_init T, hr.mono (by decide), tk⟩ (hr.mono (by decide)) (T.glo "Lot" (T.fa 20 rfl)) rfl (pa_cons (pe_fldI (He.cls_ok (x := "Lot") (T.fa 0 rfl)) (He.noat_ok (x := "Lot") (f := "hours") (T.fa 1 rfl)) (pv 0)) (pa_cons (pe_lc (own := [("member", 2)]) rfl nd (pi_list (pe_fldI (He.cls_ok (x := "Lot") (T.fa 0 rfl)) (He.noat_ok (x := "Lot") (f := "_members") (T.fa 18 rfl)) (pv 0))) (blkOk_by (own := [("member", 2)]) (by kernel_rfl)) (fun _ _ _ _ _ => (pg_name (i := 2) nd rfl (.inl rfl))) (fun _ _ _ _ _ => pts_nil) (fun _ _ _ _ _ => (pe_op op_add (pv 2) (pv 1)))) pa_nil))))))
    (pure_Lot_lshift (T_kf T))
theorem ok_Lot_neg (T : TT w K mg base) : OkF Pg w K mg base 6 (He.ma K (He.ga K "Lot") "__neg__") (sp_Lot_neg K) :=
  okf_of (d := d_Lot_neg) (t := fun E => t_Lot_neg K E) (T.df 10 rfl) sc_Lot_neg (fun _ _ _ _ h => by obtain ⟨_, _, _, rfl, _⟩ := h; rfl)
    (fun _ _ _ _ _ _ us hl => match us, hl with | [_], _ => rfl) (fun cdv A outer s H E nd tk hr =>
    (pss_one (ps_ret (pe_mk1 (He.mkr_ok (x := "Lot") (T.fa 22 rfl)) ⟨ok_Lot_init T, hr.mono (by decide), tk⟩ (hr.mono (by decide)) (T.glo "Lot" (T.fa 20 rfl)) rfl (pa_cons (pe_fldI (He.cls_ok (x := "Lot") (T.fa 0 rfl)) (He.noat_ok (x := "Lot") (f := "hours") (T.fa 1 rfl)) (pv 0)) (pa_cons (pe_lc (own := [("member", 1)]) rfl nd (pi_list (pe_fldI (He.cls_ok (x := "Lot") (T.fa 0 rfl)) (He.noat_ok (x := "Lot") (f := "_members") (T.fa 18 rfl)) (pv 0))) (blkOk_by (own := [("member", 1)]) (by kernel_rfl)) (fun _ _ _ _ _ => (pg_name (i := 1) nd rfl (.inl rfl))) (fun _ _ _ _ _ => pts_nil) (fun _ _ _ _ _ => (pe_un un_neg (pv 1)))) pa_nil))))))
    (pure_Lot_neg (T_kf T))
theorem ok_meetings (T : TT w K mg base) : OkF Pg w K mg base 4 (He.ga K "meetings") (sp_meetings K) :=
  okf_of (d := d_meetings) (t := fun E => t_meetings K E) (T.df 11 rfl) sc_meetings (fun _ _ _ _ h => by obtain ⟨_, _, _, _, _, rfl, _⟩ := h; rfl)
    (fun _ _ _ _ _ _ us hl => match us, hl with | [_, _], _ => rfl) (fun cdv A outer s H E nd tk hr =>
    (pss_cons (ps_expr (pe_c1 ⟨ok_rings_checked T, hr.mono (by decide), tk⟩ (T.glo "rings_checked" (T.fa 23 rfl)) (He.keep_ok (x := "rings_checked") (T.fa 24 rfl)) rfl (pa_cons (pv 0) (pa_cons (pv 1) pa_nil))))
    (pss_cons (ps_setLc (i := 2) (own := [("_", 6)]) rfl nd rfl rfl (sw_true rfl rfl rfl (by kernel_rfl)) (pi_range1 rfl (T.free "range" (T.fa 25 rfl)) (pa_cons (pe_fldI (He.cls_ok (x := "Lot") (T.fa 0 rfl)) (He.noat_ok (x := "Lot") (f := "hours") (T.fa 1 rfl)) (pv 0)) pa_nil)) (blkOk_by (own := [("_", 6)]) (by kernel_rfl)) (fun _ _ _ _ _ => (pg_name (i := 6) nd rfl (.inl rfl))) (fun _ _ _ _ _ => pts_nil) (fun _ _ _ _ _ => pe_int))
    (pss_cons (ps_for (passes_of rfl) rfl (pi_own (fnd1 (T.fa 26 rfl)) (fnd2 (T.fa 26 rfl)) (it_Lot T) (hr.mono (by decide)) (pv 0)) (pg_name (i := 3) nd rfl (.inl rfl)) (pss_one (ps_for (passes_of rfl) rfl (pi_own (fnd1 (T.fa 26 rfl)) (fnd2 (T.fa 26 rfl)) (it_Lot T) (hr.mono (by decide)) (pv 1)) (pg_name (i := 4) nd rfl (.inl rfl)) (pss_cons (ps_set (i := 5) nd rfl (.inl rfl) (pe_op op_modN (pe_op op_sub (pv 3) (pv 4)) (pe_fldI (He.cls_ok (x := "Lot") (T.fa 0 rfl)) (He.noat_ok (x := "Lot") (f := "hours") (T.fa 1 rfl)) (pv 0))))
    (pss_one (ps_asg (pe_op op_add (pe_ix ix_list (pv 2) (pv 5) (fun _ _ => rfl)) pe_int) (pg_sub (pv 2) (pv 5) set_list)))))))
    (pss_one (ps_ret (pv 2)))))))
    (pure_meetings (T_kf T))
theorem ok_House_init (T : TT w K mg base) : OkF Pg w K mg base 6 (He.ma K (He.ga K "House") "__init__") (sp_House_init K) :=
  okf_of (d := d_House_init) (t := fun E => t_House_init K E) (T.df 12 rfl) sc_House_init (fun _ _ _ _ h => by obtain ⟨_, _, _, _, rfl, _⟩ := h; rfl)
    (fun _ _ _ _ _ _ us hl => match us, hl with | [_, _, _], _ => rfl) (fun cdv A outer s H E nd tk hr =>
    (pss_cons (ps_if (pt_not (pt_chain op_le op_le pe_int (pv 1) (pe_conI (He.cls_ok (x := "House") (T.fa 27 rfl)) (conB_ok (T.fa 28 rfl)) (pv 0)))) (pss_one (ps_raise rfl tk (pmk_e (exk_BadNumber T) hr (by decide) (pa_cons pe_str (pa_cons (pv 1) pa_nil)) rfl))) pss_nil)
    (pss_cons (ps_if (pt_cmpR op_eq (pe_callB call_len_seq rfl (T.free "len" (T.fa 4 rfl)) boot_len (pa_cons (pv 2) pa_nil)) pe_int (nomark _)) (pss_one (ps_raise rfl tk (pmk_e (exk_BadNumber T) hr (by decide) (pa_cons pe_str (pa_cons pe_int pa_nil)) rfl))) pss_nil)
    (pss_cons (ps_if (pt_cmpR op_gt (pe_callB call_len_seq rfl (T.free "len" (T.fa 4 rfl)) boot_len (pa_cons (pv 2) pa_nil)) (pe_conI (He.cls_ok (x := "House") (T.fa 27 rfl)) (conB_ok (T.fa 29 rfl)) (pv 0)) (nomark _)) (pss_one (ps_raise rfl tk (pmk_e (exk_TooMany T) hr (by decide) (pa_cons pe_str (pa_cons (pe_conI (He.cls_ok (x := "House") (T.fa 27 rfl)) (conB_ok (T.fa 29 rfl)) (pv 0)) pa_nil)) rfl))) pss_nil)
    (pss_cons (ps_set (i := 3) nd rfl (.inl rfl) (pe_lst pa_nil))
    (pss_cons (ps_set (i := 4) nd rfl (.inl rfl) (pe_lst pa_nil))
    (pss_cons (ps_for (passes_of rfl) rfl (pi_list (pv 2)) (pg_tup rfl (pgs_cons (pg_name (i := 5) nd rfl (.inl rfl)) (pgs_cons (pg_name (i := 6) nd rfl (.inl rfl)) pgs_nil))) (pss_cons (ps_expr (pe_c1 ⟨ok_name_checked T, hr.mono (by decide), tk⟩ (T.glo "name_checked" (T.fa 30 rfl)) (He.keep_ok (x := "name_checked") (T.fa 31 rfl)) rfl (pa_cons (pv 5) pa_nil)))
    (pss_cons (ps_if (pt_cmpR op_in_seq (pv 5) (pv 3) rfl) (pss_one (ps_raise rfl tk (pmk_e (exk_RepeatedName T) hr (by decide) (pa_cons (pv 5) pa_nil) rfl))) pss_nil)
    (pss_cons (ps_if (pt_not (pt_chain op_le op_le pe_int (pv 6) (pe_conI (He.cls_ok (x := "House") (T.fa 27 rfl)) (conB_ok (T.fa 32 rfl)) (pv 0)))) (pss_one (ps_raise rfl tk (pmk_e (exk_BadNumber T) hr (by decide) (pa_cons pe_str (pa_cons (pv 6) pa_nil)) rfl))) pss_nil)
    (pss_cons (ps_expr (pe_bm PySem.F.plainAttrs_list PySem.F.slot_list_append PySem.F.type_list_append mt_append (pv 3) (pa_cons (pv 5) pa_nil)))
    (pss_one (ps_expr (pe_bm PySem.F.plainAttrs_list PySem.F.slot_list_append PySem.F.type_list_append mt_append (pv 4) (pa_cons (pv 6) pa_nil)))))))))
    (pss_cons (ps_if (pt_cmpR op_gt (pe_op op_mulW (pv 1) (pe_callB call_len_seq rfl (T.free "len" (T.fa 4 rfl)) boot_len (pa_cons (pv 2) pa_nil))) (pe_conI (He.cls_ok (x := "House") (T.fa 27 rfl)) (conB_ok (T.fa 33 rfl)) (pv 0)) (nomark _)) (pss_one (ps_raise rfl tk (pmk_e (exk_TooMany T) hr (by decide) (pa_cons pe_str (pa_cons (pe_conI (He.cls_ok (x := "House") (T.fa 27 rfl)) (conB_ok (T.fa 33 rfl)) (pv 0)) pa_nil)) rfl))) pss_nil)
    (pss_cons (ps_fldI (He.cls_ok (x := "House") (T.fa 27 rfl)) (He.noat_ok (x := "House") (f := "hours") (T.fa 34 rfl)) (pv 0) (pv 1) rfl)
    (pss_cons (ps_fldI (He.cls_ok (x := "House") (T.fa 27 rfl)) (He.noat_ok (x := "House") (f := "names") (T.fa 36 rfl)) (pv 0) (pe_callTy call_tuple_of rfl (T.free "tuple" (T.fa 35 rfl)) (by kernel_rfl) (pa_cons (pv 3) pa_nil)) rfl)
    (pss_one (ps_fldI (He.cls_ok (x := "House") (T.fa 27 rfl)) (He.noat_ok (x := "House") (f := "stakes") (T.fa 37 rfl)) (pv 0) (pe_callTy call_tuple_of rfl (T.free "tuple" (T.fa 35 rfl)) (by kernel_rfl) (pa_cons (pv 4) pa_nil)) rfl))))))))))))
    (pure_House_init (T_kf T))
theorem ok_House_len (T : TT w K mg base) : OkF Pg w K mg base 2 (He.ma K (He.ga K "House") "__len__") (sp_House_len K) :=
  okf_of (d := d_House_len) (t := fun E => t_House_len K E) (T.df 13 rfl) sc_House_len (fun _ _ _ _ h => by obtain ⟨_, _, rfl, _⟩ := h; rfl)
    (fun _ _ _ _ _ _ us hl => match us, hl with | [_], _ => rfl) (fun cdv A outer s H E nd tk hr =>
    (pss_one (ps_ret (pe_callB call_len_seq rfl (T.free "len" (T.fa 4 rfl)) boot_len (pa_cons (pe_fldI (He.cls_ok (x := "House") (T.fa 27 rfl)) (He.noat_ok (x := "House") (f := "names") (T.fa 36 rfl)) (pv 0)) pa_nil)))))
    (pure_House_len (T_kf T))
theorem ok_House_eq (T : TT w K mg base) : OkF Pg w K mg base 2 (He.ma K (He.ga K "House") "__eq__") (sp_House_eq K) :=
  okf_of (d := d_House_eq) (t := fun E => t_House_eq K E) (T.df 14 rfl) sc_House_eq (fun _ _ _ _ h => by obtain ⟨_, _, _, rfl, _⟩ := h; rfl)
    (fun _ _ _ _ _ _ us hl => match us, hl with | [_, _], _ => rfl) (fun cdv A outer s H E nd tk hr =>
    (pss_one (ps_ret (pe_and (pe_callB call_isi rfl (T.free "isinstance" (T.fa 21 rfl)) (by kernel_rfl) (pa_cons (pv 1) (pa_cons (pe_glob (v := .ref (He.ga K "House")) rfl (T.glo "House" (T.fa 38 rfl)) rfl) pa_nil))) (pe_and (pe_cmpR op_eq (pe_fldI (He.cls_ok (x := "House") (T.fa 27 rfl)) (He.noat_ok (x := "House") (f := "hours") (T.fa 34 rfl)) (pv 0)) (pe_fldI (He.cls_ok (x := "House") (T.fa 27 rfl)) (He.noat_ok (x := "House") (f := "hours") (T.fa 34 rfl)) (pv 1)) (nomark _)) (pe_and (pe_cmpR (op_eqD hr.units) (pe_fldI (He.cls_ok (x := "House") (T.fa 27 rfl)) (He.noat_ok (x := "House") (f := "names") (T.fa 36 rfl)) (pv 0)) (pe_fldI (He.cls_ok (x := "House") (T.fa 27 rfl)) (He.noat_ok (x := "House") (f := "names") (T.fa 36 rfl)) (pv 1)) (nomark _)) (pe_one (pe_cmpR (op_eqD hr.units) (pe_fldI (He.cls_ok (x := "House") (T.fa 27 rfl)) (He.noat_ok (x := "House") (f := "stakes") (T.fa 37 rfl)) (pv 0)) (pe_fldI (He.cls_ok (x := "House") (T.fa 27 rfl)) (He.noat_ok (x := "House") (f := "stakes") (T.fa 37 rfl)) (pv 1)) (nomark _)))))))))
    (pure_House_eq (T_kf T))
theorem ok_Beat_init (T : TT w K mg base) : OkF Pg w K mg base 4 (He.ma K (He.ga K "Beat") "__init__") (sp_Beat_init K) :=
  okf_of (d := d_Beat_init) (t := fun E => t_Beat_init K E) (T.df 15 rfl) sc_Beat_init (fun _ _ _ _ h => by obtain ⟨_, _, _, _, _, rfl, _⟩ := h; rfl)
    (fun _ _ _ _ _ _ us hl => match us, hl with | [_, _, _], _ => rfl) (fun cdv A outer s H E nd tk hr =>
    (pss_cons (ps_if (pt_cmpR op_ne (pe_callB call_len_seq rfl (T.free "len" (T.fa 4 rfl)) boot_len (pa_cons (pv 2) pa_nil)) (pe_fldI (He.cls_ok (x := "House") (T.fa 27 rfl)) (He.noat_ok (x := "House") (f := "hours") (T.fa 34 rfl)) (pv 1)) (nomark _)) (pss_one (ps_raise rfl tk (pmk_e (exk_WrongLength T) hr (by decide) (pa_cons (pe_callB call_len_seq rfl (T.free "len" (T.fa 4 rfl)) boot_len (pa_cons (pv 2) pa_nil)) pa_nil) rfl))) pss_nil)
    (pss_cons (ps_for (passes_of rfl) rfl (pi_list (pv 2)) (pg_name (i := 3) nd rfl (.inl rfl)) (pss_one (ps_if (pt_not (pt_chain op_le op_lt (pe_un un_neg pe_int) (pv 3) (pe_callB (call_lenI (fnd1 (T.fa 39 rfl)) (fnd2 (T.fa 39 rfl)) ⟨ok_House_len T, hr.mono (by decide)⟩) rfl (T.free "len" (T.fa 4 rfl)) boot_len (pa_cons (pv 1) pa_nil)))) (pss_one (ps_raise rfl tk (pmk_e (exk_BadNumber T) hr (by decide) (pa_cons pe_str (pa_cons (pv 3) pa_nil)) rfl))) pss_nil)))
    (pss_cons (ps_fldI (He.cls_ok (x := "Beat") (T.fa 40 rfl)) (He.noat_ok (x := "Beat") (f := "house") (T.fa 41 rfl)) (pv 0) (pv 1) rfl)
    (pss_one (ps_fldI (He.cls_ok (x := "Beat") (T.fa 40 rfl)) (He.noat_ok (x := "Beat") (f := "steps") (T.fa 42 rfl)) (pv 0) (pe_callTy call_tuple_of rfl (T.free "tuple" (T.fa 35 rfl)) (by kernel_rfl) (pa_cons (pv 2) pa_nil)) rfl))))))
    (pure_Beat_init (T_kf T))
theorem ok_Beat_getitem (T : TT w K mg base) : OkF Pg w K mg base 2 (He.ma K (He.ga K "Beat") "__getitem__") (sp_Beat_getitem K) :=
  okf_of (d := d_Beat_getitem) (t := fun E => t_Beat_getitem K E) (T.df 16 rfl) sc_Beat_getitem (fun _ _ _ _ h => by obtain ⟨_, _, _, rfl, _⟩ := h; rfl)
    (fun _ _ _ _ _ _ us hl => match us, hl with | [_, _], _ => rfl) (fun cdv A outer s H E nd tk hr =>
    (pss_one (ps_ret (pe_ix ix_tup (pe_fldI (He.cls_ok (x := "Beat") (T.fa 40 rfl)) (He.noat_ok (x := "Beat") (f := "steps") (T.fa 42 rfl)) (pv 0)) (pe_op op_modN (pv 1) (pe_callB call_len_seq rfl (T.free "len" (T.fa 4 rfl)) boot_len (pa_cons (pe_fldI (He.cls_ok (x := "Beat") (T.fa 40 rfl)) (He.noat_ok (x := "Beat") (f := "steps") (T.fa 42 rfl)) (pv 0)) pa_nil))) (fun _ _ => rfl)))))
    (pure_Beat_getitem (T_kf T))
theorem ok_Beat_eq (T : TT w K mg base) : OkF Pg w K mg base 4 (He.ma K (He.ga K "Beat") "__eq__") (sp_Beat_eq K) :=
  okf_of (d := d_Beat_eq) (t := fun E => t_Beat_eq K E) (T.df 17 rfl) sc_Beat_eq (fun _ _ _ _ h => by obtain ⟨_, _, _, rfl, _⟩ := h; rfl)
    (fun _ _ _ _ _ _ us hl => match us, hl with | [_, _], _ => rfl) (fun cdv A outer s H E nd tk hr =>
    (pss_one (ps_ret (pe_and (pe_callB call_isi rfl (T.free "isinstance" (T.fa 21 rfl)) (by kernel_rfl) (pa_cons (pv 1) (pa_cons (pe_glob (v := .ref (He.ga K "Beat")) rfl (T.glo "Beat" (T.fa 43 rfl)) rfl) pa_nil))) (pe_and (pe_cmp (pc_eqI (fnd1 (T.fa 44 rfl)) (fnd2 (T.fa 44 rfl)) ⟨ok_House_eq T, hr.mono (by decide), tk⟩ (pe_fldI (He.cls_ok (x := "Beat") (T.fa 40 rfl)) (He.noat_ok (x := "Beat") (f := "house") (T.fa 41 rfl)) (pv 0)) (pe_fldI (He.cls_ok (x := "Beat") (T.fa 40 rfl)) (He.noat_ok (x := "Beat") (f := "house") (T.fa 41 rfl)) (pv 1)))) (pe_one (pe_cmpR (op_eqD hr.units) (pe_fldI (He.cls_ok (x := "Beat") (T.fa 40 rfl)) (He.noat_ok (x := "Beat") (f := "steps") (T.fa 42 rfl)) (pv 0)) (pe_fldI (He.cls_ok (x := "Beat") (T.fa 40 rfl)) (He.noat_ok (x := "Beat") (f := "steps") (T.fa 42 rfl)) (pv 1)) (nomark _))))))))
    (pure_Beat_eq (T_kf T))
theorem ok_Beat_lot (T : TT w K mg base) : OkF Pg w K mg base 6 (He.ma K (He.ga K "Beat") "lot") (sp_Beat_lot K) :=
  okf_of (d := d_Beat_lot) (t := fun E => t_Beat_lot K E) (T.df 18 rfl) sc_Beat_lot (fun _ _ _ _ h => by obtain ⟨_, _, _, rfl, _⟩ := h; rfl)
    (fun _ _ _ _ _ _ us hl => match us, hl with | [_, _], _ => rfl) (fun cdv A outer s H E nd tk hr =>
    (pss_cons (ps_if (pt_not (pt_chain op_le op_lt (pe_un un_neg pe_int) (pv 1) (pe_callB (call_lenI (fnd1 (T.fa 39 rfl)) (fnd2 (T.fa 39 rfl)) ⟨ok_House_len T, hr.mono (by decide)⟩) rfl (T.free "len" (T.fa 4 rfl)) boot_len (pa_cons (pe_fldI (He.cls_ok (x := "Beat") (T.fa 40 rfl)) (He.noat_ok (x := "Beat") (f := "house") (T.fa 41 rfl)) (pv 0)) pa_nil)))) (pss_one (ps_raise rfl tk (pmk_own PySem.F.excBase_ValueError (He.exc_ok (x := "NoPlace") (T.fa 45 rfl)).1 (T.glo "NoPlace" (T.fa 46 rfl)) (He.exc_ok (x := "NoPlace") (T.fa 45 rfl)).2.1 (raises_own (He.exc_ok (x := "NoPlace") (T.fa 45 rfl)).2.2.1 (He.exc_ok (x := "NoPlace") (T.fa 45 rfl)).2.2.2) rfl))) pss_nil)
    (pss_cons (ps_set (i := 2) nd rfl (.inl rfl) (pe_fldI (He.cls_ok (x := "House") (T.fa 27 rfl)) (He.noat_ok (x := "House") (f := "hours") (T.fa 34 rfl)) (pe_fldI (He.cls_ok (x := "Beat") (T.fa 40 rfl)) (He.noat_ok (x := "Beat") (f := "house") (T.fa 41 rfl)) (pv 0))))
    (pss_one (ps_ret (pe_mk1 (He.mkr_ok (x := "Lot") (T.fa 22 rfl)) ⟨ok_Lot_init T, hr.mono (by decide), tk⟩ (hr.mono (by decide)) (T.glo "Lot" (T.fa 20 rfl)) rfl (pa_cons (pv 2) (pa_cons (pe_lc (own := [("hour", 3)]) rfl nd (pi_range1 rfl (T.free "range" (T.fa 25 rfl)) (pa_cons (pv 2) pa_nil)) (blkOk_by (own := [("hour", 3)]) (by kernel_rfl)) (fun _ _ _ _ _ => (pg_name (i := 3) nd rfl (.inl rfl))) (fun _ _ _ _ _ => pts_one (pt_cmpR op_eq (pe_ix ix_tup (pe_fldI (He.cls_ok (x := "Beat") (T.fa 40 rfl)) (He.noat_ok (x := "Beat") (f := "steps") (T.fa 42 rfl)) (pv 0)) (pv 3) (fun _ _ => rfl)) (pv 1) (nomark _))) (fun _ _ _ _ _ => (pv 3))) pa_nil))))))))
    (pure_Beat_lot (T_kf T))
theorem ok_Crew_init (T : TT w K mg base) : OkF Pg w K mg base 2 (He.ma K (He.ga K "Crew") "__init__") (sp_Crew_init K) :=
  okf_of (d := d_Crew_init) (t := fun E => t_Crew_init K E) (T.df 19 rfl) sc_Crew_init (fun _ _ _ _ h => by obtain ⟨_, _, _, _, _, _, _, rfl, _⟩ := h; rfl)
    (fun _ _ _ _ _ _ us hl => match us, hl with | [_, _, _], _ => rfl) (fun cdv A outer s H E nd tk hr =>
    (pss_cons (ps_if (pt_cmpR op_ne (pe_fldI (He.cls_ok (x := "Lot") (T.fa 0 rfl)) (He.noat_ok (x := "Lot") (f := "hours") (T.fa 1 rfl)) (pv 2)) (pe_fldI (He.cls_ok (x := "House") (T.fa 27 rfl)) (He.noat_ok (x := "House") (f := "hours") (T.fa 34 rfl)) (pe_fldI (He.cls_ok (x := "Beat") (T.fa 40 rfl)) (He.noat_ok (x := "Beat") (f := "house") (T.fa 41 rfl)) (pv 1))) (nomark _)) (pss_one (ps_raise rfl tk (pmk_own PySem.F.excBase_ValueError (He.exc_ok (x := "OtherHours") (T.fa 2 rfl)).1 (T.glo "OtherHours" (T.fa 3 rfl)) (He.exc_ok (x := "OtherHours") (T.fa 2 rfl)).2.1 (raises_own (He.exc_ok (x := "OtherHours") (T.fa 2 rfl)).2.2.1 (He.exc_ok (x := "OtherHours") (T.fa 2 rfl)).2.2.2) rfl))) pss_nil)
    (pss_cons (ps_fldI (He.cls_ok (x := "Crew") (T.fa 47 rfl)) (He.noat_ok (x := "Crew") (f := "beat") (T.fa 48 rfl)) (pv 0) (pv 1) rfl)
    (pss_one (ps_fldI (He.cls_ok (x := "Crew") (T.fa 47 rfl)) (He.noat_ok (x := "Crew") (f := "starts") (T.fa 49 rfl)) (pv 0) (pv 2) rfl)))))
    (pure_Crew_init (T_kf T))
theorem ok_Crew_len (T : TT w K mg base) : OkF Pg w K mg base 4 (He.ma K (He.ga K "Crew") "__len__") (sp_Crew_len K) :=
  okf_of (d := d_Crew_len) (t := fun E => t_Crew_len K E) (T.df 20 rfl) sc_Crew_len (fun _ _ _ _ h => by obtain ⟨_, _, rfl, _⟩ := h; rfl)
    (fun _ _ _ _ _ _ us hl => match us, hl with | [_], _ => rfl) (fun cdv A outer s H E nd tk hr =>
    (pss_one (ps_ret (pe_callB (call_lenI (fnd1 (T.fa 50 rfl)) (fnd2 (T.fa 50 rfl)) ⟨ok_Lot_len T, hr.mono (by decide)⟩) rfl (T.free "len" (T.fa 4 rfl)) boot_len (pa_cons (pe_fldI (He.cls_ok (x := "Crew") (T.fa 47 rfl)) (He.noat_ok (x := "Crew") (f := "starts") (T.fa 49 rfl)) (pv 0)) pa_nil)))))
    (pure_Crew_len (T_kf T))
theorem ok_Crew_lshift (T : TT w K mg base) : OkF Pg w K mg base 8 (He.ma K (He.ga K "Crew") "__lshift__") (sp_Crew_lshift K) :=
  okf_of (d := d_Crew_lshift) (t := fun E => t_Crew_lshift K E) (T.df 21 rfl) sc_Crew_lshift (fun _ _ _ _ h => by obtain ⟨_, _, _, rfl, _⟩ := h; rfl)
    (fun _ _ _ _ _ _ us hl => match us, hl with | [_, _], _ => rfl) (fun cdv A outer s H E nd tk hr =>
    (pss_one (ps_ret (pe_mk1 (He.mkr_ok (x := "Crew") (T.fa 52 rfl)) ⟨ok_Crew_init T, hr.mono (by decide), tk⟩ (hr.mono (by decide)) (T.glo "Crew" (T.fa 53 rfl)) rfl (pa_cons (pe_fldI (He.cls_ok (x := "Crew") (T.fa 47 rfl)) (He.noat_ok (x := "Crew") (f := "beat") (T.fa 48 rfl)) (pv 0)) (pa_cons (pe_binN (op := .LShift) (opF_ok (T.fa 51 rfl)) ⟨ok_Lot_lshift T, hr.mono (by decide), tk⟩ (by kernel_rfl) (by kernel_rfl) (pe_fldI (He.cls_ok (x := "Crew") (T.fa 47 rfl)) (He.noat_ok (x := "Crew") (f := "starts") (T.fa 49 rfl)) (pv 0)) (pv 1)) pa_nil))))))
    (pure_Crew_lshift (T_kf T))
theorem ok_Crew_eq (T : TT w K mg base) : OkF Pg w K mg base 6 (He.ma K (He.ga K "Crew") "__eq__") (sp_Crew_eq K) :=
  okf_of (d := d_Crew_eq) (t := fun E => t_Crew_eq K E) (T.df 22 rfl) sc_Crew_eq (fun _ _ _ _ h => by obtain ⟨_, _, _, rfl, _⟩ := h; rfl)
    (fun _ _ _ _ _ _ us hl => match us, hl with | [_, _], _ => rfl) (fun cdv A outer s H E nd tk hr =>
    (pss_one (ps_ret (pe_and (pe_callB call_isi rfl (T.free "isinstance" (T.fa 21 rfl)) (by kernel_rfl) (pa_cons (pv 1) (pa_cons (pe_glob (v := .ref (He.ga K "Crew")) rfl (T.glo "Crew" (T.fa 53 rfl)) rfl) pa_nil))) (pe_and (pe_cmp (pc_eqI (fnd1 (T.fa 54 rfl)) (fnd2 (T.fa 54 rfl)) ⟨ok_Beat_eq T, hr.mono (by decide), tk⟩ (pe_fldI (He.cls_ok (x := "Crew") (T.fa 47 rfl)) (He.noat_ok (x := "Crew") (f := "beat") (T.fa 48 rfl)) (pv 0)) (pe_fldI (He.cls_ok (x := "Crew") (T.fa 47 rfl)) (He.noat_ok (x := "Crew") (f := "beat") (T.fa 48 rfl)) (pv 1)))) (pe_one (pe_cmp (pc_eqI (fnd1 (T.fa 55 rfl)) (fnd2 (T.fa 55 rfl)) ⟨ok_Lot_eq T, hr.mono (by decide), tk⟩ (pe_fldI (He.cls_ok (x := "Crew") (T.fa 47 rfl)) (He.noat_ok (x := "Crew") (f := "starts") (T.fa 49 rfl)) (pv 0)) (pe_fldI (He.cls_ok (x := "Crew") (T.fa 47 rfl)) (He.noat_ok (x := "Crew") (f := "starts") (T.fa 49 rfl)) (pv 1))))))))))
    (pure_Crew_eq (T_kf T))
theorem ok_Crew_row (T : TT w K mg base) : OkF Pg w K mg base 4 (He.ma K (He.ga K "Crew") "row") (sp_Crew_row K) :=
  okf_of (d := d_Crew_row) (t := fun E => t_Crew_row K E) (T.df 23 rfl) sc_Crew_row (fun _ _ _ _ h => by obtain ⟨_, _, _, rfl, _⟩ := h; rfl)
    (fun _ _ _ _ _ _ us hl => match us, hl with | [_, _], _ => rfl) (fun cdv A outer s H E nd tk hr =>
    (pss_cons (ps_set (i := 2) nd rfl (.inl rfl) (pe_fldI (He.cls_ok (x := "Beat") (T.fa 40 rfl)) (He.noat_ok (x := "Beat") (f := "house") (T.fa 41 rfl)) (pe_fldI (He.cls_ok (x := "Crew") (T.fa 47 rfl)) (He.noat_ok (x := "Crew") (f := "beat") (T.fa 48 rfl)) (pv 0))))
    (pss_cons (ps_if (pt_not (pt_chain op_le op_lt pe_int (pv 1) (pe_callB (call_lenI (fnd1 (T.fa 39 rfl)) (fnd2 (T.fa 39 rfl)) ⟨ok_House_len T, hr.mono (by decide)⟩) rfl (T.free "len" (T.fa 4 rfl)) boot_len (pa_cons (pv 2) pa_nil)))) (pss_one (ps_raise rfl tk (pmk_own PySem.F.excBase_ValueError (He.exc_ok (x := "NoPlace") (T.fa 45 rfl)).1 (T.glo "NoPlace" (T.fa 46 rfl)) (He.exc_ok (x := "NoPlace") (T.fa 45 rfl)).2.1 (raises_own (He.exc_ok (x := "NoPlace") (T.fa 45 rfl)).2.2.1 (He.exc_ok (x := "NoPlace") (T.fa 45 rfl)).2.2.2) rfl))) pss_nil)
    (pss_cons (ps_set (i := 3) nd rfl (.inl rfl) (pe_lst pa_nil))
    (pss_cons (ps_for (passes_of rfl) rfl (pi_range1 rfl (T.free "range" (T.fa 25 rfl)) (pa_cons (pe_fldI (He.cls_ok (x := "House") (T.fa 27 rfl)) (He.noat_ok (x := "House") (f := "hours") (T.fa 34 rfl)) (pv 2)) pa_nil)) (pg_name (i := 4) nd rfl (.inr rfl)) (pss_one (ps_expr (pe_bm PySem.F.plainAttrs_list PySem.F.slot_list_append PySem.F.type_list_append mt_append (pv 3) (pa_cons (pe_callB call_len_seq rfl (T.free "len" (T.fa 4 rfl)) boot_len (pa_cons (pe_lc (own := [("start", 5)]) rfl nd (pi_own (fnd1 (T.fa 26 rfl)) (fnd2 (T.fa 26 rfl)) (it_Lot T) (hr.mono (by decide)) (pe_fldI (He.cls_ok (x := "Crew") (T.fa 47 rfl)) (He.noat_ok (x := "Crew") (f := "starts") (T.fa 49 rfl)) (pv 0))) (blkOk_by (own := [("start", 5)]) (by kernel_rfl)) (fun _ _ _ _ _ => (pg_name (i := 5) nd rfl (.inl rfl))) (fun _ _ _ _ _ => pts_one (pt_cmpR op_eq (pe_ixI (fnd1 (T.fa 56 rfl)) (fnd2 (T.fa 56 rfl)) (T.fa 57 rfl) ⟨ok_Beat_getitem T, hr.mono (by decide)⟩ (pe_fldI (He.cls_ok (x := "Crew") (T.fa 47 rfl)) (He.noat_ok (x := "Crew") (f := "beat") (T.fa 48 rfl)) (pv 0)) (pe_op op_sub (pv 4) (pv 5))) (pv 1) (nomark _))) (fun _ _ _ _ _ => (pv 5))) pa_nil)) pa_nil)))))
    (pss_one (ps_ret (pv 3))))))))
    (pure_Crew_row (T_kf T))
theorem ok_Crew_working (T : TT w K mg base) : OkF Pg w K mg base 6 (He.ma K (He.ga K "Crew") "working") (sp_Crew_working K) :=
  okf_of (d := d_Crew_working) (t := fun E => t_Crew_working K E) (T.df 24 rfl) sc_Crew_working (fun _ _ _ _ h => by obtain ⟨_, _, _, rfl, _⟩ := h; rfl)
    (fun _ _ _ _ _ _ us hl => match us, hl with | [_, _], _ => rfl) (fun cdv A outer s H E nd tk hr =>
    (pss_cons (ps_if (pt_cmp (pc_notInI (fnd1 (T.fa 58 rfl)) (fnd2 (T.fa 58 rfl)) ⟨ok_Lot_contains T, hr.mono (by decide), tk⟩ (pv 1) (pe_fldI (He.cls_ok (x := "Crew") (T.fa 47 rfl)) (He.noat_ok (x := "Crew") (f := "starts") (T.fa 49 rfl)) (pv 0)))) (pss_one (ps_raise rfl tk (pmk_own PySem.F.excBase_ValueError (He.exc_ok (x := "NoPlace") (T.fa 45 rfl)).1 (T.glo "NoPlace" (T.fa 46 rfl)) (He.exc_ok (x := "NoPlace") (T.fa 45 rfl)).2.1 (raises_own (He.exc_ok (x := "NoPlace") (T.fa 45 rfl)).2.2.1 (He.exc_ok (x := "NoPlace") (T.fa 45 rfl)).2.2.2) rfl))) pss_nil)
    (pss_cons (ps_set (i := 2) nd rfl (.inl rfl) (pe_fldI (He.cls_ok (x := "House") (T.fa 27 rfl)) (He.noat_ok (x := "House") (f := "hours") (T.fa 34 rfl)) (pe_fldI (He.cls_ok (x := "Beat") (T.fa 40 rfl)) (He.noat_ok (x := "Beat") (f := "house") (T.fa 41 rfl)) (pe_fldI (He.cls_ok (x := "Crew") (T.fa 47 rfl)) (He.noat_ok (x := "Crew") (f := "beat") (T.fa 48 rfl)) (pv 0)))))
    (pss_one (ps_ret (pe_mk1 (He.mkr_ok (x := "Lot") (T.fa 22 rfl)) ⟨ok_Lot_init T, hr.mono (by decide), tk⟩ (hr.mono (by decide)) (T.glo "Lot" (T.fa 20 rfl)) rfl (pa_cons (pv 2) (pa_cons (pe_lc (own := [("hour", 3)]) rfl nd (pi_range1 rfl (T.free "range" (T.fa 25 rfl)) (pa_cons (pv 2) pa_nil)) (blkOk_by (own := [("hour", 3)]) (by kernel_rfl)) (fun _ _ _ _ _ => (pg_name (i := 3) nd rfl (.inl rfl))) (fun _ _ _ _ _ => pts_one (pt_cmpR op_ne (pe_ixI (fnd1 (T.fa 56 rfl)) (fnd2 (T.fa 56 rfl)) (T.fa 57 rfl) ⟨ok_Beat_getitem T, hr.mono (by decide)⟩ (pe_fldI (He.cls_ok (x := "Crew") (T.fa 47 rfl)) (He.noat_ok (x := "Crew") (f := "beat") (T.fa 48 rfl)) (pv 0)) (pe_op op_sub (pv 3) (pv 1))) (pe_un un_neg pe_int) (nomark _))) (fun _ _ _ _ _ => (pv 3))) pa_nil))))))))
    (pure_Crew_working (T_kf T))
theorem ok_l_cell (T : TT w K mg base) : OkF Pg w K mg base 2 (He.ga K "_law_cell") (sp_l_cell K) :=
  okf_of (d := d_l_cell) (t := fun E => t_l_cell K E) (T.df 25 rfl) sc_l_cell (fun _ _ _ _ h => by obtain ⟨_, _, _, rfl, _⟩ := h; rfl)
    (fun _ _ _ _ _ _ us hl => match us, hl with | [_, _], _ => rfl) (fun cdv A outer s H E nd tk hr =>
    (pss_cons (ps_if (pt_cmpR op_lt (pv 1) (pe_callB call_len_seq rfl (T.free "len" (T.fa 4 rfl)) boot_len (pa_cons (pv 0) pa_nil)) (nomark _)) (pss_one (ps_ret (pe_callB call_abs rfl (T.free "abs" (T.fa 59 rfl)) (by kernel_rfl) (pa_cons (pe_ix ix_list (pv 0) (pv 1) (fun _ _ => rfl)) pa_nil)))) pss_nil)
    (pss_one (ps_ret pe_int))))
    (pure_l_cell (T_kf T))
theorem ok_l_draws (T : TT w K mg base) : OkF Pg w K mg base 2 (He.ga K "_law_draws") (sp_l_drawsW K) :=
  okf_of (d := d_l_draws) (t := fun E => t_l_draws K E) (T.df 26 rfl) sc_l_draws (fun _ _ _ _ h => by obtain ⟨_, _, _, _, rfl, _⟩ := h; rfl)
    (fun _ _ _ _ _ _ us hl => match us, hl with | [_, _, _], _ => rfl) (fun cdv A outer s H E nd tk hr =>
    (pss_cons (ps_set (i := 3) nd rfl (.inl rfl) (pe_lst pa_nil))
    (pss_cons (ps_set (i := 4) nd rfl (.inl rfl) (pe_op op_sub (pv 0) (pe_op op_pow pe_int pe_int)))
    (pss_cons (ps_set (i := 5) nd rfl (.inl rfl) (pe_op op_add (pv 0) (pe_op op_mulW pe_int (pv 1))))
    (pss_cons (ps_for (passes_of rfl) rfl (pi_range1 rfl (T.free "range" (T.fa 25 rfl)) (pa_cons (pe_callB call_len_seq rfl (T.free "len" (T.fa 4 rfl)) boot_len (pa_cons (pv 2) pa_nil)) pa_nil)) (pg_name (i := 6) nd rfl (.inl rfl)) (pss_one (ps_if (pt_cmpR op_ge (pv 4) pe_int (nomark _)) (pss_cons (ps_expr (pe_bm PySem.F.plainAttrs_list PySem.F.slot_list_append PySem.F.type_list_append mt_append (pv 3) (pa_cons (pe_op op_modN (pe_callTy call_int1 rfl (T.free "int" (T.fa 16 rfl)) (by kernel_rfl) (pa_cons (pv 4) pa_nil)) (pe_ix ix_list (pv 2) (pv 6) (fun _ _ => rfl))) pa_nil)))
    (pss_one (ps_set (i := 4) nd rfl (.inl rfl) (pe_op op_fdivW (pv 4) (pe_ix ix_list (pv 2) (pv 6) (fun _ _ => rfl)))))) (pss_cons (ps_set (i := 5) nd rfl (.inl rfl) (pe_op op_modN (pe_callTy call_int1 rfl (T.free "int" (T.fa 16 rfl)) (by kernel_rfl) (pa_cons (pe_op op_add (pe_op op_add (pe_op op_mulW (pv 5) (pv 5)) (pe_op op_mulW pe_int (pe_op op_add (pv 6) pe_int))) pe_int) pa_nil)) pe_int))
    (pss_cons (ps_set (i := 5) nd rfl (.inl rfl) (pe_op op_modN (pe_callTy call_int1 rfl (T.free "int" (T.fa 16 rfl)) (by kernel_rfl) (pa_cons (pe_op op_add (pe_op op_mulW (pv 5) (pv 5)) (pe_op op_fdivW (pv 5) pe_int)) pa_nil)) pe_int))
    (pss_one (ps_expr (pe_bm PySem.F.plainAttrs_list PySem.F.slot_list_append PySem.F.type_list_append mt_append (pv 3) (pa_cons (pe_op op_modN (pe_callTy call_int1 rfl (T.free "int" (T.fa 16 rfl)) (by kernel_rfl) (pa_cons (pe_op op_fdivW (pv 5) pe_int) pa_nil)) (pe_ix ix_list (pv 2) (pv 6) (fun _ _ => rfl))) pa_nil)))))))))
    (pss_one (ps_ret (pv 3))))))))
    (pure_l_draws (T_kf T))
theorem ok_l_two (T : TT w K mg base) : OkF Pg w K mg base 2 (He.ga K "_law_two") (sp_l_two K) :=
  okf_of (d := d_l_two) (t := fun E => t_l_two K E) (T.df 27 rfl) sc_l_two (fun _ _ _ _ h => by obtain ⟨_, rfl, _⟩ := h; rfl)
    (fun _ _ _ _ _ _ us hl => match us, hl with | [_], _ => rfl) (fun cdv A outer s H E nd tk hr =>
    (pss_cons (ps_set (i := 1) nd rfl (.inl rfl) pe_int)
    (pss_cons (ps_for (passes_of rfl) rfl (pi_range1 rfl (T.free "range" (T.fa 25 rfl)) (pa_cons (pv 0) pa_nil)) (pg_name (i := 2) nd rfl (.inl rfl)) (pss_one (ps_set (i := 1) nd rfl (.inl rfl) (pe_op op_mulW (pv 1) pe_int))))
    (pss_one (ps_ret (pv 1))))))
    (pure_l_two (T_kf T))
theorem ok_l_bits (T : TT w K mg base) : OkF Pg w K mg base 2 (He.ga K "_law_bits") (sp_l_bits K) :=
  okf_of (d := d_l_bits) (t := fun E => t_l_bits K E) (T.df 28 rfl) sc_l_bits (fun _ _ _ _ h => by obtain ⟨_, _, rfl, _⟩ := h; rfl)
    (fun _ _ _ _ _ _ us hl => match us, hl with | [_, _], _ => rfl) (fun cdv A outer s H E nd tk hr =>
    (pss_cons (ps_set (i := 2) nd rfl (.inl rfl) (pe_lst pa_nil))
    (pss_cons (ps_for (passes_of rfl) rfl (pi_range1 rfl (T.free "range" (T.fa 25 rfl)) (pa_cons (pv 0) pa_nil)) (pg_name (i := 3) nd rfl (.inl rfl)) (pss_cons (ps_if (pt_cmpR op_eq (pe_op op_modN (pe_callTy call_int1 rfl (T.free "int" (T.fa 16 rfl)) (by kernel_rfl) (pa_cons (pv 1) pa_nil)) pe_int) pe_int (nomark _)) (pss_one (ps_expr (pe_bm PySem.F.plainAttrs_list PySem.F.slot_list_append PySem.F.type_list_append mt_append (pv 2) (pa_cons (pv 3) pa_nil)))) pss_nil)
    (pss_one (ps_set (i := 1) nd rfl (.inl rfl) (pe_op op_fdivW (pv 1) pe_int)))))
    (pss_one (ps_ret (pv 2))))))
    (pure_l_bits (T_kf T))
theorem ok_l_name (T : TT w K mg base) : OkF Pg w K mg base 2 (He.ga K "_law_name") (sp_l_name K) :=
  okf_of (d := d_l_name) (t := fun E => t_l_name K E) (T.df 29 rfl) sc_l_name (fun _ _ _ _ h => by obtain ⟨_, rfl, _⟩ := h; rfl)
    (fun _ _ _ _ _ _ us hl => match us, hl with | [_], _ => rfl) (fun cdv A outer s H E nd tk hr =>
    (pss_cons (ps_set (i := 1) nd rfl (.inl rfl) pe_str)
    (pss_cons (ps_set (i := 2) nd rfl (.inl rfl) pe_str)
    (pss_cons (ps_for (passes_of rfl) rfl (pi_range1 rfl (T.free "range" (T.fa 25 rfl)) (pa_cons (pe_op op_add pe_int (pe_op op_modN (pe_callTy call_int1 rfl (T.free "int" (T.fa 16 rfl)) (by kernel_rfl) (pa_cons (pv 0) pa_nil)) pe_int)) pa_nil)) (pg_name (i := 3) nd rfl (.inl rfl)) (pss_cons (ps_set (i := 0) nd rfl (.inl rfl) (pe_op op_add (pe_op op_add (pe_op op_fdivW (pv 0) pe_int) (pe_op op_mulW pe_int (pv 3))) pe_int))
    (pss_one (ps_set (i := 2) nd rfl (.inl rfl) (pe_op op_add_str (pv 2) (pe_ix ix_str (pv 1) (pe_op op_modN (pe_callTy call_int1 rfl (T.free "int" (T.fa 16 rfl)) (by kernel_rfl) (pa_cons (pv 0) pa_nil)) pe_int) (fun _ _ => rfl)))))))
    (pss_one (ps_ret (pv 2)))))))
    (pure_l_name (T_kf T))
theorem ok_l_names (T : TT w K mg base) : OkF Pg w K mg base 4 (He.ga K "_law_names") (sp_l_names K) :=
  okf_of (d := d_l_names) (t := fun E => t_l_names K E) (T.df 30 rfl) sc_l_names (fun _ _ _ _ h => by obtain ⟨_, _, rfl, _⟩ := h; rfl)
    (fun _ _ _ _ _ _ us hl => match us, hl with | [_], _ => rfl) (fun cdv A outer s H E nd tk hr =>
    (pss_cons (ps_set (i := 1) nd rfl (.inl rfl) pe_str)
    (pss_cons (ps_set (i := 2) nd rfl (.inl rfl) (pe_lst pa_nil))
    (pss_cons (ps_for (passes_of rfl) rfl (pi_list (pv 0)) (pg_name (i := 3) nd rfl (.inl rfl)) (pss_cons (ps_set (i := 4) nd rfl (.inl rfl) (pe_c1 ⟨ok_l_name T, hr.mono (by decide), tk⟩ (T.glo "_law_name" (T.fa 60 rfl)) (He.keep_ok (x := "_law_name") (T.fa 61 rfl)) rfl (pa_cons (pv 3) pa_nil)))
    (pss_cons (ps_for (passes_of rfl) rfl (pi_range1 rfl (T.free "range" (T.fa 25 rfl)) (pa_cons pe_int pa_nil)) (pg_name (i := 5) nd rfl (.inl rfl)) (pss_one (ps_if (pt_cmpR op_in_seq (pv 4) (pv 2) rfl) (pss_one (ps_set (i := 4) nd rfl (.inl rfl) (pe_op op_add_str (pe_slice sl_str (pv 4) po_none (po_some (pe_un un_neg pe_int))) (pe_ix ix_str (pv 1) (pe_op op_modN (pe_callTy call_int1 rfl (T.free "int" (T.fa 16 rfl)) (by kernel_rfl) (pa_cons (pe_op op_add (pe_bm PySem.F.plainAttrs_str PySem.F.slot_str_index PySem.F.type_str_index mt_sindex (pv 1) (pa_cons (pe_ix ix_str (pv 4) (pe_un un_neg pe_int) (fun _ _ => rfl)) pa_nil)) pe_int) pa_nil)) pe_int) (fun _ _ => rfl))))) pss_nil)))
    (pss_one (ps_expr (pe_bm PySem.F.plainAttrs_list PySem.F.slot_list_append PySem.F.type_list_append mt_append (pv 2) (pa_cons (pv 4) pa_nil)))))))
    (pss_one (ps_ret (pv 2)))))))
    (pure_l_names (T_kf T))
theorem ok_l_gates (T : TT w K mg base) : OkF Pg w K mg base 6 (He.ga K "_law_gates") (sp_l_gates K) :=
  okf_of (d := d_l_gates) (t := fun E => t_l_gates K E) (T.df 31 rfl) sc_l_gates (fun _ _ _ _ h => by obtain ⟨_, _, _, _, rfl, _⟩ := h; rfl)
    (fun _ _ _ _ _ _ us hl => match us, hl with | [_, _], _ => rfl) (fun cdv A outer s H E nd tk hr =>
    (pss_cons (ps_set (i := 2) nd rfl (.inr rfl) (pe_c1 ⟨ok_l_names T, hr.mono (by decide), tk⟩ (T.glo "_law_names" (T.fa 62 rfl)) (He.keep_ok (x := "_law_names") (T.fa 63 rfl)) rfl (pa_cons (pv 0) pa_nil)))
    (pss_one (ps_ret (pe_lc (own := [("k", 3)]) rfl nd (pi_range1 rfl (T.free "range" (T.fa 25 rfl)) (pa_cons (pe_callB call_len_seq rfl (T.free "len" (T.fa 4 rfl)) boot_len (pa_cons (pv 2) pa_nil)) pa_nil)) (blkOk_by (own := [("k", 3)]) (by kernel_rfl)) (fun _ _ _ _ _ => (pg_name (i := 3) nd rfl (.inl rfl))) (fun _ _ _ _ _ => pts_nil) (fun _ _ _ _ _ => (pe_tup (pa_cons (pe_ix ix_list (pv 2) (pv 3) (fun _ _ => rfl)) (pa_cons (pe_ix ix_list (pv 1) (pv 3) (fun _ _ => rfl)) pa_nil)))))))))
    (pure_l_gates (T_kf T))
theorem ok_l_is_int (T : TT w K mg base) : OkF Pg w K mg base 2 (He.ga K "_law_is_int") (sp_l_is_int K) :=
  okf_of (d := d_l_is_int) (t := fun E => t_l_is_int K E) (T.df 32 rfl) sc_l_is_int (fun _ _ _ _ h => by obtain ⟨_, rfl, _⟩ := h; rfl)
    (fun _ _ _ _ _ _ us hl => match us, hl with | [_], _ => rfl) (fun cdv A outer s H E nd tk hr =>
    (pss_one (ps_ret (pe_and (pe_callB call_isi rfl (T.free "isinstance" (T.fa 21 rfl)) (by kernel_rfl) (pa_cons (pv 0) (pa_cons (pe_bltn (v := .ty "int") rfl (T.free "int" (T.fa 16 rfl)) (by kernel_rfl) rfl) pa_nil))) (pe_one (pe_not (pe_callB call_isi rfl (T.free "isinstance" (T.fa 21 rfl)) (by kernel_rfl) (pa_cons (pv 0) (pa_cons (pe_bltn (v := .ty "bool") rfl (T.free "bool" (T.fa 64 rfl)) (by kernel_rfl) rfl) pa_nil)))))))))
    (pure_l_is_int (T_kf T))
theorem ok_l_same_none (T : TT w K mg base) : OkF Pg w K mg base 1 (He.ga K "_law_same") (fun _ _ _ _ => False) := by
  obtain ⟨fd, F⟩ := T.df 33 (d := d_l_same) rfl
  exact ⟨fd, ["got", "due"], ⟨fun _ _ _ _ h => h.elim, fun _ _ _ _ _ _ _ _ _ _ _ _ _ h => h.elim⟩, F.binds (fun _ _ _ _ _ _ us hl => match us, hl with | [_, _], _ => rfl)⟩
theorem ok_l_same_0 (T : TT w K mg base) : OkF Pg w K mg base 4 (He.ga K "_law_same") (sp_l_same 0 K) :=
  okf_of (d := d_l_same) (t := fun E => t_l_same K (fun _ _ _ _ => False) E) (T.df 33 rfl) sc_l_same (fun _ _ _ _ h => by obtain ⟨_, _, _, rfl, _⟩ := h; rfl)
    (fun _ _ _ _ _ _ us hl => match us, hl with | [_, _], _ => rfl) (fun cdv A outer s H E nd tk hr =>
    (pss_cons (ps_if (pt_cmpR op_isN (pv 1) pe_non (nomark _)) (pss_one (ps_ret (pe_cmpR op_isN (pv 0) pe_non (nomark _)))) pss_nil)
    (pss_cons (ps_if (pt_cmpR op_isL (pv 1) pe_bl (nomark _)) (pss_one (ps_ret (pe_cmpR op_isL (pv 0) pe_bl (nomark _)))) pss_nil)
    (pss_cons (ps_if (pt_cmpR op_isL (pv 1) pe_bl (nomark _)) (pss_one (ps_ret (pe_cmpR op_isL (pv 0) pe_bl (nomark _)))) pss_nil)
    (pss_cons (ps_if (pt_val (pe_callB call_isi rfl (T.free "isinstance" (T.fa 21 rfl)) (by kernel_rfl) (pa_cons (pv 1) (pa_cons (pe_bltn (v := .ty "int") rfl (T.free "int" (T.fa 16 rfl)) (by kernel_rfl) rfl) pa_nil)))) (pss_one (ps_ret (pe_and (pe_c1 ⟨ok_l_is_int T, hr.mono (by decide), tk⟩ (T.glo "_law_is_int" (T.fa 65 rfl)) (He.keep_ok (x := "_law_is_int") (T.fa 66 rfl)) rfl (pa_cons (pv 0) pa_nil)) (pe_one (pe_cmpR op_eq (pv 0) (pv 1) (nomark _)))))) pss_nil)
    (pss_cons (ps_if (pt_val (pe_callB call_isi rfl (T.free "isinstance" (T.fa 21 rfl)) (by kernel_rfl) (pa_cons (pv 1) (pa_cons (pe_bltn (v := .ty "str") rfl (T.free "str" (T.fa 67 rfl)) (by kernel_rfl) rfl) pa_nil)))) (pss_one (ps_ret (pe_and (pe_callB call_isi rfl (T.free "isinstance" (T.fa 21 rfl)) (by kernel_rfl) (pa_cons (pv 0) (pa_cons (pe_bltn (v := .ty "str") rfl (T.free "str" (T.fa 67 rfl)) (by kernel_rfl) rfl) pa_nil))) (pe_one (pe_cmpR op_eq (pv 0) (pv 1) (nomark _)))))) pss_nil)
    (pss_cons (ps_if (pt_val (pe_callB call_isi rfl (T.free "isinstance" (T.fa 21 rfl)) (by kernel_rfl) (pa_cons (pv 1) (pa_cons (pe_bltn (v := .ty "tuple") rfl (T.free "tuple" (T.fa 35 rfl)) (by kernel_rfl) rfl) pa_nil)))) (pss_one (ps_if (PW.pt (pw_or (pt_not (pt_val (pe_callB call_isi rfl (T.free "isinstance" (T.fa 21 rfl)) (by kernel_rfl) (pa_cons (pv 0) (pa_cons (pe_bltn (v := .ty "tuple") rfl (T.free "tuple" (T.fa 35 rfl)) (by kernel_rfl) rfl) pa_nil))))) (pw_or1 (pt_cmpR op_ne (pe_callB call_len_seq rfl (T.free "len" (T.fa 4 rfl)) boot_len (pa_cons (pv 0) pa_nil)) (pe_callB call_len_seq rfl (T.free "len" (T.fa 4 rfl)) boot_len (pa_cons (pv 1) pa_nil)) (nomark _))))) (pss_one (ps_ret pe_bl)) pss_nil)) (pss_one (ps_if (PW.pt (pw_or (pt_not (pt_val (pe_callB call_isi rfl (T.free "isinstance" (T.fa 21 rfl)) (by kernel_rfl) (pa_cons (pv 0) (pa_cons (pe_bltn (v := .ty "list") rfl (T.free "list" (T.fa 19 rfl)) (by kernel_rfl) rfl) pa_nil))))) (pw_or1 (pt_cmpR op_ne (pe_callB call_len_seq rfl (T.free "len" (T.fa 4 rfl)) boot_len (pa_cons (pv 0) pa_nil)) (pe_callB call_len_seq rfl (T.free "len" (T.fa 4 rfl)) boot_len (pa_cons (pv 1) pa_nil)) (nomark _))))) (pss_one (ps_ret pe_bl)) pss_nil)))
    (pss_cons (ps_for (passes_of rfl) rfl (pi_range1 rfl (T.free "range" (T.fa 25 rfl)) (pa_cons (pe_callB call_len_seq rfl (T.free "len" (T.fa 4 rfl)) boot_len (pa_cons (pv 1) pa_nil)) pa_nil)) (pg_name (i := 2) nd rfl (.inl rfl)) (pss_one (ps_if (pt_not (pt_val (pe_c1 ⟨ok_l_same_none T, hr.mono (by decide), tk⟩ (T.glo "_law_same" (T.fa 68 rfl)) (He.keep_ok (x := "_law_same") (T.fa 69 rfl)) rfl (pa_cons (pe_alt (pe_ix ix_list (pv 0) (pv 2) (fun _ _ => rfl)) (pe_ix ix_tup (pv 0) (pv 2) (fun _ _ => rfl))) (pa_cons (pe_alt (pe_ix ix_list (pv 1) (pv 2) (fun _ _ => rfl)) (pe_ix ix_tup (pv 1) (pv 2) (fun _ _ => rfl))) pa_nil))))) (pss_one (ps_ret pe_bl)) pss_nil)))
    (pss_one (ps_ret pe_bl))))))))))
    (pure_l_same_0 (T_kf T))
theorem ok_l_same_1 (T : TT w K mg base) : OkF Pg w K mg base 5 (He.ga K "_law_same") (sp_l_same 1 K) :=
  okf_of (d := d_l_same) (t := fun E => t_l_same K (sp_l_same 0 K) E) (T.df 33 rfl) sc_l_same (fun _ _ _ _ h => by obtain ⟨_, _, _, rfl, _⟩ := h; rfl)
    (fun _ _ _ _ _ _ us hl => match us, hl with | [_, _], _ => rfl) (fun cdv A outer s H E nd tk hr =>
    (pss_cons (ps_if (pt_cmpR op_isN (pv 1) pe_non (nomark _)) (pss_one (ps_ret (pe_cmpR op_isN (pv 0) pe_non (nomark _)))) pss_nil)
    (pss_cons (ps_if (pt_cmpR op_isL (pv 1) pe_bl (nomark _)) (pss_one (ps_ret (pe_cmpR op_isL (pv 0) pe_bl (nomark _)))) pss_nil)
    (pss_cons (ps_if (pt_cmpR op_isL (pv 1) pe_bl (nomark _)) (pss_one (ps_ret (pe_cmpR op_isL (pv 0) pe_bl (nomark _)))) pss_nil)
    (pss_cons (ps_if (pt_val (pe_callB call_isi rfl (T.free "isinstance" (T.fa 21 rfl)) (by kernel_rfl) (pa_cons (pv 1) (pa_cons (pe_bltn (v := .ty "int") rfl (T.free "int" (T.fa 16 rfl)) (by kernel_rfl) rfl) pa_nil)))) (pss_one (ps_ret (pe_and (pe_c1 ⟨ok_l_is_int T, hr.mono (by decide), tk⟩ (T.glo "_law_is_int" (T.fa 65 rfl)) (He.keep_ok (x := "_law_is_int") (T.fa 66 rfl)) rfl (pa_cons (pv 0) pa_nil)) (pe_one (pe_cmpR op_eq (pv 0) (pv 1) (nomark _)))))) pss_nil)
    (pss_cons (ps_if (pt_val (pe_callB call_isi rfl (T.free "isinstance" (T.fa 21 rfl)) (by kernel_rfl) (pa_cons (pv 1) (pa_cons (pe_bltn (v := .ty "str") rfl (T.free "str" (T.fa 67 rfl)) (by kernel_rfl) rfl) pa_nil)))) (pss_one (ps_ret (pe_and (pe_callB call_isi rfl (T.free "isinstance" (T.fa 21 rfl)) (by kernel_rfl) (pa_cons (pv 0) (pa_cons (pe_bltn (v := .ty "str") rfl (T.free "str" (T.fa 67 rfl)) (by kernel_rfl) rfl) pa_nil))) (pe_one (pe_cmpR op_eq (pv 0) (pv 1) (nomark _)))))) pss_nil)
    (pss_cons (ps_if (pt_val (pe_callB call_isi rfl (T.free "isinstance" (T.fa 21 rfl)) (by kernel_rfl) (pa_cons (pv 1) (pa_cons (pe_bltn (v := .ty "tuple") rfl (T.free "tuple" (T.fa 35 rfl)) (by kernel_rfl) rfl) pa_nil)))) (pss_one (ps_if (PW.pt (pw_or (pt_not (pt_val (pe_callB call_isi rfl (T.free "isinstance" (T.fa 21 rfl)) (by kernel_rfl) (pa_cons (pv 0) (pa_cons (pe_bltn (v := .ty "tuple") rfl (T.free "tuple" (T.fa 35 rfl)) (by kernel_rfl) rfl) pa_nil))))) (pw_or1 (pt_cmpR op_ne (pe_callB call_len_seq rfl (T.free "len" (T.fa 4 rfl)) boot_len (pa_cons (pv 0) pa_nil)) (pe_callB call_len_seq rfl (T.free "len" (T.fa 4 rfl)) boot_len (pa_cons (pv 1) pa_nil)) (nomark _))))) (pss_one (ps_ret pe_bl)) pss_nil)) (pss_one (ps_if (PW.pt (pw_or (pt_not (pt_val (pe_callB call_isi rfl (T.free "isinstance" (T.fa 21 rfl)) (by kernel_rfl) (pa_cons (pv 0) (pa_cons (pe_bltn (v := .ty "list") rfl (T.free "list" (T.fa 19 rfl)) (by kernel_rfl) rfl) pa_nil))))) (pw_or1 (pt_cmpR op_ne (pe_callB call_len_seq rfl (T.free "len" (T.fa 4 rfl)) boot_len (pa_cons (pv 0) pa_nil)) (pe_callB call_len_seq rfl (T.free "len" (T.fa 4 rfl)) boot_len (pa_cons (pv 1) pa_nil)) (nomark _))))) (pss_one (ps_ret pe_bl)) pss_nil)))
    (pss_cons (ps_for (passes_of rfl) rfl (pi_range1 rfl (T.free "range" (T.fa 25 rfl)) (pa_cons (pe_callB call_len_seq rfl (T.free "len" (T.fa 4 rfl)) boot_len (pa_cons (pv 1) pa_nil)) pa_nil)) (pg_name (i := 2) nd rfl (.inl rfl)) (pss_one (ps_if (pt_not (pt_val (pe_c1 ⟨ok_l_same_0 T, hr.mono (by decide), tk⟩ (T.glo "_law_same" (T.fa 68 rfl)) (He.keep_ok (x := "_law_same") (T.fa 69 rfl)) rfl (pa_cons (pe_alt (pe_ix ix_list (pv 0) (pv 2) (fun _ _ => rfl)) (pe_ix ix_tup (pv 0) (pv 2) (fun _ _ => rfl))) (pa_cons (pe_alt (pe_ix ix_list (pv 1) (pv 2) (fun _ _ => rfl)) (pe_ix ix_tup (pv 1) (pv 2) (fun _ _ => rfl))) pa_nil))))) (pss_one (ps_ret pe_bl)) pss_nil)))
    (pss_one (ps_ret pe_bl))))))))))
    (pure_l_same_1 (T_kf T))
theorem ok_l_same_2 (T : TT w K mg base) : OkF Pg w K mg base 6 (He.ga K "_law_same") (sp_l_same 2 K) :=
  okf_of (d := d_l_same) (t := fun E => t_l_same K (sp_l_same 1 K) E) (T.df 33 rfl) sc_l_same (fun _ _ _ _ h => by obtain ⟨_, _, _, rfl, _⟩ := h; rfl)
    (fun _ _ _ _ _ _ us hl => match us, hl with | [_, _], _ => rfl) (fun cdv A outer s H E nd tk hr =>
    (pss_cons (ps_if (pt_cmpR op_isN (pv 1) pe_non (nomark _)) (pss_one (ps_ret (pe_cmpR op_isN (pv 0) pe_non (nomark _)))) pss_nil)
    (pss_cons (ps_if (pt_cmpR op_isL (pv 1) pe_bl (nomark _)) (pss_one (ps_ret (pe_cmpR op_isL (pv 0) pe_bl (nomark _)))) pss_nil)
    (pss_cons (ps_if (pt_cmpR op_isL (pv 1) pe_bl (nomark _)) (pss_one (ps_ret (pe_cmpR op_isL (pv 0) pe_bl (nomark _)))) pss_nil)
    (pss_cons (ps_if (pt_val (pe_callB call_isi rfl (T.free "isinstance" (T.fa 21 rfl)) (by kernel_rfl) (pa_cons (pv 1) (pa_cons (pe_bltn (v := .ty "int") rfl (T.free "int" (T.fa 16 rfl)) (by kernel_rfl) rfl) pa_nil)))) (pss_one (ps_ret (pe_and (pe_c1 ⟨ok_l_is_int T, hr.mono (by decide), tk⟩ (T.glo "_law_is_int" (T.fa 65 rfl)) (He.keep_ok (x := "_law_is_int") (T.fa 66 rfl)) rfl (pa_cons (pv 0) pa_nil)) (pe_one (pe_cmpR op_eq (pv 0) (pv 1) (nomark _)))))) pss_nil)
    (pss_cons (ps_if (pt_val (pe_callB call_isi rfl (T.free "isinstance" (T.fa 21 rfl)) (by kernel_rfl) (pa_cons (pv 1) (pa_cons (pe_bltn (v := .ty "str") rfl (T.free "str" (T.fa 67 rfl)) (by kernel_rfl) rfl) pa_nil)))) (pss_one (ps_ret (pe_and (pe_callB call_isi rfl (T.free "isinstance" (T.fa 21 rfl)) (by kernel_rfl) (pa_cons (pv 0) (pa_cons (pe_bltn (v := .ty "str") rfl (T.free "str" (T.fa 67 rfl)) (by kernel_rfl) rfl) pa_nil))) (pe_one (pe_cmpR op_eq (pv 0) (pv 1) (nomark _)))))) pss_nil)
    (pss_cons (ps_if (pt_val (pe_callB call_isi rfl (T.free "isinstance" (T.fa 21 rfl)) (by kernel_rfl) (pa_cons (pv 1) (pa_cons (pe_bltn (v := .ty "tuple") rfl (T.free "tuple" (T.fa 35 rfl)) (by kernel_rfl) rfl) pa_nil)))) (pss_one (ps_if (PW.pt (pw_or (pt_not (pt_val (pe_callB call_isi rfl (T.free "isinstance" (T.fa 21 rfl)) (by kernel_rfl) (pa_cons (pv 0) (pa_cons (pe_bltn (v := .ty "tuple") rfl (T.free "tuple" (T.fa 35 rfl)) (by kernel_rfl) rfl) pa_nil))))) (pw_or1 (pt_cmpR op_ne (pe_callB call_len_seq rfl (T.free "len" (T.fa 4 rfl)) boot_len (pa_cons (pv 0) pa_nil)) (pe_callB call_len_seq rfl (T.free "len" (T.fa 4 rfl)) boot_len (pa_cons (pv 1) pa_nil)) (nomark _))))) (pss_one (ps_ret pe_bl)) pss_nil)) (pss_one (ps_if (PW.pt (pw_or (pt_not (pt_val (pe_callB call_isi rfl (T.free "isinstance" (T.fa 21 rfl)) (by kernel_rfl) (pa_cons (pv 0) (pa_cons (pe_bltn (v := .ty "list") rfl (T.free "list" (T.fa 19 rfl)) (by kernel_rfl) rfl) pa_nil))))) (pw_or1 (pt_cmpR op_ne (pe_callB call_len_seq rfl (T.free "len" (T.fa 4 rfl)) boot_len (pa_cons (pv 0) pa_nil)) (pe_callB call_len_seq rfl (T.free "len" (T.fa 4 rfl)) boot_len (pa_cons (pv 1) pa_nil)) (nomark _))))) (pss_one (ps_ret pe_bl)) pss_nil)))
    (pss_cons (ps_for (passes_of rfl) rfl (pi_range1 rfl (T.free "range" (T.fa 25 rfl)) (pa_cons (pe_callB call_len_seq rfl (T.free "len" (T.fa 4 rfl)) boot_len (pa_cons (pv 1) pa_nil)) pa_nil)) (pg_name (i := 2) nd rfl (.inl rfl)) (pss_one (ps_if (pt_not (pt_val (pe_c1 ⟨ok_l_same_1 T, hr.mono (by decide), tk⟩ (T.glo "_law_same" (T.fa 68 rfl)) (He.keep_ok (x := "_law_same") (T.fa 69 rfl)) rfl (pa_cons (pe_alt (pe_ix ix_list (pv 0) (pv 2) (fun _ _ => rfl)) (pe_ix ix_tup (pv 0) (pv 2) (fun _ _ => rfl))) (pa_cons (pe_alt (pe_ix ix_list (pv 1) (pv 2) (fun _ _ => rfl)) (pe_ix ix_tup (pv 1) (pv 2) (fun _ _ => rfl))) pa_nil))))) (pss_one (ps_ret pe_bl)) pss_nil)))
    (pss_one (ps_ret pe_bl))))))))))
    (pure_l_same_2 (T_kf T))
theorem ok_l_number (T : TT w K mg base) : OkF Pg w K mg base 4 (He.ga K "_law_number") (sp_l_number K) :=
  okf_of (d := d_l_number) (t := fun E => t_l_number K E) (T.df 34 rfl) sc_l_number (fun _ _ _ _ h => by obtain ⟨_, _, rfl, _⟩ := h; rfl)
    (fun _ _ _ _ _ _ us hl => match us, hl with | [_, _], _ => rfl) (fun cdv A outer s H E nd tk hr =>
    (pss_cons (ps_set (i := 2) nd rfl (.inl rfl) (pe_c1 ⟨ok_l_draws T, hr.mono (by decide), tk⟩ (T.glo "_law_draws" (T.fa 70 rfl)) (He.keep_ok (x := "_law_draws") (T.fa 71 rfl)) rfl (pa_cons (pv 0) (pa_cons (pv 1) (pa_cons (pe_lst (pa_cons pe_int (pa_cons pe_int (pa_cons pe_int (pa_cons (pe_op op_pow pe_int pe_int) pa_nil))))) pa_nil)))))
    (pss_cons (ps_set (i := 3) nd rfl (.inl rfl) (pe_ix ix_list (pe_lst (pa_cons (pe_ix ix_list (pv 2) pe_int (fun _ _ => rfl)) (pa_cons (pe_ix ix_list (pv 2) pe_int (fun _ _ => rfl)) pa_nil))) (pe_ix ix_list (pv 2) pe_int (fun _ _ => rfl)) (fun _ _ => rfl)))
    (pss_one (ps_ret (pe_ix ix_list (pe_lst (pa_cons (pv 3) (pa_cons (pe_op op_sub pe_int (pv 3)) pa_nil))) (pe_ix ix_list (pv 2) pe_int (fun _ _ => rfl)) (fun _ _ => rfl)))))))
    (pure_l_number (T_kf T))
theorem ok_l_walked (T : TT w K mg base) : OkF Pg w K mg base 2 (He.ga K "_law_walked") (sp_l_walked K) :=
  okf_of (d := d_l_walked) (t := fun E => t_l_walked K E) (T.df 35 rfl) sc_l_walked (fun _ _ _ _ h => by obtain ⟨_, _, _, _, _, _, rfl, _⟩ := h; rfl)
    (fun _ _ _ _ _ _ us hl => match us, hl with | [_, _, _], _ => rfl) (fun cdv A outer s H E nd tk hr =>
    (pss_cons (ps_set (i := 3) nd rfl (.inl rfl) (pe_callB call_len_seq rfl (T.free "len" (T.fa 4 rfl)) boot_len (pa_cons (pv 0) pa_nil)))
    (pss_cons (ps_set (i := 4) nd rfl (.inl rfl) (pe_lst pa_nil))
    (pss_cons (ps_for (passes_of rfl) rfl (pi_range1 rfl (T.free "range" (T.fa 25 rfl)) (pa_cons (pv 2) pa_nil)) (pg_name (i := 5) nd rfl (.inl rfl)) (pss_one (ps_expr (pe_bm PySem.F.plainAttrs_list PySem.F.slot_list_append PySem.F.type_list_append mt_append (pv 4) (pa_cons (pe_lc (own := [("h", 9)]) rfl nd (pi_range1 rfl (T.free "range" (T.fa 25 rfl)) (pa_cons (pv 3) pa_nil)) (blkOk_by (own := [("h", 9)]) (by kernel_rfl)) (fun _ _ _ _ _ => (pg_name (i := 9) nd rfl (.inl rfl))) (fun _ _ _ _ _ => pts_nil) (fun _ _ _ _ _ => pe_int)) pa_nil)))))
    (pss_cons (ps_for (passes_of rfl) rfl (pi_list (pv 1)) (pg_name (i := 6) nd rfl (.inl rfl)) (pss_one (ps_for (passes_of rfl) rfl (pi_range1 rfl (T.free "range" (T.fa 25 rfl)) (pa_cons (pv 3) pa_nil)) (pg_name (i := 7) nd rfl (.inl rfl)) (pss_one (ps_if (pt_cmpR op_ge (pe_ix ix_list (pv 0) (pv 7) (fun _ _ => rfl)) pe_int (nomark _)) (pss_cons (ps_set (i := 8) nd rfl (.inl rfl) (pe_ix ix_list (pv 4) (pe_ix ix_list (pv 0) (pv 7) (fun _ _ => rfl)) (fun _ _ => rfl)))
    (pss_one (ps_asg (pe_op op_add (pe_ix ix_list (pv 8) (pe_op op_modN (pe_callTy call_int1 rfl (T.free "int" (T.fa 16 rfl)) (by kernel_rfl) (pa_cons (pe_op op_add (pv 6) (pv 7)) pa_nil)) (pv 3)) (fun _ _ => rfl)) pe_int) (pg_sub (pv 8) (pe_op op_modN (pe_callTy call_int1 rfl (T.free "int" (T.fa 16 rfl)) (by kernel_rfl) (pa_cons (pe_op op_add (pv 6) (pv 7)) pa_nil)) (pv 3)) set_list)))) pss_nil)))))
    (pss_one (ps_ret (pv 4))))))))
    (pure_l_walked (T_kf T))
theorem ok_l_no_row (T : TT w K mg base) : OkF Pg w K mg base 8 (He.ga K "_law_no_row") (sp_l_no_row K) :=
  okf_of (d := d_l_no_row) (t := fun E => t_l_no_row K E) (T.df 36 rfl) sc_l_no_row (fun _ _ _ _ h => by obtain ⟨_, _, _, rfl, _⟩ := h; rfl)
    (fun _ _ _ _ _ _ us hl => match us, hl with | [_, _], _ => rfl) (fun cdv A outer s H E nd tk hr =>
    (pss_cons (ps_set (i := 2) nd rfl (.inl rfl) pe_non)
    (pss_cons (ps_tryH (tb := fun W => (tDrop (tM1 (He.ga K "Crew") "row" (sp_Crew_row K) W (tVar 0) (tCons (tVar 1) tNil)))) rfl rfl nd tk (fun W pn xe tkT pO => (pss_one (ps_expr (pe_m1 (He.cls_ok (x := "Crew") (T.fa 47 rfl)) (He.meth_ok (x := "Crew") (m := "row") (T.fa 72 rfl)) ⟨ok_Crew_row T, hr.mono (by decide), tkT⟩ (pv 0) (pa_cons (pv 1) pa_nil))))) (HsOk.cons (o := (some 3)) (ts := fun a cls d => (tAsg (tTup (tCons (tCB (rIsXx K cls a d) (tCons (tVar 3) (tCons (tC (.ref (He.ga K "WatchError"))) tNil))) (tCons (tCB (rIsXx K cls a d) (tCons (tVar 3) (tCons (tC (.ty "ValueError")) tNil))) (tCons (tCB (rIsXx K cls a d) (tCons (tVar 3) (tCons (tC (.ref (He.ga K "OtherHours"))) tNil))) (tCons (tCB (rIsXx K cls a d) (tCons (tVar 3) (tCons (tC (.ref (He.ga K "BadNumber"))) tNil))) tNil))))) (gName 2))) ⟨rfl, by decide, .inl (T.glo "NoPlace" (T.fa 46 rfl))⟩ ⟨rfl, rfl⟩ (fun a oe cls d pn hz hf => (pss_one (ps_set (i := 2) nd rfl (.inl rfl) (pe_tup (pa_cons (pe_callB (call_isXx hz hf) rfl (T.free "isinstance" (T.fa 21 rfl)) (by kernel_rfl) (pa_cons (pv 3) (pa_cons (pe_glob (v := .ref (He.ga K "WatchError")) rfl (T.glo "WatchError" (T.fa 73 rfl)) rfl) pa_nil))) (pa_cons (pe_callB (call_isXx hz hf) rfl (T.free "isinstance" (T.fa 21 rfl)) (by kernel_rfl) (pa_cons (pv 3) (pa_cons (pe_bltn (v := .ty "ValueError") rfl (T.free "ValueError" (T.fa 74 rfl)) (by kernel_rfl) rfl) pa_nil))) (pa_cons (pe_callB (call_isXx hz hf) rfl (T.free "isinstance" (T.fa 21 rfl)) (by kernel_rfl) (pa_cons (pv 3) (pa_cons (pe_glob (v := .ref (He.ga K "OtherHours")) rfl (T.glo "OtherHours" (T.fa 3 rfl)) rfl) pa_nil))) (pa_cons (pe_callB (call_isXx hz hf) rfl (T.free "isinstance" (T.fa 21 rfl)) (by kernel_rfl) (pa_cons (pv 3) (pa_cons (pe_glob (v := .ref (He.ga K "BadNumber")) rfl (T.glo "BadNumber" (T.fa 75 rfl)) rfl) pa_nil))) pa_nil)))))))) .nil))
    (pss_one (ps_ret (pe_c1 ⟨ok_l_same_2 T, hr.mono (by decide), tk⟩ (T.glo "_law_same" (T.fa 68 rfl)) (He.keep_ok (x := "_law_same") (T.fa 69 rfl)) rfl (pa_cons (pv 2) (pa_cons (pe_tup (pa_cons pe_bl (pa_cons pe_bl (pa_cons pe_bl (pa_cons pe_bl pa_nil))))) pa_nil))))))))
    (pure_l_no_row (T_kf T))
theorem ok_l_works (T : TT w K mg base) : OkF Pg w K mg base 8 (He.ga K "_law_works") (sp_l_works K) :=
  okf_of (d := d_l_works) (t := fun E => t_l_works K E) (T.df 37 rfl) sc_l_works (fun _ _ _ _ h => by obtain ⟨_, _, _, _, _, rfl, _⟩ := h; rfl)
    (fun _ _ _ _ _ _ us hl => match us, hl with | [_, _, _, _], _ => rfl) (fun cdv A outer s H E nd tk hr =>
    (pss_cons (ps_set (i := 4) nd rfl (.inr rfl) (pe_callB call_len_seq rfl (T.free "len" (T.fa 4 rfl)) boot_len (pa_cons (pv 1) pa_nil)))
    (pss_cons (ps_set (i := 5) nd rfl (.inl rfl) pe_non)
    (pss_cons (ps_set (i := 6) nd rfl (.inl rfl) pe_non)
    (pss_cons (ps_tryH (tb := fun W => (tAsg (tM1 (He.ga K "Crew") "working" (sp_Crew_working K) W (tVar 0) (tCons (tVar 3) tNil)) (gName 5))) rfl rfl nd tk (fun W pn xe tkT pO => (pss_one (ps_set (i := 5) nd rfl (.inl rfl) (pe_m1 (He.cls_ok (x := "Crew") (T.fa 47 rfl)) (He.meth_ok (x := "Crew") (m := "working") (T.fa 76 rfl)) ⟨ok_Crew_working T, hr.mono (by decide), tkT⟩ (pv 0) (pa_cons (pv 3) pa_nil))))) (HsOk.cons (o := (some 7)) (ts := fun a cls d => (tAsg (tTup (tCons (tCB (rIsXx K cls a d) (tCons (tVar 7) (tCons (tC (.ref (He.ga K "WatchError"))) tNil))) (tCons (tCB (rIsXx K cls a d) (tCons (tVar 7) (tCons (tC (.ref (He.ga K "OtherHours"))) tNil))) (tCons (tCB (rIsXx K cls a d) (tCons (tVar 7) (tCons (tC (.ref (He.ga K "BadNumber"))) tNil))) tNil)))) (gName 6))) ⟨rfl, by decide, .inl (T.glo "NoPlace" (T.fa 46 rfl))⟩ ⟨rfl, rfl⟩ (fun a oe cls d pn hz hf => (pss_one (ps_set (i := 6) nd rfl (.inl rfl) (pe_tup (pa_cons (pe_callB (call_isXx hz hf) rfl (T.free "isinstance" (T.fa 21 rfl)) (by kernel_rfl) (pa_cons (pv 7) (pa_cons (pe_glob (v := .ref (He.ga K "WatchError")) rfl (T.glo "WatchError" (T.fa 73 rfl)) rfl) pa_nil))) (pa_cons (pe_callB (call_isXx hz hf) rfl (T.free "isinstance" (T.fa 21 rfl)) (by kernel_rfl) (pa_cons (pv 7) (pa_cons (pe_glob (v := .ref (He.ga K "OtherHours")) rfl (T.glo "OtherHours" (T.fa 3 rfl)) rfl) pa_nil))) (pa_cons (pe_callB (call_isXx hz hf) rfl (T.free "isinstance" (T.fa 21 rfl)) (by kernel_rfl) (pa_cons (pv 7) (pa_cons (pe_glob (v := .ref (He.ga K "BadNumber")) rfl (T.glo "BadNumber" (T.fa 75 rfl)) rfl) pa_nil))) pa_nil))))))) .nil))
    (pss_cons (ps_if (pt_cmpR op_notIn_seq (pe_op op_modN (pe_callTy call_int1 rfl (T.free "int" (T.fa 16 rfl)) (by kernel_rfl) (pa_cons (pv 3) pa_nil)) (pv 4)) (pv 2) rfl) (pss_one (ps_ret (pe_and (pe_cmpR op_isN (pv 5) pe_non (nomark _)) (pe_one (pe_c1 ⟨ok_l_same_2 T, hr.mono (by decide), tk⟩ (T.glo "_law_same" (T.fa 68 rfl)) (He.keep_ok (x := "_law_same") (T.fa 69 rfl)) rfl (pa_cons (pv 6) (pa_cons (pe_tup (pa_cons pe_bl (pa_cons pe_bl (pa_cons pe_bl pa_nil)))) pa_nil))))))) pss_nil)
    (pss_cons (ps_if (PW.pt (pw_or (pt_cmpR op_notN (pv 6) pe_non (nomark _)) (pw_or1 (pt_not (pt_val (pe_c1 ⟨ok_l_same_2 T, hr.mono (by decide), tk⟩ (T.glo "_law_same" (T.fa 68 rfl)) (He.keep_ok (x := "_law_same") (T.fa 69 rfl)) rfl (pa_cons (pe_fldI (He.cls_ok (x := "Lot") (T.fa 0 rfl)) (He.noat_ok (x := "Lot") (f := "hours") (T.fa 1 rfl)) (pv 5)) (pa_cons (pv 4) pa_nil)))))))) (pss_one (ps_ret pe_bl)) pss_nil)
    (pss_one (ps_ret (pe_c1 ⟨ok_l_same_2 T, hr.mono (by decide), tk⟩ (T.glo "_law_same" (T.fa 68 rfl)) (He.keep_ok (x := "_law_same") (T.fa 69 rfl)) rfl (pa_cons (pe_propI (He.cls_ok (x := "Lot") (T.fa 0 rfl)) (propB_ok (T.fa 77 rfl)) ⟨ok_Lot_members T, hr.mono (by decide)⟩ (pv 5)) (pa_cons (pe_lc (own := [("h", 8)]) rfl nd (pi_range1 rfl (T.free "range" (T.fa 25 rfl)) (pa_cons (pv 4) pa_nil)) (blkOk_by (own := [("h", 8)]) (by kernel_rfl)) (fun _ _ _ _ _ => (pg_name (i := 8) nd rfl (.inl rfl))) (fun _ _ _ _ _ => pts_one (pt_cmpR op_ge (pe_ix ix_list (pv 1) (pe_op op_modN (pe_callTy call_int1 rfl (T.free "int" (T.fa 16 rfl)) (by kernel_rfl) (pa_cons (pe_op op_sub (pv 8) (pv 3)) pa_nil)) (pv 4)) (fun _ _ => rfl)) pe_int (nomark _))) (fun _ _ _ _ _ => (pv 8))) pa_nil))))))))))))
    (pure_l_works (T_kf T))
theorem ok_l_shows (T : TT w K mg base) : OkF Pg w K mg base 10 (He.ga K "_law_shows") (sp_l_shows K) :=
  okf_of (d := d_l_shows) (t := fun E => t_l_shows K E) (T.df 38 rfl) sc_l_shows (fun _ _ _ _ h => by obtain ⟨_, _, _, _, _, _, _, _, rfl, _⟩ := h; rfl)
    (fun _ _ _ _ _ _ us hl => match us, hl with | [_, _, _, _, _, _], _ => rfl) (fun cdv A outer s H E nd tk hr =>
    (pss_cons (ps_set (i := 6) nd rfl (.inl rfl) (pe_callB call_len_seq rfl (T.free "len" (T.fa 4 rfl)) boot_len (pa_cons (pv 2) pa_nil)))
    (pss_cons (ps_set (i := 7) nd rfl (.inl rfl) (pe_c1 ⟨ok_l_walked T, hr.mono (by decide), tk⟩ (T.glo "_law_walked" (T.fa 78 rfl)) (He.keep_ok (x := "_law_walked") (T.fa 79 rfl)) rfl (pa_cons (pv 2) (pa_cons (pv 3) (pa_cons (pv 4) pa_nil)))))
    (pss_cons (ps_if (PW.pt (pw_or (pt_not (pt_val (pe_c1 ⟨ok_l_same_2 T, hr.mono (by decide), tk⟩ (T.glo "_law_same" (T.fa 68 rfl)) (He.keep_ok (x := "_law_same") (T.fa 69 rfl)) rfl (pa_cons (pe_callB (call_lenI (fnd1 (T.fa 80 rfl)) (fnd2 (T.fa 80 rfl)) ⟨ok_Crew_len T, hr.mono (by decide)⟩) rfl (T.free "len" (T.fa 4 rfl)) boot_len (pa_cons (pv 0) pa_nil)) (pa_cons (pe_callB call_len_seq rfl (T.free "len" (T.fa 4 rfl)) boot_len (pa_cons (pv 3) pa_nil)) pa_nil))))) (pw_or1 (pt_not (pt_val (pe_c1 ⟨ok_l_same_2 T, hr.mono (by decide), tk⟩ (T.glo "_law_same" (T.fa 68 rfl)) (He.keep_ok (x := "_law_same") (T.fa 69 rfl)) rfl (pa_cons (pe_fldI (He.cls_ok (x := "Beat") (T.fa 40 rfl)) (He.noat_ok (x := "Beat") (f := "steps") (T.fa 42 rfl)) (pe_fldI (He.cls_ok (x := "Crew") (T.fa 47 rfl)) (He.noat_ok (x := "Crew") (f := "beat") (T.fa 48 rfl)) (pv 0))) (pa_cons (pe_callTy call_tuple_of rfl (T.free "tuple" (T.fa 35 rfl)) (by kernel_rfl) (pa_cons (pv 2) pa_nil)) pa_nil)))))))) (pss_one (ps_ret pe_bl)) pss_nil)
    (pss_cons (ps_if (PW.pt (pw_or (pt_not (pt_val (pe_c1 ⟨ok_l_same_2 T, hr.mono (by decide), tk⟩ (T.glo "_law_same" (T.fa 68 rfl)) (He.keep_ok (x := "_law_same") (T.fa 69 rfl)) rfl (pa_cons (pe_fldI (He.cls_ok (x := "Lot") (T.fa 0 rfl)) (He.noat_ok (x := "Lot") (f := "hours") (T.fa 1 rfl)) (pe_fldI (He.cls_ok (x := "Crew") (T.fa 47 rfl)) (He.noat_ok (x := "Crew") (f := "starts") (T.fa 49 rfl)) (pv 0))) (pa_cons (pv 6) pa_nil))))) (pw_or1 (pt_not (pt_val (pe_c1 ⟨ok_l_same_2 T, hr.mono (by decide), tk⟩ (T.glo "_law_same" (T.fa 68 rfl)) (He.keep_ok (x := "_law_same") (T.fa 69 rfl)) rfl (pa_cons (pe_propI (He.cls_ok (x := "Lot") (T.fa 0 rfl)) (propB_ok (T.fa 77 rfl)) ⟨ok_Lot_members T, hr.mono (by decide)⟩ (pe_fldI (He.cls_ok (x := "Crew") (T.fa 47 rfl)) (He.noat_ok (x := "Crew") (f := "starts") (T.fa 49 rfl)) (pv 0))) (pa_cons (pv 3) pa_nil)))))))) (pss_one (ps_ret pe_bl)) pss_nil)
    (pss_cons (ps_if (pt_not (pt_val (pe_c1 ⟨ok_l_same_2 T, hr.mono (by decide), tk⟩ (T.glo "_law_same" (T.fa 68 rfl)) (He.keep_ok (x := "_law_same") (T.fa 69 rfl)) rfl (pa_cons (pe_cmp (pc_eqI (fnd1 (T.fa 44 rfl)) (fnd2 (T.fa 44 rfl)) ⟨ok_House_eq T, hr.mono (by decide), tk⟩ (pe_fldI (He.cls_ok (x := "Beat") (T.fa 40 rfl)) (He.noat_ok (x := "Beat") (f := "house") (T.fa 41 rfl)) (pe_fldI (He.cls_ok (x := "Crew") (T.fa 47 rfl)) (He.noat_ok (x := "Crew") (f := "beat") (T.fa 48 rfl)) (pv 0))) (pv 1))) (pa_cons pe_bl pa_nil))))) (pss_one (ps_ret pe_bl)) pss_nil)
    (pss_cons (ps_for (passes_of rfl) rfl (pi_range1 rfl (T.free "range" (T.fa 25 rfl)) (pa_cons (pv 4) pa_nil)) (pg_name (i := 8) nd rfl (.inl rfl)) (pss_cons (ps_set (i := 9) nd rfl (.inl rfl) (pe_m1 (He.cls_ok (x := "Crew") (T.fa 47 rfl)) (He.meth_ok (x := "Crew") (m := "row") (T.fa 72 rfl)) ⟨ok_Crew_row T, hr.mono (by decide), tk⟩ (pv 0) (pa_cons (pv 8) pa_nil)))
    (pss_cons (ps_if (PW.pt (pw_or (pt_not (pt_val (pe_c1 ⟨ok_l_same_2 T, hr.mono (by decide), tk⟩ (T.glo "_law_same" (T.fa 68 rfl)) (He.keep_ok (x := "_law_same") (T.fa 69 rfl)) rfl (pa_cons (pv 9) (pa_cons (pe_ix ix_list (pv 7) (pv 8) (fun _ _ => rfl)) pa_nil))))) (pw_or1 (pt_not (pt_val (pe_c1 ⟨ok_l_same_2 T, hr.mono (by decide), tk⟩ (T.glo "_law_same" (T.fa 68 rfl)) (He.keep_ok (x := "_law_same") (T.fa 69 rfl)) rfl (pa_cons (pe_c1 ⟨ok_meetings T, hr.mono (by decide), tk⟩ (T.glo "meetings" (T.fa 83 rfl)) (He.keep_ok (x := "meetings") (T.fa 84 rfl)) rfl (pa_cons (pe_m1 (He.cls_ok (x := "Beat") (T.fa 40 rfl)) (He.meth_ok (x := "Beat") (m := "lot") (T.fa 81 rfl)) ⟨ok_Beat_lot T, hr.mono (by decide), tk⟩ (pe_fldI (He.cls_ok (x := "Crew") (T.fa 47 rfl)) (He.noat_ok (x := "Crew") (f := "beat") (T.fa 48 rfl)) (pv 0)) (pa_cons (pv 8) pa_nil)) (pa_cons (pe_negI (fnd1 (T.fa 82 rfl)) (fnd2 (T.fa 82 rfl)) ⟨ok_Lot_neg T, hr.mono (by decide), tk⟩ (pe_fldI (He.cls_ok (x := "Crew") (T.fa 47 rfl)) (He.noat_ok (x := "Crew") (f := "starts") (T.fa 49 rfl)) (pv 0))) pa_nil))) (pa_cons (pe_ix ix_list (pv 7) (pv 8) (fun _ _ => rfl)) pa_nil)))))))) (pss_one (ps_ret pe_bl)) pss_nil)
    (pss_cons (ps_asg pe_int (pg_sub (pv 9) pe_int set_list))
    (pss_cons (ps_expr (pe_bm PySem.F.plainAttrs_list PySem.F.slot_list_append PySem.F.type_list_append mt_append (pv 9) (pa_cons pe_int pa_nil)))
    (pss_one (ps_if (pt_not (pt_val (pe_c1 ⟨ok_l_same_2 T, hr.mono (by decide), tk⟩ (T.glo "_law_same" (T.fa 68 rfl)) (He.keep_ok (x := "_law_same") (T.fa 69 rfl)) rfl (pa_cons (pe_m1 (He.cls_ok (x := "Crew") (T.fa 47 rfl)) (He.meth_ok (x := "Crew") (m := "row") (T.fa 72 rfl)) ⟨ok_Crew_row T, hr.mono (by decide), tk⟩ (pv 0) (pa_cons (pv 8) pa_nil)) (pa_cons (pe_ix ix_list (pv 7) (pv 8) (fun _ _ => rfl)) pa_nil))))) (pss_one (ps_ret pe_bl)) pss_nil)))))))
    (pss_cons (ps_for (passes_of rfl) rfl (pi_range1 rfl (T.free "range" (T.fa 25 rfl)) (pa_cons (pv 6) pa_nil)) (pg_name (i := 10) nd rfl (.inl rfl)) (pss_one (ps_for (passes_of rfl) rfl (pi_list (pe_lst (pa_cons (pv 10) (pa_cons (pe_op op_add (pv 10) (pe_op op_mulW (pv 6) (pe_ix ix_list (pv 5) pe_int (fun _ _ => rfl)))) (pa_cons (pe_op op_sub (pv 10) (pe_op op_mulW (pv 6) (pe_ix ix_list (pv 5) pe_int (fun _ _ => rfl)))) pa_nil))))) (pg_name (i := 11) nd rfl (.inl rfl)) (pss_one (ps_if (pt_not (pt_val (pe_c1 ⟨ok_l_works T, hr.mono (by decide), tk⟩ (T.glo "_law_works" (T.fa 85 rfl)) (He.keep_ok (x := "_law_works") (T.fa 86 rfl)) rfl (pa_cons (pv 0) (pa_cons (pv 2) (pa_cons (pv 3) (pa_cons (pv 11) pa_nil))))))) (pss_one (ps_ret pe_bl)) pss_nil)))))
    (pss_cons (ps_for (passes_of rfl) rfl (pi_list (pe_lst (pa_cons (pe_un un_neg pe_int) (pa_cons (pv 4) (pa_cons (pe_op op_add (pv 4) (pe_ix ix_list (pv 5) pe_int (fun _ _ => rfl))) (pa_cons (pe_op op_sub (pe_un un_neg pe_int) (pe_ix ix_list (pv 5) pe_int (fun _ _ => rfl))) pa_nil)))))) (pg_name (i := 12) nd rfl (.inl rfl)) (pss_one (ps_if (pt_not (pt_val (pe_c1 ⟨ok_l_no_row T, hr.mono (by decide), tk⟩ (T.glo "_law_no_row" (T.fa 87 rfl)) (He.keep_ok (x := "_law_no_row") (T.fa 88 rfl)) rfl (pa_cons (pv 0) (pa_cons (pv 12) pa_nil))))) (pss_one (ps_ret pe_bl)) pss_nil)))
    (pss_one (ps_ret pe_bl)))))))))))
    (pure_l_shows (T_kf T))
theorem ok_l_other_ring (T : TT w K mg base) : OkF Pg w K mg base 8 (He.ga K "_law_other_ring") (sp_l_other_ring K) :=
  okf_of (d := d_l_other_ring) (t := fun E => t_l_other_ring K E) (T.df 39 rfl) sc_l_other_ring (fun _ _ _ _ h => by obtain ⟨_, _, _, _, _, rfl, _⟩ := h; rfl)
    (fun _ _ _ _ _ _ us hl => match us, hl with | [_, _], _ => rfl) (fun cdv A outer s H E nd tk hr =>
    (pss_cons (ps_set (i := 2) nd rfl (.inl rfl) pe_non)
    (pss_cons (ps_tryH (tb := fun W => (tDrop (tMk1 (He.ga K "Crew") (sp_Crew_init K) W (tCons (tVar 0) (tCons (tVar 1) tNil))))) rfl rfl nd tk (fun W pn xe tkT pO => (pss_one (ps_expr (pe_mk1 (He.mkr_ok (x := "Crew") (T.fa 52 rfl)) ⟨ok_Crew_init T, hr.mono (by decide), tkT⟩ (hr.mono (by decide)) (T.glo "Crew" (T.fa 53 rfl)) rfl (pa_cons (pv 0) (pa_cons (pv 1) pa_nil)))))) (HsOk.cons (o := (some 3)) (ts := fun a cls d => (tAsg (tTup (tCons (tCB (rIsXx K cls a d) (tCons (tVar 3) (tCons (tC (.ref (He.ga K "WatchError"))) tNil))) (tCons (tCB (rIsXx K cls a d) (tCons (tVar 3) (tCons (tC (.ty "ValueError")) tNil))) (tCons (tCB (rIsXx K cls a d) (tCons (tVar 3) (tCons (tC (.ref (He.ga K "OtherHouse"))) tNil))) (tCons (tCB (rIsXx K cls a d) (tCons (tVar 3) (tCons (tC (.ref (He.ga K "NoPlace"))) tNil))) tNil))))) (gName 2))) ⟨rfl, by decide, .inl (T.glo "OtherHours" (T.fa 3 rfl))⟩ ⟨rfl, rfl⟩ (fun a oe cls d pn hz hf => (pss_one (ps_set (i := 2) nd rfl (.inl rfl) (pe_tup (pa_cons (pe_callB (call_isXx hz hf) rfl (T.free "isinstance" (T.fa 21 rfl)) (by kernel_rfl) (pa_cons (pv 3) (pa_cons (pe_glob (v := .ref (He.ga K "WatchError")) rfl (T.glo "WatchError" (T.fa 73 rfl)) rfl) pa_nil))) (pa_cons (pe_callB (call_isXx hz hf) rfl (T.free "isinstance" (T.fa 21 rfl)) (by kernel_rfl) (pa_cons (pv 3) (pa_cons (pe_bltn (v := .ty "ValueError") rfl (T.free "ValueError" (T.fa 74 rfl)) (by kernel_rfl) rfl) pa_nil))) (pa_cons (pe_callB (call_isXx hz hf) rfl (T.free "isinstance" (T.fa 21 rfl)) (by kernel_rfl) (pa_cons (pv 3) (pa_cons (pe_glob (v := .ref (He.ga K "OtherHouse")) rfl (T.glo "OtherHouse" (T.fa 89 rfl)) rfl) pa_nil))) (pa_cons (pe_callB (call_isXx hz hf) rfl (T.free "isinstance" (T.fa 21 rfl)) (by kernel_rfl) (pa_cons (pv 3) (pa_cons (pe_glob (v := .ref (He.ga K "NoPlace")) rfl (T.glo "NoPlace" (T.fa 46 rfl)) rfl) pa_nil))) pa_nil)))))))) .nil))
    (pss_one (ps_ret (pe_c1 ⟨ok_l_same_2 T, hr.mono (by decide), tk⟩ (T.glo "_law_same" (T.fa 68 rfl)) (He.keep_ok (x := "_law_same") (T.fa 69 rfl)) rfl (pa_cons (pv 2) (pa_cons (pe_tup (pa_cons pe_bl (pa_cons pe_bl (pa_cons pe_bl (pa_cons pe_bl pa_nil))))) pa_nil))))))))
    (pure_l_other_ring (T_kf T))
theorem ok_l_great (T : TT w K mg base) : OkF Pg w K mg base 10 (He.ga K "_law_great") (sp_l_great K) :=
  okf_of (d := d_l_great) (t := fun E => t_l_great K E) (T.df 40 rfl) sc_l_great (fun _ _ _ _ h => by obtain ⟨_, _, _, _, _, rfl, _⟩ := h; rfl)
    (fun _ _ _ _ _ _ us hl => match us, hl with | [_, _], _ => rfl) (fun cdv A outer s H E nd tk hr =>
    (pss_cons (ps_set (i := 2) nd rfl (.inl rfl) (pe_mk1 (He.mkr_ok (x := "House") (T.fa 90 rfl)) ⟨ok_House_init T, hr.mono (by decide), tk⟩ (hr.mono (by decide)) (T.glo "House" (T.fa 38 rfl)) rfl (pa_cons pe_int (pa_cons (pe_slice sl_list (pv 1) po_none (po_some pe_int)) pa_nil))))
    (pss_cons (ps_set (i := 3) nd rfl (.inr rfl) (pe_callB call_len_seq rfl (T.free "len" (T.fa 4 rfl)) boot_len (pa_cons (pe_slice sl_list (pv 1) po_none (po_some pe_int)) pa_nil)))
    (pss_cons (ps_setLc (i := 4) (own := [("place", 10)]) rfl nd rfl rfl (sw_true rfl rfl rfl (by kernel_rfl)) (pi_list (pe_c1 ⟨ok_l_draws T, hr.mono (by decide), tk⟩ (T.glo "_law_draws" (T.fa 70 rfl)) (He.keep_ok (x := "_law_draws") (T.fa 71 rfl)) rfl (pa_cons (pe_c1 ⟨ok_l_cell T, hr.mono (by decide), tk⟩ (T.glo "_law_cell" (T.fa 91 rfl)) (He.keep_ok (x := "_law_cell") (T.fa 92 rfl)) rfl (pa_cons (pv 0) (pa_cons pe_int pa_nil))) (pa_cons pe_int (pa_cons (pe_lc (own := [("h", 9)]) rfl nd (pi_range1 rfl (T.free "range" (T.fa 25 rfl)) (pa_cons pe_int pa_nil)) (blkOk_by (own := [("h", 9)]) (by kernel_rfl)) (fun _ _ _ _ _ => (pg_name (i := 9) nd rfl (.inl rfl))) (fun _ _ _ _ _ => pts_nil) (fun _ _ _ _ _ => (pe_op op_add (pv 3) pe_int))) pa_nil))))) (blkOk_by (own := [("place", 10)]) (by kernel_rfl)) (fun _ _ _ _ _ => (pg_name (i := 10) nd rfl (.inl rfl))) (fun _ _ _ _ _ => pts_nil) (fun _ _ _ _ _ => (pe_op op_sub (pv 10) pe_int)))
    (pss_cons (ps_set (i := 5) nd rfl (.inl rfl) (pe_c1 ⟨ok_l_draws T, hr.mono (by decide), tk⟩ (T.glo "_law_draws" (T.fa 70 rfl)) (He.keep_ok (x := "_law_draws") (T.fa 71 rfl)) rfl (pa_cons (pe_c1 ⟨ok_l_cell T, hr.mono (by decide), tk⟩ (T.glo "_law_cell" (T.fa 91 rfl)) (He.keep_ok (x := "_law_cell") (T.fa 92 rfl)) rfl (pa_cons (pv 0) (pa_cons pe_int pa_nil))) (pa_cons pe_int (pa_cons (pe_lst (pa_cons (pe_c1 ⟨ok_l_two T, hr.mono (by decide), tk⟩ (T.glo "_law_two" (T.fa 93 rfl)) (He.keep_ok (x := "_law_two") (T.fa 94 rfl)) rfl (pa_cons pe_int pa_nil)) (pa_cons pe_int pa_nil))) pa_nil)))))
    (pss_cons (ps_set (i := 6) nd rfl (.inl rfl) (pe_c1 ⟨ok_l_bits T, hr.mono (by decide), tk⟩ (T.glo "_law_bits" (T.fa 95 rfl)) (He.keep_ok (x := "_law_bits") (T.fa 96 rfl)) rfl (pa_cons pe_int (pa_cons (pe_ix ix_list (pv 5) pe_int (fun _ _ => rfl)) pa_nil))))
    (pss_cons (ps_set (i := 7) nd rfl (.inr rfl) (pe_mk1 (He.mkr_ok (x := "Crew") (T.fa 52 rfl)) ⟨ok_Crew_init T, hr.mono (by decide), tk⟩ (hr.mono (by decide)) (T.glo "Crew" (T.fa 53 rfl)) rfl (pa_cons (pe_mk1 (He.mkr_ok (x := "Beat") (T.fa 97 rfl)) ⟨ok_Beat_init T, hr.mono (by decide), tk⟩ (hr.mono (by decide)) (T.glo "Beat" (T.fa 43 rfl)) rfl (pa_cons (pv 2) (pa_cons (pe_callTy call_list_of rfl (T.free "list" (T.fa 19 rfl)) (by kernel_rfl) (pa_cons (pv 4) pa_nil)) pa_nil))) (pa_cons (pe_mk1 (He.mkr_ok (x := "Lot") (T.fa 22 rfl)) ⟨ok_Lot_init T, hr.mono (by decide), tk⟩ (hr.mono (by decide)) (T.glo "Lot" (T.fa 20 rfl)) rfl (pa_cons pe_int (pa_cons (pe_callTy call_list_of rfl (T.free "list" (T.fa 19 rfl)) (by kernel_rfl) (pa_cons (pv 6) pa_nil)) pa_nil))) pa_nil))))
    (pss_cons (ps_setLc (i := 8) (own := [("g", 11)]) rfl nd rfl rfl (sw_true rfl rfl rfl (by kernel_rfl)) (pi_range1 rfl (T.free "range" (T.fa 25 rfl)) (pa_cons (pv 3) pa_nil)) (blkOk_by (own := [("g", 11)]) (by kernel_rfl)) (fun _ _ _ _ _ => (pg_name (i := 11) nd rfl (.inl rfl))) (fun _ _ _ _ _ => pts_nil) (fun _ _ _ _ _ => (pe_m1 (He.cls_ok (x := "Crew") (T.fa 47 rfl)) (He.meth_ok (x := "Crew") (m := "row") (T.fa 72 rfl)) ⟨ok_Crew_row T, hr.mono (by decide), takes0⟩ (pv 7) (pa_cons (pv 11) pa_nil))))
    (pss_one (ps_ret (pe_and (pe_c1 ⟨ok_l_same_2 T, hr.mono (by decide), tk⟩ (T.glo "_law_same" (T.fa 68 rfl)) (He.keep_ok (x := "_law_same") (T.fa 69 rfl)) rfl (pa_cons (pv 8) (pa_cons (pe_c1 ⟨ok_l_walked T, hr.mono (by decide), tk⟩ (T.glo "_law_walked" (T.fa 78 rfl)) (He.keep_ok (x := "_law_walked") (T.fa 79 rfl)) rfl (pa_cons (pv 4) (pa_cons (pv 6) (pa_cons (pv 3) pa_nil)))) pa_nil))) (pe_one (pe_c1 ⟨ok_l_works T, hr.mono (by decide), tk⟩ (T.glo "_law_works" (T.fa 85 rfl)) (He.keep_ok (x := "_law_works") (T.fa 86 rfl)) rfl (pa_cons (pv 7) (pa_cons (pv 4) (pa_cons (pv 6) (pa_cons (pe_ix ix_list (pv 5) pe_int (fun _ _ => rfl)) pa_nil)))))))))))))))))
    (pure_l_great (T_kf T))
theorem ok_l_unlike (T : TT w K mg base) : OkF Pg w K mg base 8 (He.ga K "_law_unlike") (sp_l_unlike K) :=
  okf_of (d := d_l_unlike) (t := fun E => t_l_unlike K E) (T.df 41 rfl) sc_l_unlike (fun _ _ _ _ h => by obtain ⟨_, _, _, _, _, rfl, _⟩ := h; rfl)
    (fun _ _ _ _ _ _ us hl => match us, hl with | [_, _], _ => rfl) (fun cdv A outer s H E nd tk hr =>
    (pss_one (ps_ret (pe_c1 ⟨ok_l_same_2 T, hr.mono (by decide), tk⟩ (T.glo "_law_same" (T.fa 68 rfl)) (He.keep_ok (x := "_law_same") (T.fa 69 rfl)) rfl (pa_cons (pe_lc (own := [("other", 2)]) rfl nd (pi_list (pv 1)) (blkOk_by (own := [("other", 2)]) (by kernel_rfl)) (fun _ _ _ _ _ => (pg_name (i := 2) nd rfl (.inl rfl))) (fun _ _ _ _ _ => pts_nil) (fun _ _ _ _ _ => (pe_cmp (pc_neI (T.fa 99 rfl) (fnd1 (T.fa 98 rfl)) (fnd2 (T.fa 98 rfl)) ⟨ok_Crew_eq T, hr.mono (by decide)⟩ (pv 0) (pv 2))))) (pa_cons (pe_op op_cat (pe_lst (pa_cons pe_bl pa_nil)) (pe_lc (own := [("other", 2)]) rfl nd (pi_list (pe_slice sl_list (pv 1) (po_some pe_int) po_none)) (blkOk_by (own := [("other", 2)]) (by kernel_rfl)) (fun _ _ _ _ _ => (pg_name (i := 2) nd rfl (.inl rfl))) (fun _ _ _ _ _ => pts_nil) (fun _ _ _ _ _ => pe_bl))) pa_nil))))))
    (pure_l_unlike (T_kf T))
theorem ok_l_grown (T : TT w K mg base) : OkF Pg w K mg base 10 (He.ga K "_law_grown") (sp_l_grown K) :=
  okf_of (d := d_l_grown) (t := fun E => t_l_grown K E) (T.df 42 rfl) sc_l_grown (fun _ _ _ _ h => by obtain ⟨_, _, _, _, rfl, _⟩ := h; rfl)
    (fun _ _ _ _ _ _ us hl => match us, hl with | [_, _, _], _ => rfl) (fun cdv A outer s H E nd tk hr =>
    (pss_cons (ps_set (i := 3) nd rfl (.inl rfl) (pv 0))
    (pss_cons (ps_aug (i := 3) nd rfl (.inl rfl) (pv 2) (pip_I (op := .LShift) (opF_ok (T.fa 103 rfl)) (T.fa 100 rfl) (He.eqO_ok (T.fa 101 rfl)) (He.eqO_ok (T.fa 102 rfl)) (by kernel_rfl) (by kernel_rfl) ⟨ok_Crew_lshift T, hr.mono (by decide), takes0⟩))
    (pss_one (ps_ret (pe_and (pe_c1 ⟨ok_l_same_2 T, hr.mono (by decide), tk⟩ (T.glo "_law_same" (T.fa 68 rfl)) (He.keep_ok (x := "_law_same") (T.fa 69 rfl)) rfl (pa_cons (pe_cmp (pc_eqI (fnd1 (T.fa 98 rfl)) (fnd2 (T.fa 98 rfl)) ⟨ok_Crew_eq T, hr.mono (by decide), tk⟩ (pv 3) (pv 1))) (pa_cons pe_bl pa_nil))) (pe_one (pe_c1 ⟨ok_l_same_2 T, hr.mono (by decide), tk⟩ (T.glo "_law_same" (T.fa 68 rfl)) (He.keep_ok (x := "_law_same") (T.fa 69 rfl)) rfl (pa_cons (pe_propI (He.cls_ok (x := "Lot") (T.fa 0 rfl)) (propB_ok (T.fa 77 rfl)) ⟨ok_Lot_members T, hr.mono (by decide)⟩ (pe_fldI (He.cls_ok (x := "Crew") (T.fa 47 rfl)) (He.noat_ok (x := "Crew") (f := "starts") (T.fa 49 rfl)) (pv 3))) (pa_cons (pe_propI (He.cls_ok (x := "Lot") (T.fa 0 rfl)) (propB_ok (T.fa 77 rfl)) ⟨ok_Lot_members T, hr.mono (by decide)⟩ (pe_fldI (He.cls_ok (x := "Crew") (T.fa 47 rfl)) (He.noat_ok (x := "Crew") (f := "starts") (T.fa 49 rfl)) (pv 1))) pa_nil))))))))))
    (pure_l_grown (T_kf T))
theorem law_at (T : TT w K mg base) {fd : FuncData} (F : FnX K d_law fd) : FnOk Pg w K mg base (L2.CX Pg w) 12 (He.ga K "law") fd ["script"] (sp_law K) :=
  okf_at (d := d_law) (t := fun E => t_law K E) F sc_law (fun _ _ _ _ h => by obtain ⟨_, _, rfl, _⟩ := h; rfl)
    (fun cdv A outer s H E nd tk hr =>
    (pss_cons (ps_set (i := 1) nd rfl (.inl rfl) (pe_c1 ⟨ok_l_draws T, hr.mono (by decide), tk⟩ (T.glo "_law_draws" (T.fa 70 rfl)) (He.keep_ok (x := "_law_draws") (T.fa 71 rfl)) rfl (pa_cons (pe_c1 ⟨ok_l_cell T, hr.mono (by decide), tk⟩ (T.glo "_law_cell" (T.fa 91 rfl)) (He.keep_ok (x := "_law_cell") (T.fa 92 rfl)) rfl (pa_cons (pv 0) (pa_cons pe_int pa_nil))) (pa_cons pe_int (pa_cons (pe_lst (pa_cons pe_int (pa_cons pe_int (pa_cons pe_int pa_nil)))) pa_nil)))))
    (pss_cons (ps_set (i := 2) nd rfl (.inr rfl) (pe_op op_add pe_int (pe_ix ix_list (pv 1) pe_int (fun _ _ => rfl))))
    (pss_cons (ps_set (i := 3) nd rfl (.inr rfl) (pe_op op_add pe_int (pe_ix ix_list (pv 1) pe_int (fun _ _ => rfl))))
    (pss_cons (ps_set (i := 4) nd rfl (.inl rfl) (pe_c1 ⟨ok_l_draws T, hr.mono (by decide), tk⟩ (T.glo "_law_draws" (T.fa 70 rfl)) (He.keep_ok (x := "_law_draws") (T.fa 71 rfl)) rfl (pa_cons (pe_c1 ⟨ok_l_cell T, hr.mono (by decide), tk⟩ (T.glo "_law_cell" (T.fa 91 rfl)) (He.keep_ok (x := "_law_cell") (T.fa 92 rfl)) rfl (pa_cons (pv 0) (pa_cons pe_int pa_nil))) (pa_cons pe_int (pa_cons (pe_lst (pa_cons (pe_op op_pow pe_int pe_int) (pa_cons (pe_op op_pow pe_int pe_int) (pa_cons (pe_op op_pow pe_int pe_int) (pa_cons (pe_op op_pow pe_int pe_int) pa_nil))))) pa_nil)))))
    (pss_cons (ps_set (i := 5) nd rfl (.inr rfl) (pe_c1 ⟨ok_l_gates T, hr.mono (by decide), tk⟩ (T.glo "_law_gates" (T.fa 104 rfl)) (He.keep_ok (x := "_law_gates") (T.fa 105 rfl)) rfl (pa_cons (pe_slice sl_list (pv 4) po_none (po_some (pv 2))) (pa_cons (pe_c1 ⟨ok_l_draws T, hr.mono (by decide), tk⟩ (T.glo "_law_draws" (T.fa 70 rfl)) (He.keep_ok (x := "_law_draws") (T.fa 71 rfl)) rfl (pa_cons (pe_c1 ⟨ok_l_cell T, hr.mono (by decide), tk⟩ (T.glo "_law_cell" (T.fa 91 rfl)) (He.keep_ok (x := "_law_cell") (T.fa 92 rfl)) rfl (pa_cons (pv 0) (pa_cons pe_int pa_nil))) (pa_cons pe_int (pa_cons (pe_lst (pa_cons pe_int (pa_cons pe_int (pa_cons pe_int (pa_cons pe_int pa_nil))))) pa_nil)))) pa_nil))))
    (pss_cons (ps_set (i := 6) nd rfl (.inl rfl) (pe_mk1 (He.mkr_ok (x := "House") (T.fa 90 rfl)) ⟨ok_House_init T, hr.mono (by decide), tk⟩ (hr.mono (by decide)) (T.glo "House" (T.fa 38 rfl)) rfl (pa_cons (pv 3) (pa_cons (pe_callTy call_list_of rfl (T.free "list" (T.fa 19 rfl)) (by kernel_rfl) (pa_cons (pv 5) pa_nil)) pa_nil))))
    (pss_cons (ps_setLc (i := 7) (own := [("place", 28)]) rfl nd rfl rfl (sw_true rfl rfl rfl (by kernel_rfl)) (pi_list (pe_c1 ⟨ok_l_draws T, hr.mono (by decide), tk⟩ (T.glo "_law_draws" (T.fa 70 rfl)) (He.keep_ok (x := "_law_draws") (T.fa 71 rfl)) rfl (pa_cons (pe_c1 ⟨ok_l_cell T, hr.mono (by decide), tk⟩ (T.glo "_law_cell" (T.fa 91 rfl)) (He.keep_ok (x := "_law_cell") (T.fa 92 rfl)) rfl (pa_cons (pv 0) (pa_cons pe_int pa_nil))) (pa_cons pe_int (pa_cons (pe_lc (own := [("h", 27)]) rfl nd (pi_range1 rfl (T.free "range" (T.fa 25 rfl)) (pa_cons (pv 3) pa_nil)) (blkOk_by (own := [("h", 27)]) (by kernel_rfl)) (fun _ _ _ _ _ => (pg_name (i := 27) nd rfl (.inl rfl))) (fun _ _ _ _ _ => pts_nil) (fun _ _ _ _ _ => (pe_op op_add (pv 2) pe_int))) pa_nil))))) (blkOk_by (own := [("place", 28)]) (by kernel_rfl)) (fun _ _ _ _ _ => (pg_name (i := 28) nd rfl (.inl rfl))) (fun _ _ _ _ _ => pts_nil) (fun _ _ _ _ _ => (pe_op op_sub (pv 28) pe_int)))
    (pss_cons (ps_set (i := 8) nd rfl (.inr rfl) (pe_c1 ⟨ok_l_bits T, hr.mono (by decide), tk⟩ (T.glo "_law_bits" (T.fa 95 rfl)) (He.keep_ok (x := "_law_bits") (T.fa 96 rfl)) rfl (pa_cons (pv 3) (pa_cons (pe_ix ix_list (pe_c1 ⟨ok_l_draws T, hr.mono (by decide), tk⟩ (T.glo "_law_draws" (T.fa 70 rfl)) (He.keep_ok (x := "_law_draws") (T.fa 71 rfl)) rfl (pa_cons (pe_c1 ⟨ok_l_cell T, hr.mono (by decide), tk⟩ (T.glo "_law_cell" (T.fa 91 rfl)) (He.keep_ok (x := "_law_cell") (T.fa 92 rfl)) rfl (pa_cons (pv 0) (pa_cons pe_int pa_nil))) (pa_cons pe_int (pa_cons (pe_lst (pa_cons (pe_c1 ⟨ok_l_two T, hr.mono (by decide), tk⟩ (T.glo "_law_two" (T.fa 93 rfl)) (He.keep_ok (x := "_law_two") (T.fa 94 rfl)) rfl (pa_cons (pv 3) pa_nil)) pa_nil)) pa_nil)))) pe_int (fun _ _ => rfl)) pa_nil))))
    (pss_cons (ps_set (i := 9) nd rfl (.inl rfl) (pe_c1 ⟨ok_l_draws T, hr.mono (by decide), tk⟩ (T.glo "_law_draws" (T.fa 70 rfl)) (He.keep_ok (x := "_law_draws") (T.fa 71 rfl)) rfl (pa_cons (pe_c1 ⟨ok_l_cell T, hr.mono (by decide), tk⟩ (T.glo "_law_cell" (T.fa 91 rfl)) (He.keep_ok (x := "_law_cell") (T.fa 92 rfl)) rfl (pa_cons (pv 0) (pa_cons pe_int pa_nil))) (pa_cons pe_int (pa_cons (pe_lst (pa_cons (pe_op op_pow pe_int pe_int) (pa_cons (pe_op op_pow pe_int pe_int) pa_nil))) pa_nil)))))
    (pss_cons (ps_set (i := 10) nd rfl (.inl rfl) (pe_mk1 (He.mkr_ok (x := "Beat") (T.fa 97 rfl)) ⟨ok_Beat_init T, hr.mono (by decide), tk⟩ (hr.mono (by decide)) (T.glo "Beat" (T.fa 43 rfl)) rfl (pa_cons (pv 6) (pa_cons (pe_callTy call_list_of rfl (T.free "list" (T.fa 19 rfl)) (by kernel_rfl) (pa_cons (pv 7) pa_nil)) pa_nil))))
    (pss_cons (ps_set (i := 11) nd rfl (.inl rfl) (pe_mk1 (He.mkr_ok (x := "Lot") (T.fa 22 rfl)) ⟨ok_Lot_init T, hr.mono (by decide), tk⟩ (hr.mono (by decide)) (T.glo "Lot" (T.fa 20 rfl)) rfl (pa_cons (pv 3) (pa_cons (pe_callTy call_list_of rfl (T.free "list" (T.fa 19 rfl)) (by kernel_rfl) (pa_cons (pv 8) pa_nil)) pa_nil))))
    (pss_cons (ps_set (i := 12) nd rfl (.inl rfl) (pe_mk1 (He.mkr_ok (x := "Crew") (T.fa 52 rfl)) ⟨ok_Crew_init T, hr.mono (by decide), tk⟩ (hr.mono (by decide)) (T.glo "Crew" (T.fa 53 rfl)) rfl (pa_cons (pv 10) (pa_cons (pv 11) pa_nil))))
    (pss_cons (ps_if (pt_not (pt_val (pe_c1 ⟨ok_l_shows T, hr.mono (by decide), tk⟩ (T.glo "_law_shows" (T.fa 106 rfl)) (He.keep_ok (x := "_law_shows") (T.fa 107 rfl)) rfl (pa_cons (pv 12) (pa_cons (pv 6) (pa_cons (pv 7) (pa_cons (pv 8) (pa_cons (pv 2) (pa_cons (pv 9) pa_nil))))))))) (pss_one (ps_ret pe_bl)) pss_nil)
    (pss_cons (ps_set (i := 13) nd rfl (.inl rfl) (pe_c1 ⟨ok_l_draws T, hr.mono (by decide), tk⟩ (T.glo "_law_draws" (T.fa 70 rfl)) (He.keep_ok (x := "_law_draws") (T.fa 71 rfl)) rfl (pa_cons (pe_c1 ⟨ok_l_cell T, hr.mono (by decide), tk⟩ (T.glo "_law_cell" (T.fa 91 rfl)) (He.keep_ok (x := "_law_cell") (T.fa 92 rfl)) rfl (pa_cons (pv 0) (pa_cons pe_int pa_nil))) (pa_cons pe_int (pa_cons (pe_lst (pa_cons pe_int (pa_cons pe_int (pa_cons pe_int (pa_cons pe_int (pa_cons pe_int pa_nil)))))) pa_nil)))))
    (pss_cons (ps_set (i := 14) nd rfl (.inr rfl) (pe_op op_modN (pe_callTy call_int1 rfl (T.free "int" (T.fa 16 rfl)) (by kernel_rfl) (pa_cons (pe_ix ix_list (pv 13) pe_int (fun _ _ => rfl)) pa_nil)) (pv 3)))
    (pss_cons (ps_set (i := 15) nd rfl (.inl rfl) (pe_callTy call_list_of rfl (T.free "list" (T.fa 19 rfl)) (by kernel_rfl) (pa_cons (pv 7) pa_nil)))
    (pss_cons (ps_asg (pe_op op_sub (pe_op op_modN (pe_callTy call_int1 rfl (T.free "int" (T.fa 16 rfl)) (by kernel_rfl) (pa_cons (pe_op op_add (pe_op op_add (pe_ix ix_list (pv 7) (pv 14) (fun _ _ => rfl)) pe_int) (pe_op op_modN (pe_callTy call_int1 rfl (T.free "int" (T.fa 16 rfl)) (by kernel_rfl) (pa_cons (pe_ix ix_list (pv 13) pe_int (fun _ _ => rfl)) pa_nil)) (pv 2))) pa_nil)) (pe_op op_add (pv 2) pe_int)) pe_int) (pg_sub (pv 15) (pv 14) set_list))
    (pss_cons (ps_set (i := 14) nd rfl (.inr rfl) (pe_op op_modN (pe_callTy call_int1 rfl (T.free "int" (T.fa 16 rfl)) (by kernel_rfl) (pa_cons (pe_ix ix_list (pv 13) pe_int (fun _ _ => rfl)) pa_nil)) (pv 3)))
    (pss_cons (ps_setLc (i := 16) (own := [("h", 27)]) rfl nd rfl rfl (sw_true rfl rfl rfl (by kernel_rfl)) (pi_range1 rfl (T.free "range" (T.fa 25 rfl)) (pa_cons (pv 3) pa_nil)) (blkOk_by (own := [("h", 27)]) (by kernel_rfl)) (fun _ _ _ _ _ => (pg_name (i := 27) nd rfl (.inl rfl))) (fun _ _ _ _ _ => pts_one (pt_cmpR op_ne (pe_cmpR op_in_seq (pv 27) (pv 8) rfl) (pe_cmpR op_eq (pv 27) (pv 14) (nomark _)) (nomark _))) (fun _ _ _ _ _ => (pv 27)))
    (pss_cons (ps_set (i := 17) nd rfl (.inl rfl) (pe_mk1 (He.mkr_ok (x := "Crew") (T.fa 52 rfl)) ⟨ok_Crew_init T, hr.mono (by decide), tk⟩ (hr.mono (by decide)) (T.glo "Crew" (T.fa 53 rfl)) rfl (pa_cons (pe_mk1 (He.mkr_ok (x := "Beat") (T.fa 97 rfl)) ⟨ok_Beat_init T, hr.mono (by decide), tk⟩ (hr.mono (by decide)) (T.glo "Beat" (T.fa 43 rfl)) rfl (pa_cons (pv 6) (pa_cons (pe_callTy call_list_of rfl (T.free "list" (T.fa 19 rfl)) (by kernel_rfl) (pa_cons (pv 15) pa_nil)) pa_nil))) (pa_cons (pv 11) pa_nil))))
    (pss_cons (ps_set (i := 18) nd rfl (.inl rfl) (pe_mk1 (He.mkr_ok (x := "Crew") (T.fa 52 rfl)) ⟨ok_Crew_init T, hr.mono (by decide), tk⟩ (hr.mono (by decide)) (T.glo "Crew" (T.fa 53 rfl)) rfl (pa_cons (pv 10) (pa_cons (pe_mk1 (He.mkr_ok (x := "Lot") (T.fa 22 rfl)) ⟨ok_Lot_init T, hr.mono (by decide), tk⟩ (hr.mono (by decide)) (T.glo "Lot" (T.fa 20 rfl)) rfl (pa_cons (pv 3) (pa_cons (pe_callTy call_list_of rfl (T.free "list" (T.fa 19 rfl)) (by kernel_rfl) (pa_cons (pv 16) pa_nil)) pa_nil))) pa_nil))))
    (pss_cons (ps_if (PW.pt (pw_or (pt_not (pt_val (pe_c1 ⟨ok_l_shows T, hr.mono (by decide), tk⟩ (T.glo "_law_shows" (T.fa 106 rfl)) (He.keep_ok (x := "_law_shows") (T.fa 107 rfl)) rfl (pa_cons (pv 17) (pa_cons (pv 6) (pa_cons (pv 15) (pa_cons (pv 8) (pa_cons (pv 2) (pa_cons (pv 9) pa_nil))))))))) (pw_or1 (pt_not (pt_val (pe_c1 ⟨ok_l_shows T, hr.mono (by decide), tk⟩ (T.glo "_law_shows" (T.fa 106 rfl)) (He.keep_ok (x := "_law_shows") (T.fa 107 rfl)) rfl (pa_cons (pv 18) (pa_cons (pv 6) (pa_cons (pv 7) (pa_cons (pv 16) (pa_cons (pv 2) (pa_cons (pv 9) pa_nil)))))))))))) (pss_one (ps_ret pe_bl)) pss_nil)
    (pss_cons (ps_set (i := 19) nd rfl (.inr rfl) (pe_c1 ⟨ok_l_number T, hr.mono (by decide), tk⟩ (T.glo "_law_number" (T.fa 108 rfl)) (He.keep_ok (x := "_law_number") (T.fa 109 rfl)) rfl (pa_cons (pe_c1 ⟨ok_l_cell T, hr.mono (by decide), tk⟩ (T.glo "_law_cell" (T.fa 91 rfl)) (He.keep_ok (x := "_law_cell") (T.fa 92 rfl)) rfl (pa_cons (pv 0) (pa_cons pe_int pa_nil))) (pa_cons pe_int pa_nil))))
    (pss_cons (ps_set (i := 20) nd rfl (.inr rfl) (pe_c1 ⟨ok_l_number T, hr.mono (by decide), tk⟩ (T.glo "_law_number" (T.fa 108 rfl)) (He.keep_ok (x := "_law_number") (T.fa 109 rfl)) rfl (pa_cons (pe_c1 ⟨ok_l_cell T, hr.mono (by decide), tk⟩ (T.glo "_law_cell" (T.fa 91 rfl)) (He.keep_ok (x := "_law_cell") (T.fa 92 rfl)) rfl (pa_cons (pv 0) (pa_cons pe_int pa_nil))) (pa_cons pe_int pa_nil))))
    (pss_cons (ps_set (i := 21) nd rfl (.inl rfl) (pe_binN (op := .LShift) (opF_ok (T.fa 103 rfl)) ⟨ok_Crew_lshift T, hr.mono (by decide), tk⟩ (by kernel_rfl) (by kernel_rfl) (pv 12) (pv 19)))
    (pss_cons (ps_if (pt_not (pt_val (pe_c1 ⟨ok_l_shows T, hr.mono (by decide), tk⟩ (T.glo "_law_shows" (T.fa 106 rfl)) (He.keep_ok (x := "_law_shows") (T.fa 107 rfl)) rfl (pa_cons (pv 21) (pa_cons (pv 6) (pa_cons (pv 7) (pa_cons (pe_lc (own := [("h", 27)]) rfl nd (pi_range1 rfl (T.free "range" (T.fa 25 rfl)) (pa_cons (pv 3) pa_nil)) (blkOk_by (own := [("h", 27)]) (by kernel_rfl)) (fun _ _ _ _ _ => (pg_name (i := 27) nd rfl (.inl rfl))) (fun _ _ _ _ _ => pts_one (pt_cmpR op_in_seq (pe_op op_modN (pe_callTy call_int1 rfl (T.free "int" (T.fa 16 rfl)) (by kernel_rfl) (pa_cons (pe_op op_sub (pv 27) (pv 19)) pa_nil)) (pv 3)) (pv 8) rfl)) (fun _ _ _ _ _ => (pv 27))) (pa_cons (pv 2) (pa_cons (pv 9) pa_nil))))))))) (pss_one (ps_ret pe_bl)) pss_nil)
    (pss_cons (ps_if (PW.pt (pw_or (pt_not (pt_val (pe_c1 ⟨ok_l_same_2 T, hr.mono (by decide), tk⟩ (T.glo "_law_same" (T.fa 68 rfl)) (He.keep_ok (x := "_law_same") (T.fa 69 rfl)) rfl (pa_cons (pe_cmp (pc_eqI (fnd1 (T.fa 98 rfl)) (fnd2 (T.fa 98 rfl)) ⟨ok_Crew_eq T, hr.mono (by decide), tk⟩ (pe_binN (op := .LShift) (opF_ok (T.fa 103 rfl)) ⟨ok_Crew_lshift T, hr.mono (by decide), tk⟩ (by kernel_rfl) (by kernel_rfl) (pv 21) (pv 20)) (pe_binN (op := .LShift) (opF_ok (T.fa 103 rfl)) ⟨ok_Crew_lshift T, hr.mono (by decide), tk⟩ (by kernel_rfl) (by kernel_rfl) (pv 12) (pe_op op_add (pv 19) (pv 20))))) (pa_cons pe_bl pa_nil))))) (pw_or1 (pt_not (pt_val (pe_c1 ⟨ok_l_same_2 T, hr.mono (by decide), tk⟩ (T.glo "_law_same" (T.fa 68 rfl)) (He.keep_ok (x := "_law_same") (T.fa 69 rfl)) rfl (pa_cons (pe_cmp (pc_eqI (fnd1 (T.fa 98 rfl)) (fnd2 (T.fa 98 rfl)) ⟨ok_Crew_eq T, hr.mono (by decide), tk⟩ (pv 21) (pe_mk1 (He.mkr_ok (x := "Crew") (T.fa 52 rfl)) ⟨ok_Crew_init T, hr.mono (by decide), tk⟩ (hr.mono (by decide)) (T.glo "Crew" (T.fa 53 rfl)) rfl (pa_cons (pv 10) (pa_cons (pe_binN (op := .LShift) (opF_ok (T.fa 51 rfl)) ⟨ok_Lot_lshift T, hr.mono (by decide), tk⟩ (by kernel_rfl) (by kernel_rfl) (pv 11) (pv 19)) pa_nil))))) (pa_cons pe_bl pa_nil)))))))) (pss_one (ps_ret pe_bl)) pss_nil)
    (pss_cons (ps_if (pt_not (pt_val (pe_c1 ⟨ok_l_same_2 T, hr.mono (by decide), tk⟩ (T.glo "_law_same" (T.fa 68 rfl)) (He.keep_ok (x := "_law_same") (T.fa 69 rfl)) rfl (pa_cons (pe_propI (He.cls_ok (x := "Lot") (T.fa 0 rfl)) (propB_ok (T.fa 77 rfl)) ⟨ok_Lot_members T, hr.mono (by decide)⟩ (pe_fldI (He.cls_ok (x := "Crew") (T.fa 47 rfl)) (He.noat_ok (x := "Crew") (f := "starts") (T.fa 49 rfl)) (pe_binN (op := .LShift) (opF_ok (T.fa 103 rfl)) ⟨ok_Crew_lshift T, hr.mono (by decide), tk⟩ (by kernel_rfl) (by kernel_rfl) (pv 21) (pv 20)))) (pa_cons (pe_lc (own := [("h", 27)]) rfl nd (pi_range1 rfl (T.free "range" (T.fa 25 rfl)) (pa_cons (pv 3) pa_nil)) (blkOk_by (own := [("h", 27)]) (by kernel_rfl)) (fun _ _ _ _ _ => (pg_name (i := 27) nd rfl (.inl rfl))) (fun _ _ _ _ _ => pts_one (pt_cmpR op_in_seq (pe_op op_modN (pe_callTy call_int1 rfl (T.free "int" (T.fa 16 rfl)) (by kernel_rfl) (pa_cons (pe_op op_sub (pe_op op_sub (pv 27) (pv 19)) (pv 20)) pa_nil)) (pv 3)) (pv 8) rfl)) (fun _ _ _ _ _ => (pv 27))) pa_nil))))) (pss_one (ps_ret pe_bl)) pss_nil)
    (pss_cons (ps_set (i := 22) nd rfl (.inr rfl) (pe_ix ix_list (pe_lst (pa_cons (pe_op op_add (pv 3) pe_int) (pa_cons (pe_op op_mulW pe_int (pv 3)) (pa_cons (pe_callB (call_max2 rfl) rfl (T.free "max" (T.fa 110 rfl)) (by kernel_rfl) (pa_cons pe_int (pa_cons (pe_op op_sub (pv 3) pe_int) pa_nil))) (pa_cons (pe_op op_add (pe_op op_add (pv 3) pe_int) (pe_ix ix_list (pv 13) pe_int (fun _ _ => rfl))) (pa_cons pe_int pa_nil)))))) (pe_ix ix_list (pv 13) pe_int (fun _ _ => rfl)) (fun _ _ => rfl)))
    (pss_cons (ps_if (PW.pt (pw_and (pt_cmpR op_ne (pv 22) (pv 3) (nomark _)) (pw_and1 (pt_not (pt_val (pe_c1 ⟨ok_l_other_ring T, hr.mono (by decide), tk⟩ (T.glo "_law_other_ring" (T.fa 111 rfl)) (He.keep_ok (x := "_law_other_ring") (T.fa 112 rfl)) rfl (pa_cons (pv 10) (pa_cons (pe_mk1 (He.mkr_ok (x := "Lot") (T.fa 22 rfl)) ⟨ok_Lot_init T, hr.mono (by decide), tk⟩ (hr.mono (by decide)) (T.glo "Lot" (T.fa 20 rfl)) rfl (pa_cons (pv 22) (pa_cons (pe_lc (own := [("h", 27)]) rfl nd (pi_list (pv 8)) (blkOk_by (own := [("h", 27)]) (by kernel_rfl)) (fun _ _ _ _ _ => (pg_name (i := 27) nd rfl (.inl rfl))) (fun _ _ _ _ _ => pts_one (pt_cmpR op_lt (pv 27) (pv 22) (nomark _))) (fun _ _ _ _ _ => (pv 27))) pa_nil))) pa_nil)))))))) (pss_one (ps_ret pe_bl)) pss_nil)
    (pss_cons (ps_setLc (i := 23) (own := [("g", 29)]) rfl nd rfl rfl (sw_true rfl rfl rfl (by kernel_rfl)) (pi_range1 rfl (T.free "range" (T.fa 25 rfl)) (pa_cons (pv 2) pa_nil)) (blkOk_by (own := [("g", 29)]) (by kernel_rfl)) (fun _ _ _ _ _ => (pg_name (i := 29) nd rfl (.inl rfl))) (fun _ _ _ _ _ => pts_nil) (fun _ _ _ _ _ => (pe_tup (pa_cons (pe_ix ix_tup (pe_ix ix_list (pv 5) (pv 29) (fun _ _ => rfl)) pe_int (fun _ _ => rfl)) (pa_cons (pe_op op_modN (pe_callTy call_int1 rfl (T.free "int" (T.fa 16 rfl)) (by kernel_rfl) (pa_cons (pe_op op_add (pe_ix ix_tup (pe_ix ix_list (pv 5) (pv 29) (fun _ _ => rfl)) pe_int (fun _ _ => rfl)) pe_int) pa_nil)) pe_int) pa_nil)))))
    (pss_cons (ps_set (i := 24) nd rfl (.inl rfl) (pe_mk1 (He.mkr_ok (x := "Crew") (T.fa 52 rfl)) ⟨ok_Crew_init T, hr.mono (by decide), tk⟩ (hr.mono (by decide)) (T.glo "Crew" (T.fa 53 rfl)) rfl (pa_cons (pe_mk1 (He.mkr_ok (x := "Beat") (T.fa 97 rfl)) ⟨ok_Beat_init T, hr.mono (by decide), tk⟩ (hr.mono (by decide)) (T.glo "Beat" (T.fa 43 rfl)) rfl (pa_cons (pe_mk1 (He.mkr_ok (x := "House") (T.fa 90 rfl)) ⟨ok_House_init T, hr.mono (by decide), tk⟩ (hr.mono (by decide)) (T.glo "House" (T.fa 38 rfl)) rfl (pa_cons (pv 3) (pa_cons (pe_callTy call_list_of rfl (T.free "list" (T.fa 19 rfl)) (by kernel_rfl) (pa_cons (pv 5) pa_nil)) pa_nil))) (pa_cons (pe_callTy call_list_of rfl (T.free "list" (T.fa 19 rfl)) (by kernel_rfl) (pa_cons (pv 7) pa_nil)) pa_nil))) (pa_cons (pe_mk1 (He.mkr_ok (x := "Lot") (T.fa 22 rfl)) ⟨ok_Lot_init T, hr.mono (by decide), tk⟩ (hr.mono (by decide)) (T.glo "Lot" (T.fa 20 rfl)) rfl (pa_cons (pv 3) (pa_cons (pe_callTy call_list_of rfl (T.free "list" (T.fa 19 rfl)) (by kernel_rfl) (pa_cons (pv 8) pa_nil)) pa_nil))) pa_nil))))
    (pss_cons (ps_set (i := 25) nd rfl (.inl rfl) (pe_mk1 (He.mkr_ok (x := "Crew") (T.fa 52 rfl)) ⟨ok_Crew_init T, hr.mono (by decide), tk⟩ (hr.mono (by decide)) (T.glo "Crew" (T.fa 53 rfl)) rfl (pa_cons (pe_mk1 (He.mkr_ok (x := "Beat") (T.fa 97 rfl)) ⟨ok_Beat_init T, hr.mono (by decide), tk⟩ (hr.mono (by decide)) (T.glo "Beat" (T.fa 43 rfl)) rfl (pa_cons (pe_mk1 (He.mkr_ok (x := "House") (T.fa 90 rfl)) ⟨ok_House_init T, hr.mono (by decide), tk⟩ (hr.mono (by decide)) (T.glo "House" (T.fa 38 rfl)) rfl (pa_cons (pv 3) (pa_cons (pv 23) pa_nil))) (pa_cons (pe_callTy call_list_of rfl (T.free "list" (T.fa 19 rfl)) (by kernel_rfl) (pa_cons (pv 7) pa_nil)) pa_nil))) (pa_cons (pe_mk1 (He.mkr_ok (x := "Lot") (T.fa 22 rfl)) ⟨ok_Lot_init T, hr.mono (by decide), tk⟩ (hr.mono (by decide)) (T.glo "Lot" (T.fa 20 rfl)) rfl (pa_cons (pv 3) (pa_cons (pe_callTy call_list_of rfl (T.free "list" (T.fa 19 rfl)) (by kernel_rfl) (pa_cons (pv 8) pa_nil)) pa_nil))) pa_nil))))
    (pss_cons (ps_set (i := 26) nd rfl (.inl rfl) (pe_lst (pa_cons (pe_cmp (pc_eqI (fnd1 (T.fa 98 rfl)) (fnd2 (T.fa 98 rfl)) ⟨ok_Crew_eq T, hr.mono (by decide), tk⟩ (pv 12) (pv 24))) (pa_cons (pe_cmp (pc_eqI (fnd1 (T.fa 98 rfl)) (fnd2 (T.fa 98 rfl)) ⟨ok_Crew_eq T, hr.mono (by decide), tk⟩ (pv 24) (pv 12))) (pa_cons (pe_cmp (pc_eqI (fnd1 (T.fa 98 rfl)) (fnd2 (T.fa 98 rfl)) ⟨ok_Crew_eq T, hr.mono (by decide), tk⟩ (pe_binN (op := .LShift) (opF_ok (T.fa 103 rfl)) ⟨ok_Crew_lshift T, hr.mono (by decide), tk⟩ (by kernel_rfl) (by kernel_rfl) (pv 12) (pe_op op_mulW (pv 3) (pe_ix ix_list (pv 9) pe_int (fun _ _ => rfl)))) (pv 12))) (pa_cons (pe_cmp (pc_eqI (fnd1 (T.fa 98 rfl)) (fnd2 (T.fa 98 rfl)) ⟨ok_Crew_eq T, hr.mono (by decide), tk⟩ (pv 12) (pv 17))) (pa_cons (pe_cmp (pc_eqI (fnd1 (T.fa 98 rfl)) (fnd2 (T.fa 98 rfl)) ⟨ok_Crew_eq T, hr.mono (by decide), tk⟩ (pv 12) (pv 18))) (pa_cons (pe_cmp (pc_eqI (fnd1 (T.fa 98 rfl)) (fnd2 (T.fa 98 rfl)) ⟨ok_Crew_eq T, hr.mono (by decide), tk⟩ (pv 12) (pv 25))) (pa_cons (pe_cmp (pc_eqI (fnd1 (T.fa 98 rfl)) (fnd2 (T.fa 98 rfl)) ⟨ok_Crew_eq T, hr.mono (by decide), tk⟩ (pv 12) (pv 10))) pa_nil)))))))))
    (pss_cons (ps_if (pt_not (pt_val (pe_c1 ⟨ok_l_same_2 T, hr.mono (by decide), tk⟩ (T.glo "_law_same" (T.fa 68 rfl)) (He.keep_ok (x := "_law_same") (T.fa 69 rfl)) rfl (pa_cons (pv 26) (pa_cons (pe_lst (pa_cons pe_bl (pa_cons pe_bl (pa_cons pe_bl (pa_cons pe_bl (pa_cons pe_bl (pa_cons pe_bl (pa_cons pe_bl pa_nil)))))))) pa_nil))))) (pss_one (ps_ret pe_bl)) pss_nil)
    (pss_cons (ps_if (PW.pt (pw_or (pt_not (pt_val (pe_c1 ⟨ok_l_unlike T, hr.mono (by decide), tk⟩ (T.glo "_law_unlike" (T.fa 113 rfl)) (He.keep_ok (x := "_law_unlike") (T.fa 114 rfl)) rfl (pa_cons (pv 12) (pa_cons (pe_lst (pa_cons (pv 24) (pa_cons (pv 17) (pa_cons (pv 18) (pa_cons (pv 25) (pa_cons (pv 10) pa_nil)))))) pa_nil))))) (pw_or1 (pt_not (pt_val (pe_c1 ⟨ok_l_grown T, hr.mono (by decide), tk⟩ (T.glo "_law_grown" (T.fa 115 rfl)) (He.keep_ok (x := "_law_grown") (T.fa 116 rfl)) rfl (pa_cons (pv 12) (pa_cons (pv 21) (pa_cons (pv 19) pa_nil))))))))) (pss_one (ps_ret pe_bl)) pss_nil)
    (pss_cons (ps_if (PW.pt (pw_and (pt_cmpR op_eq (pe_ix ix_list (pv 1) pe_int (fun _ _ => rfl)) pe_int (nomark _)) (pw_and1 (pt_not (pt_val (pe_c1 ⟨ok_l_great T, hr.mono (by decide), tk⟩ (T.glo "_law_great" (T.fa 117 rfl)) (He.keep_ok (x := "_law_great") (T.fa 118 rfl)) rfl (pa_cons (pv 0) (pa_cons (pv 5) pa_nil)))))))) (pss_one (ps_ret pe_bl)) pss_nil)
    (pss_one (ps_ret (pe_c1 ⟨ok_l_shows T, hr.mono (by decide), tk⟩ (T.glo "_law_shows" (T.fa 106 rfl)) (He.keep_ok (x := "_law_shows") (T.fa 107 rfl)) rfl (pa_cons (pv 12) (pa_cons (pv 6) (pa_cons (pv 7) (pa_cons (pv 8) (pa_cons (pv 2) (pa_cons (pv 9) pa_nil)))))))))))))))))))))))))))))))))))))))))))))))
    (pure_law (T_kf T))
end
end K13

set_option maxHeartbeats 0
namespace K13
open PySem PySem.Spec PyProof.Rows L2 Bw
abbrev R : PySem.W.OpenRow := PySem.W.OpenLaw.row PySem.Challenge.rw_beatswatched_k13_crew_counted
abbrev fx (K : PySem.W.Frag) : Bool := fl.all fun f => f K
abbrev hk : PySem.W.Hook := hookR 2000 fx fn
def ob (s : PySem.W.SharedT) : AlX := obsRG 2000 fx fn (HandSHeadRun.getT s)
theorem ob_eq (s : PySem.W.SharedT) : ob s = hk.obs s.abs := obsRG_eq (HandSHeadRun.getT_eq s)
def names : List PySem.Str := (["_wall", "WatchError", "BadNumber", "TooMany", "RepeatedHour", "Meets", "OtherHours", "OtherHouse", "NotADivisor", "WrongLength", "NoPlace", "BadName"] : List PySem.Str) ++ ((["RepeatedName", "UnknownName", "LETTERS", "MOST_LETTERS", "is_name", "name_checked", "hours_checked", "rings_checked", "MOST_NUMBER", "number_checked", "divisors", "first_repeated"] : List PySem.Str) ++ ((["each_once", "turned", "Lot", "Crew", "Beat", "meetings", "House", "_law_cell", "_law_draws", "_law_two", "_law_bits", "_law_name"] : List PySem.Str) ++ ((["_law_names", "_law_gates", "_law_is_int", "_law_same", "_law_number", "_law_walked", "_law_no_row", "_law_works", "_law_shows", "_law_other_ring", "_law_great", "_law_unlike"] : List PySem.Str) ++ ((["_law_grown"] : List PySem.Str)))))
open PySem.W PySem.Calls HandSHeadRun in
noncomputable abbrev E0 (w : World) (os : OsState) : Option PySem.W.SharedT := endF (stepQ (denQ tabQ) R.prog w) 9000 R.prog w os
abbrev qv : Program := PySem.W.view R.prog [58]
def frK (s : PySem.W.SharedT) : PySem.W.Frag := He.frG (HandSHeadRun.getT s) (List.range 2000)
open PySem.W PySem.Calls HandSHeadRun in
theorem run1 (w : World) (os : OsState) : (E0 w os).map (fun s => (looksF R.prog (boot_heap w.params) s.abs, seenQ qv names (importedModules R.prog.main.body) (fun s => PySem.W.xlAt qv [] s && PySem.W.recOk R.toRowW.records s) s.abs)) = some (true, PySem.W.openGood qv names) := by
  kernel_rfl
theorem run2 (w : World) (os : OsState) : (E0 w os).map (fun s => (fun K => fx K && fn.all fun d => codeOkAt K (d.pl K) d.qn) (frK s)) = some true := by
  kernel_rfl
theorem run3 (w : World) (os : OsState) : (E0 w os).map (fun s => (fun K => fn.map fun d => seenAt K (d.pl K)) (frK s)) = some (fn.map DX.val) := by
  kernel_rfl
theorem ob_pair (s : PySem.W.SharedT) : ob s = ((fun K => fx K && fn.all fun d => codeOkAt K (d.pl K) d.qn) (frK s), (fun K => fn.map fun d => seenAt K (d.pl K)) (frK s)) := rfl
theorem val_pair (w : World) : hk.val w = (true, fn.map DX.val) := rfl
theorem run (w : World) : HandSHeadRun.RunEq R (PySem.W.view R.prog [58]) hk ob 9000 names w := by
  intro os
  exact Bw.three ob_pair (val_pair w) (run1 w os) (run2 w os) (run3 w os)
theorem facts {w : World} {K : PySem.W.Frag} {h : Heap} {mg : PySem.Str → Option Value} {f : Addr} (X : K.In h) (G : h.Ns mainGlobals mg) (hfa : mg ("law" : PySem.Str) = some (.ref f)) (c : SaysX fx fn K) :
    ∃ fd : FuncData, (∀ (s : Shared) (v : Value), BindsTo s fd ⟨[v], []⟩ [("script", v)]) ∧ ∀ base : Heap, K.In base → base.Ns mainGlobals mg → FnOk Pg w K mg base CX0 12 f fd ["script"] (sp_law K) := by
  have Th : TT w K mg h := ⟨X, G, c⟩
  obtain ⟨fd, F⟩ := c.def_ 43 (d := d_law) rfl
  have e := hfa.symm.trans (Th.glo "law" (Th.fa 146 rfl))
  cases e
  have b := F.binds (ps := ["script"]) fun _ _ _ _ _ _ us hl => match us, hl with | [_], _ => rfl
  have hkin : ∀ s : Shared, ∀ v : Value, BindsTo s fd ⟨[v], []⟩ [("script", v)] := by
    obtain ⟨oc, od, kV, doc, pm, an, cdv, ct, osl, rfl, lk, hcd⟩ := F.ex
    exact fun s v => .of_eq rfl
  exact ⟨fd, hkin, fun base B1 B2 => fn0 (law_at (base := base) ⟨B1, B2, c⟩ F) fun vs H Q E h => h⟩
end K13
open PySem PySem.W PySem.Calls PyProof.Rows
theorem PySem.Challenge.cw_beatswatched_k13_crew_counted_holds : PySem.Challenge.rw_beatswatched_k13_crew_counted.Holds := by
  w_on; o_law
  refine HandSHeadRun.head_any (r := OpenLaw.row PySem.Challenge.rw_beatswatched_k13_crew_counted) (q := view (OpenLaw.row PySem.Challenge.rw_beatswatched_k13_crew_counted).prog [58]) (H := K13.hk) (ob := K13.ob) (M := 9000) (loose := K13.names) (d := HandSHeadRun.topDef (OpenLaw.row PySem.Challenge.rw_beatswatched_k13_crew_counted).prog 58) (kwd := []) K13.ob_eq
    (by kernel_rfl) (fun s => by kernel_rfl) K13.run (by kernel_rfl) (by kernel_rfl) (by kernel_rfl) (by rfl) (by first | assumption | decide +kernel) (by decide +kernel) ⟨rfl, rfl, rfl, rfl, rfl, by decide +kernel⟩ ?hw ?hc
  case hw => w_witness2
  case hc =>
    refine L2.walk_ofE (l := PySem.Challenge.rw_beatswatched_k13_crew_counted) (n := 63) (k := 12) (x := "script") (CX := L2.CX0) rfl (by decide) (by kernel_rfl) ⟨rfl, by decide, by decide⟩ ?F (fun _ _ _ _ z => z)
    intro w mg fa h Y G hmg0
    obtain ⟨K, KX, c⟩ := Y
    have hmg : mg ("law" : PySem.Str) = some (.ref fa) := by
      have e : (HandSHeadRun.topDef (OpenLaw.row PySem.Challenge.rw_beatswatched_k13_crew_counted).prog 58).name = ("law" : PySem.Str) := by kernel_rfl
      rw [← e]
      exact hmg0
    obtain ⟨fd, hb, hF⟩ := K13.facts (w := w) KX G hmg c
    exact ⟨K, fd, Bw.sp_law K, KX, hb, fun H a ns hl _ hS => ⟨a, ns, rfl, hS, fun _ => rfl⟩, hF⟩
